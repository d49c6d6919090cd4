/- The law FnDeadlock of the given program returns true for all arguments, and its arguments read behind the call as they read before: the statement FnDeadlockSaid, with no condition. -/
import Derived.Test.YtljbgclkdfeegaaW1
import Derived.Test.YtljbgclkdfeegaaRows
namespace Go.Proofs.Ytljbgclkdfeegaa
open Go Go.AM Go.ChangeShapes Go.RowKit
set_option linter.unusedVariables false
namespace fnDeadlock
set_option maxRecDepth 10000
/- loop.example/g00332/laws.FnDeadlock -/
def k_c_FnDeadlock : XCode :=
  .seq (.ops [.op (some 4) (.mov (.k (.bool false)))])
  (.keep [0, 1] (.seq (.seq (.ops [.op (some 26) (.mov (.t 0)),
      .op (some 27) (.lenS (.t 26)),
      .op (some 28) (.bin .gtr (.t 27) (.k (.int .i64 1048576))),
      .op (some 29) (.mov (.t 28)),
      .andor 33 false 3 29 [.op (some 30) (.mov (.t 1)), .op (some 31) (.lenS (.t 30)), .op (some 32) (.bin .gtr (.t 31) (.k (.int .i64 1048576)))] (.t 32)])
   (.keep [0, 1, 33] (.cond (.t 33)
    (.seq (.ops [.op (some 4) (.mov (.k (.bool true)))])
     (.keep [4] (.ret)))
    (.skip))))
  (.keep [0, 1] (.seq (.ops [.op (some 34) (.bslice 4 []),
     .op (some 35) (.bslice 2 []),
     .op (some 36) (.build [.nils 4, .nils 2] [(0, 1, .t 34), (1, 1, .t 35)]),
     .op (some 5) (.alloc [.nils 4, .nils 2]),
     .op none (.store 2 (.t 5) (.t 36))])
  (.keep [0, 1, 5] (.seq (.ops [.op (some 37) (.mov (.t 0)),
     .call (some 38) 9 [.t 37, .k (.int .i64 0), .k (.int .i64 4)],
     .op (some 39) (.bin .add (.k (.int .i64 2)) (.t 38)),
     .op (some 6) (.mov (.t 39))])
  (.keep [1, 5, 6] (.seq (.ops [.op (some 40) (.mov (.t 1)),
     .call (some 41) 9 [.t 40, .k (.int .i64 0), .k (.int .i64 3)],
     .op (some 42) (.bin .add (.k (.int .i64 1)) (.t 41)),
     .op (some 7) (.mov (.t 42))])
  (.keep [5, 6, 7] (.seq (.seq (.ops [.op (some 8) (.mov (.k (.int .i64 0)))])
   (.keep [5, 6, 7, 8] (.block 0 (.loop (.seq (.seq (.ops [.op (some 43) (.mov (.t 8)),
         .op (some 44) (.mov (.t 6)),
         .op (some 45) (.bin .lss (.t 43) (.t 44))])
      (.keep [5, 6, 7, 8, 45] (.cond (.t 45)
       (.skip)
       (.exit 0))))
     (.keep [5, 6, 7, 8] (.seq (.block 1 (.seq (.ops [.op (some 49) (.loadN 2 (.t 5)),
          .op (some 50) (.mov (.t 8)),
          .op (some 51) (.bin .add (.k (.int .i64 1)) (.t 50)),
          .op (some 52) (.mov (.t 7)),
          .op (some 53) (.mov (.t 8)),
          .call (some 54) 19 [.t 49, .t 51, .t 52, .t 53, .k (.int .i64 4)],
          .op (some 48) (.mov (.t 54)),
          .op (some 55) (.ext (.t 48) 0),
          .op (some 56) (.ext (.t 48) 1),
          .op (some 9) (.alloc [.nils 4, .nils 2]),
          .op none (.store 2 (.t 9) (.t 55)),
          .op (some 10) (.mov (.t 56))])
       (.keep [5, 6, 7, 8, 9, 10] (.seq (.seq (.ops [.op (some 57) (.mov (.t 10)),
           .op (some 58) (.bin .neq (.t 57) (.k (.int .i64 0)))])
        (.keep [5, 6, 7, 8, 9, 58] (.cond (.t 58)
         (.seq (.ops [.op (some 4) (.mov (.k (.bool false)))])
          (.keep [4] (.ret)))
         (.skip))))
       (.keep [5, 6, 7, 8, 9] (.ops [.op (some 59) (.loadN 2 (.t 9)),
         .op none (.store 2 (.t 5) (.t 59))]))))))
     (.keep [5, 6, 7, 8] (.ops [.op (some 46) (.mov (.t 8)),
       .op (some 47) (.bin .add (.t 46) (.k (.int .i64 1))),
       .op (some 8) (.mov (.t 47))])))))))))
  (.keep [5, 6, 7] (.seq (.seq (.ops [.op (some 11) (.mov (.k (.int .i64 0)))])
   (.keep [5, 6, 7, 11] (.block 2 (.loop (.seq (.seq (.ops [.op (some 60) (.mov (.t 11)),
         .op (some 61) (.bin .add (.t 60) (.k (.int .i64 1))),
         .op (some 62) (.mov (.t 6)),
         .op (some 63) (.bin .lss (.t 61) (.t 62))])
      (.keep [5, 6, 7, 11, 63] (.cond (.t 63)
       (.skip)
       (.exit 2))))
     (.keep [5, 6, 7, 11] (.seq (.block 3 (.seq (.ops [.op (some 67) (.loadN 2 (.t 5)),
          .op (some 68) (.mov (.t 11)),
          .op (some 69) (.bin .add (.k (.int .i64 1)) (.t 68)),
          .op (some 70) (.mov (.t 7)),
          .op (some 71) (.mov (.t 11)),
          .op (some 72) (.bin .add (.t 71) (.k (.int .i64 1))),
          .call (some 73) 19 [.t 67, .t 69, .t 70, .t 72, .k (.int .i64 3)],
          .op (some 66) (.mov (.t 73)),
          .op (some 74) (.ext (.t 66) 0),
          .op (some 75) (.ext (.t 66) 1),
          .op (some 12) (.alloc [.nils 4, .nils 2]),
          .op none (.store 2 (.t 12) (.t 74)),
          .op (some 13) (.mov (.t 75))])
       (.keep [5, 6, 7, 11, 12, 13] (.seq (.seq (.ops [.op (some 76) (.mov (.t 13)),
           .op (some 77) (.bin .neq (.t 76) (.k (.int .i64 13)))])
        (.keep [5, 6, 7, 11, 12, 77] (.cond (.t 77)
         (.seq (.ops [.op (some 4) (.mov (.k (.bool false)))])
          (.keep [4] (.ret)))
         (.skip))))
       (.keep [5, 6, 7, 11, 12] (.ops [.op (some 78) (.loadN 2 (.t 12)),
         .op none (.store 2 (.t 5) (.t 78))]))))))
     (.keep [5, 6, 7, 11] (.ops [.op (some 64) (.mov (.t 11)),
       .op (some 65) (.bin .add (.t 64) (.k (.int .i64 1))),
       .op (some 11) (.mov (.t 65))])))))))))
  (.keep [5, 6, 7] (.seq (.ops [.op (some 80) (.loadN 2 (.t 5)),
     .op (some 81) (.mov (.t 6)),
     .op (some 82) (.mov (.t 7)),
     .call (some 83) 19 [.t 80, .t 81, .t 82, .k (.int .i64 0), .k (.int .i64 3)],
     .op (some 79) (.mov (.t 83)),
     .op (some 84) (.ext (.t 79) 0),
     .op (some 85) (.ext (.t 79) 1),
     .op (some 14) (.alloc [.nils 4, .nils 2]),
     .op none (.store 2 (.t 14) (.t 84)),
     .op (some 15) (.mov (.t 85))])
  (.keep [5, 6, 7, 14, 15] (.seq (.ops [.op (some 87) (.loadN 2 (.t 5)),
     .op (some 88) (.mov (.t 6)),
     .op (some 89) (.mov (.t 7)),
     .call (some 90) 20 [.t 87, .t 88, .t 89, .k (.int .i64 0), .k (.int .i64 3)],
     .op (some 86) (.mov (.t 90)),
     .op (some 91) (.ext (.t 86) 0),
     .op (some 92) (.ext (.t 86) 1),
     .op (some 16) (.alloc [.nils 4, .nils 2]),
     .op none (.store 2 (.t 16) (.t 91)),
     .op (some 17) (.mov (.t 92))])
  (.keep [6, 7, 14, 15, 16] (.seq (.ops [.op (some 94) (.loadN 2 (.t 14)),
     .op (some 95) (.mov (.t 6)),
     .call (some 96) 21 [.t 94, .t 95],
     .op (some 93) (.mov (.t 96)),
     .op (some 97) (.ext (.t 93) 0),
     .op (some 98) (.ext (.t 93) 1),
     .op (some 18) (.mov (.t 97)),
     .op (some 19) (.mov (.t 98))])
  (.keep [6, 7, 14, 15, 16, 18, 19] (.seq (.ops [.op (some 100) (.loadN 2 (.t 14)),
     .op (some 101) (.mov (.t 6)),
     .call (some 102) 10 [.t 100, .t 101],
     .op (some 99) (.mov (.t 102)),
     .op (some 103) (.ext (.t 99) 0),
     .op (some 104) (.ext (.t 99) 1),
     .op (some 20) (.alloc [.nils 4, .nils 2]),
     .op none (.store 2 (.t 20) (.t 103)),
     .op (some 21) (.mov (.t 104))])
  (.keep [6, 7, 14, 15, 16, 18, 19, 20, 21] (.seq (.ops [.op (some 106) (.loadN 2 (.t 20)),
     .op (some 107) (.mov (.t 6)),
     .op (some 108) (.bin .sub (.t 107) (.k (.int .i64 1))),
     .op (some 109) (.mov (.t 7)),
     .op (some 110) (.mov (.t 6)),
     .op (some 111) (.bin .sub (.t 110) (.k (.int .i64 1))),
     .call (some 112) 19 [.t 106, .t 108, .t 109, .t 111, .k (.int .i64 3)],
     .op (some 105) (.mov (.t 112)),
     .op (some 113) (.ext (.t 105) 0),
     .op (some 114) (.ext (.t 105) 1),
     .op (some 22) (.alloc [.nils 4, .nils 2]),
     .op none (.store 2 (.t 22) (.t 113)),
     .op (some 23) (.mov (.t 114))])
  (.keep [6, 7, 14, 15, 16, 18, 19, 21, 22, 23] (.seq (.ops [.op (some 116) (.loadN 2 (.t 22)),
     .op (some 117) (.mov (.t 6)),
     .op (some 118) (.bin .sub (.t 117) (.k (.int .i64 1))),
     .op (some 119) (.mov (.t 7)),
     .op (some 120) (.mov (.t 6)),
     .op (some 121) (.bin .sub (.t 120) (.k (.int .i64 1))),
     .call (some 122) 22 [.t 116, .t 118, .t 119, .t 121, .k (.int .i64 3)],
     .op (some 115) (.mov (.t 122)),
     .op (some 123) (.ext (.t 115) 0),
     .op (some 124) (.ext (.t 115) 1),
     .op (some 24) (.mov (.t 123)),
     .op (some 25) (.mov (.t 124))])
  (.keep [14, 15, 16, 18, 19, 21, 23, 24, 25] (.seq (.ops [.op (some 125) (.mov (.t 15)),
     .op (some 126) (.bin .eql (.t 125) (.k (.int .i64 14))),
     .op (some 127) (.mov (.t 126)),
     .andor 131 true 2 127 [.op (some 128) (.loadN 2 (.t 14)), .op (some 129) (.loadN 2 (.t 16)), .call (some 130) 13 [.t 128, .t 129]] (.t 130),
     .op (some 132) (.mov (.t 131)),
     .andor 135 true 7 132 [.op (some 133) (.mov (.t 19)), .op (some 134) (.bin .eql (.t 133) (.k (.int .i64 0)))] (.t 134),
     .op (some 136) (.mov (.t 135)),
     .andor 139 true 11 136 [.op (some 137) (.mov (.t 18)), .op (some 138) (.not (.t 137))] (.t 138),
     .op (some 140) (.mov (.t 139)),
     .andor 143 true 15 140 [.op (some 141) (.mov (.t 21)), .op (some 142) (.bin .eql (.t 141) (.k (.int .i64 0)))] (.t 142),
     .op (some 144) (.mov (.t 143)),
     .andor 147 true 19 144 [.op (some 145) (.mov (.t 23)), .op (some 146) (.bin .eql (.t 145) (.k (.int .i64 0)))] (.t 146),
     .op (some 148) (.mov (.t 147)),
     .andor 151 true 23 148 [.op (some 149) (.mov (.t 25)), .op (some 150) (.bin .eql (.t 149) (.k (.int .i64 0)))] (.t 150),
     .op (some 152) (.mov (.t 151)),
     .andor 154 true 27 152 [.op (some 153) (.mov (.t 24))] (.t 153),
     .op (some 4) (.mov (.t 154))])
  (.keep [4] (.ret))))))))))))))))))))))))))))
theorem k_c_FnDeadlock_fits : fitsF Try.prog 5 ⟨155, k_c_FnDeadlock, [.t 4]⟩ = true := by kernel_rfl
set_option maxHeartbeats 2000000 in
theorem c_FnDeadlock {code more : Str} : Con Try.prog noMv 5 [.d (.sl 1 (code.map byteRow)), .d (.sl 1 (more.map byteRow))] [] (fun r h => r = bool true ∧ h = []) := by
  refine con_of2 k_c_FnDeadlock_fits rfl fun C hP hmv => ?_
  unfold k_c_FnDeadlock
  refine cx_seq ?_
  refine cx_ops ?_
  refine ax_q (q_mov rfl) ?_
  refine ax_nil ?_
  refine cx_keep rfl rfl ?_
  refine cx_seq ?_
  refine cx_seq ?_
  refine cx_ops ?_
  refine ax_q (q_mov rfl) ?_
  first | refine ax_q (q_lenS_map rfl) ?_ | refine ax_q (q_lenS_osl rfl) ?_ | refine ax_q (q_lenS_zs rfl) ?_ | refine ax_q (q_lenS rfl) ?_
  refine ax_q (q_ibin rfl rfl rfl) ?_
  refine ax_q (q_mov rfl) ?_
  apply ax_or rfl rfl
  · intro g
    have g := dF g
    refine ax_q (q_mov rfl) ?_
    first | refine ax_q (q_lenS_map rfl) ?_ | refine ax_q (q_lenS_osl rfl) ?_ | refine ax_q (q_lenS_zs rfl) ?_ | refine ax_q (q_lenS rfl) ?_
    refine ax_q (q_ibin rfl rfl rfl) ?_
    exact ax_nil ⟨rfl, by repeat (first | exact trivial | refine ⟨rfl, ?_⟩ | refine ⟨?_, ?_⟩)⟩
  refine ax_nil ?_
  refine cx_keep rfl rfl ?_
  refine cx_cond rfl (fun h0 => ?_) (fun h0 => ?_)
  · have h0 := (fun h => (or_T h).imp dT dT) h0
    refine cx_seq ?_
    refine cx_ops ?_
    refine ax_q (q_mov rfl) ?_
    refine ax_nil ?_
    refine cx_keep rfl rfl ?_
    refine cx_ret (ret0 rfl rfl ?_)
    exact ⟨rfl, rfl⟩
  · have h0 := (fun h => And.intro (dF (or_F h).1) (dF (or_F h).2)) h0
    have hc : code.length ≤ 1048576 := by omega
    have hm : more.length ≤ 1048576 := by omega
    have ha := @atF_bounds code 0 4 (by omega)
    have hb := @atF_bounds more 0 3 (by omega)
    obtain ⟨n, hn⟩ : ∃ n : Nat, (2 + atF code 0 4) = (n : Int) := ⟨(2 + atF code 0 4).toNat, by omega⟩
    obtain ⟨T, hT⟩ : ∃ T, T = 1 + atF more 0 3 := ⟨_, rfl⟩
    obtain ⟨d1, d2, d3, d4, d5, d6, d7, d8, d9, d10, d11⟩ := dead_facts (T := T) (n := n) (by omega) (by omega)
    refine cx_skip ?_
    refine cx_keep rfl rfl ?_
    refine cx_seq ?_
    refine cx_ops ?_
    refine ax_e (e_bslice rfl (by decide) rfl rfl) ?_
    refine ax_e (e_bslice rfl (by decide) rfl rfl) ?_
    refine ax_q (q_build rfl) ?_
    refine ax_e (e_alloc (by decide) rfl rfl) ?_
    refine ax_e (e_st rfl rfl rfl rfl rfl rfl rfl) ?_
    refine ax_nil ?_
    refine cx_keep rfl rfl ?_
    refine cx_seq ?_
    refine cx_ops ?_
    refine ax_q (q_mov rfl) ?_
    first | refine ax_call rfl (vc_pure0 (c_at  ?_ ?_ ?_) hP rfl rfl ?_) | refine ax_call rfl (vc_lend0 (c_at  ?_ ?_ ?_) hP (by repeat (first | exact lal_id _ rfl | exact LAL.nil | refine LAL.cons ?_ ?_ | exact la_id _ rfl | exact LA.lend (lend_whole rfl (by first | (simp; done) | (rw [List.length_map]; rfl))) | refine LA.agg ?_ | refine LA.fn ?_ | refine LA.lend ?_ | exact Lend.d _ | exact Lend.zs _ | exact lend_whole rfl (by first | (simp; done) | (rw [List.length_map]; rfl)) | refine Lend.ptr rfl ?_ | refine Lend.fn ?_ | exact LendL.nil | refine LendL.cons ?_ ?_)) rfl rfl ?_)
    · first | assumption | omega | (simp; done) | (simp; omega)
    · first | assumption | omega | (simp; done) | (simp; omega)
    · first | assumption | omega | (simp; done) | (simp; omega)
    refine ax_q (q_add rfl rfl (by omega)) ?_
    rw [hn]
    refine ax_q (q_mov rfl) ?_
    refine ax_nil ?_
    refine cx_keep rfl rfl ?_
    refine cx_seq ?_
    refine cx_ops ?_
    refine ax_q (q_mov rfl) ?_
    first | refine ax_call rfl (vc_pure0 (c_at  ?_ ?_ ?_) hP rfl rfl ?_) | refine ax_call rfl (vc_lend0 (c_at  ?_ ?_ ?_) hP (by repeat (first | exact lal_id _ rfl | exact LAL.nil | refine LAL.cons ?_ ?_ | exact la_id _ rfl | exact LA.lend (lend_whole rfl (by first | (simp; done) | (rw [List.length_map]; rfl))) | refine LA.agg ?_ | refine LA.fn ?_ | refine LA.lend ?_ | exact Lend.d _ | exact Lend.zs _ | exact lend_whole rfl (by first | (simp; done) | (rw [List.length_map]; rfl)) | refine Lend.ptr rfl ?_ | refine Lend.fn ?_ | exact LendL.nil | refine LendL.cons ?_ ?_)) rfl rfl ?_)
    · first | assumption | omega | (simp; done) | (simp; omega)
    · first | assumption | omega | (simp; done) | (simp; omega)
    · first | assumption | omega | (simp; done) | (simp; omega)
    refine ax_q (q_add rfl rfl (by omega)) ?_
    rw [← hT]
    refine ax_q (q_mov rfl) ?_
    refine ax_nil ?_
    refine cx_keep rfl rfl ?_
    refine cx_seq ?_
    refine cx_seq ?_
    refine cx_ops ?_
    refine ax_q (q_mov rfl) ?_
    refine ax_nil ?_
    refine cx_keep rfl rfl ?_
    refine cx_block ?_
    refine cx_loopU (fun m i => i ≤ n ∧ m = n - i) (fun i : Nat => [(8, int i)]) (fun i => [(5, .box [.osl 34 4 0 (st0 T i).Held.length, .osl 35 2 0 (st0 T i).Waits.length]), (34, .rows 4 ((st0 T i).Held.map GLock.row)), (35, .rows 2 ((st0 T i).Waits.map GWait.row))]) ⟨_, 0, ⟨Nat.zero_le _, rfl⟩, by repeat (first | exact trivial | refine ⟨rfl, ?_⟩ | refine ⟨?_, ?_⟩)⟩ ?_
    rintro m i ⟨hi, rfl⟩
    obtain ⟨hw, _, hw0, hw1, _⟩ := locksOK_iff.1 (d1 i (by omega)).1
    refine cx_seq ?_
    refine cx_seq ?_
    refine cx_ops ?_
    refine ax_q (q_mov rfl) ?_
    refine ax_q (q_mov rfl) ?_
    refine ax_q (q_ibin rfl rfl rfl) ?_
    refine ax_nil ?_
    refine cx_keep rfl rfl ?_
    refine cx_cond rfl (fun h1 => ?_) (fun h1 => ?_)
    · have h1 := dT h1
      have h1x : i < n := by omega
      refine cx_skip ?_
      refine cx_keep rfl rfl ?_
      refine cx_seq ?_
      refine cx_block ?_
      refine cx_seq ?_
      refine cx_ops ?_
      first | refine ax_q (q_ldN rfl rfl rfl) ?_ | refine ax_q (q_loadN_ip rfl (Nat.le_refl _)) ?_ | refine ax_q (q_loadN_ip rfl (by decide)) ?_ | refine ax_q (q_loadN_rptr rfl rfl (by assumption) (by decide)) ?_ | refine ax_q (q_loadN_rptr rfl rfl (mapAt (by first | assumption | omega)) (by decide)) ?_
      refine ax_q (q_mov rfl) ?_
      refine ax_q (q_add rfl rfl (by omega)) ?_
      refine ax_q (q_mov rfl) ?_
      refine ax_q (q_mov rfl) ?_
      first | refine ax_call rfl (vc_pure (c_TakeLock (l := st0 T i) (x := ⟨1 + i, T, i, 4⟩) ?_ ?_) hP rfl ?_) | refine ax_call rfl (vc_lend (c_TakeLock (l := st0 T i) (x := ⟨1 + i, T, i, 4⟩) ?_ ?_) hP (by repeat (first | exact lal_id _ rfl | exact LAL.nil | refine LAL.cons ?_ ?_ | exact la_id _ rfl | exact LA.lend (lend_whole rfl (by first | (simp; done) | (rw [List.length_map]; rfl))) | refine LA.agg ?_ | refine LA.fn ?_ | refine LA.lend ?_ | exact Lend.d _ | exact Lend.zs _ | exact lend_whole rfl (by first | (simp; done) | (rw [List.length_map]; rfl)) | refine Lend.ptr rfl ?_ | refine Lend.fn ?_ | exact LendL.nil | refine LendL.cons ?_ ?_)) ?_)
      · first | assumption | omega | (simp; done) | (simp; omega)
      · first | assumption | omega | (simp; done) | (simp; omega)
      rintro r h ⟨rfl, rfl⟩
      refine ⟨fun i => 54 + 200 * i, [0, 1], ⟨rfl, rfl, rfl, rfl, rfl, (by first | exact (fun h => absurd h Bool.false_ne_true) | exact (fun _ => ⟨rfl, (noisl_of (by repeat (first | exact trivial | refine ⟨noisl_map (fun _ => rfl), ?_⟩ | refine ⟨?_, ?_⟩)))⟩))⟩, ?_⟩
      skip
      refine ax_q (q_mov rfl) ?_
      refine ax_q (q_ext rfl rfl) ?_
      refine ax_q (q_ext rfl rfl) ?_
      refine ax_e (e_alloc (by decide) rfl rfl) ?_
      refine ax_e (e_st rfl rfl rfl rfl rfl rfl rfl) ?_
      refine ax_q (q_mov rfl) ?_
      refine ax_nil ?_
      refine cx_keep rfl rfl ?_
      refine cx_seq ?_
      refine cx_seq ?_
      refine cx_ops ?_
      refine ax_q (q_mov rfl) ?_
      refine ax_q (q_ibin rfl rfl rfl) ?_
      refine ax_nil ?_
      refine cx_keep rfl rfl ?_
      refine cx_cond rfl (fun h2 => ?_) (fun h2 => ?_)
      · have h2 := nT h2
        exact absurd h2 (by rw [d2 i h1x]; simp)
      · have h2 := nF h2
        refine cx_skip ?_
        refine cx_keep rfl rfl ?_
        refine cx_ops ?_
        first | refine ax_q (q_ldN rfl rfl rfl) ?_ | refine ax_q (q_loadN_ip rfl (Nat.le_refl _)) ?_ | refine ax_q (q_loadN_ip rfl (by decide)) ?_ | refine ax_q (q_loadN_rptr rfl rfl (by assumption) (by decide)) ?_ | refine ax_q (q_loadN_rptr rfl rfl (mapAt (by first | assumption | omega)) (by decide)) ?_
        refine ax_e (e_st rfl rfl rfl rfl rfl rfl rfl) ?_
        refine ax_wk ((wk_swap 54 34 rfl rfl).trans (wk_swap 254 35 rfl rfl)) ?_
        refine ax_nil ?_
        refine cx_keep rfl rfl ?_
        refine cx_ops ?_
        refine ax_q (q_mov rfl) ?_
        refine ax_qe (r' := int ((i + 1 : Nat) : Int)) (q_ibin rfl rfl rfl) (by rw [wi (by omega) (by omega)]; rfl) ?_
        refine ax_q (q_mov rfl) ?_
        refine ax_nil ?_
        exact ⟨_, i + 1, by omega, ⟨by omega, rfl⟩, by repeat (first | exact trivial | refine ⟨rfl, ?_⟩ | refine ⟨?_, ?_⟩)⟩
    · have h1 := dF h1
      have h1x : n = i := by omega
      subst h1x
      refine cx_exit rfl ?_
      refine cx_keep rfl rfl ?_
      refine cx_seq ?_
      refine cx_seq ?_
      refine cx_ops ?_
      refine ax_q (q_mov rfl) ?_
      refine ax_nil ?_
      refine cx_keep rfl rfl ?_
      refine cx_block ?_
      refine cx_loopU (fun m i => i ≤ n - 1 ∧ m = n - 1 - i) (fun i : Nat => [(11, int i)]) (fun i => [(5, .box [.osl 34 4 0 (st1 T n i).Held.length, .osl 35 2 0 (st1 T n i).Waits.length]), (34, .rows 4 ((st1 T n i).Held.map GLock.row)), (35, .rows 2 ((st1 T n i).Waits.map GWait.row))]) ⟨_, 0, ⟨Nat.zero_le _, rfl⟩, by repeat (first | exact trivial | refine ⟨rfl, ?_⟩ | refine ⟨?_, ?_⟩)⟩ ?_
      rintro m i ⟨hi, rfl⟩
      obtain ⟨hw, _, hw0, hw1, _⟩ := locksOK_iff.1 (d1 i (by omega)).2
      refine cx_seq ?_
      refine cx_seq ?_
      refine cx_ops ?_
      refine ax_q (q_mov rfl) ?_
      refine ax_q (q_add rfl rfl (by omega)) ?_
      refine ax_q (q_mov rfl) ?_
      refine ax_q (q_ibin rfl rfl rfl) ?_
      refine ax_nil ?_
      refine cx_keep rfl rfl ?_
      refine cx_cond rfl (fun h3 => ?_) (fun h3 => ?_)
      · have h3 := dT h3
        have h3x : i < n - 1 := by omega
        refine cx_skip ?_
        refine cx_keep rfl rfl ?_
        refine cx_seq ?_
        refine cx_block ?_
        refine cx_seq ?_
        refine cx_ops ?_
        first | refine ax_q (q_ldN rfl rfl rfl) ?_ | refine ax_q (q_loadN_ip rfl (Nat.le_refl _)) ?_ | refine ax_q (q_loadN_ip rfl (by decide)) ?_ | refine ax_q (q_loadN_rptr rfl rfl (by assumption) (by decide)) ?_ | refine ax_q (q_loadN_rptr rfl rfl (mapAt (by first | assumption | omega)) (by decide)) ?_
        refine ax_q (q_mov rfl) ?_
        refine ax_q (q_add rfl rfl (by omega)) ?_
        refine ax_q (q_mov rfl) ?_
        refine ax_q (q_mov rfl) ?_
        refine ax_q (q_add rfl rfl (by omega)) ?_
        first | refine ax_call rfl (vc_pure (c_TakeLock (l := st1 T n i) (x := ⟨1 + i, T, i + 1, 3⟩) ?_ ?_) hP rfl ?_) | refine ax_call rfl (vc_lend (c_TakeLock (l := st1 T n i) (x := ⟨1 + i, T, i + 1, 3⟩) ?_ ?_) hP (by repeat (first | exact lal_id _ rfl | exact LAL.nil | refine LAL.cons ?_ ?_ | exact la_id _ rfl | exact LA.lend (lend_whole rfl (by first | (simp; done) | (rw [List.length_map]; rfl))) | refine LA.agg ?_ | refine LA.fn ?_ | refine LA.lend ?_ | exact Lend.d _ | exact Lend.zs _ | exact lend_whole rfl (by first | (simp; done) | (rw [List.length_map]; rfl)) | refine Lend.ptr rfl ?_ | refine Lend.fn ?_ | exact LendL.nil | refine LendL.cons ?_ ?_)) ?_)
        · first | assumption | omega | (simp; done) | (simp; omega)
        · first | assumption | omega | (simp; done) | (simp; omega)
        rintro r h ⟨rfl, rfl⟩
        refine ⟨fun i => 73 + 200 * i, [0, 1], ⟨rfl, rfl, rfl, rfl, rfl, (by first | exact (fun h => absurd h Bool.false_ne_true) | exact (fun _ => ⟨rfl, (noisl_of (by repeat (first | exact trivial | refine ⟨noisl_map (fun _ => rfl), ?_⟩ | refine ⟨?_, ?_⟩)))⟩))⟩, ?_⟩
        skip
        refine ax_q (q_mov rfl) ?_
        refine ax_q (q_ext rfl rfl) ?_
        refine ax_q (q_ext rfl rfl) ?_
        refine ax_e (e_alloc (by decide) rfl rfl) ?_
        refine ax_e (e_st rfl rfl rfl rfl rfl rfl rfl) ?_
        refine ax_q (q_mov rfl) ?_
        refine ax_nil ?_
        refine cx_keep rfl rfl ?_
        refine cx_seq ?_
        refine cx_seq ?_
        refine cx_ops ?_
        refine ax_q (q_mov rfl) ?_
        refine ax_q (q_ibin rfl rfl rfl) ?_
        refine ax_nil ?_
        refine cx_keep rfl rfl ?_
        refine cx_cond rfl (fun h4 => ?_) (fun h4 => ?_)
        · have h4 := nT h4
          exact absurd h4 (by rw [d3 i h3x]; simp)
        · have h4 := nF h4
          refine cx_skip ?_
          refine cx_keep rfl rfl ?_
          refine cx_ops ?_
          first | refine ax_q (q_ldN rfl rfl rfl) ?_ | refine ax_q (q_loadN_ip rfl (Nat.le_refl _)) ?_ | refine ax_q (q_loadN_ip rfl (by decide)) ?_ | refine ax_q (q_loadN_rptr rfl rfl (by assumption) (by decide)) ?_ | refine ax_q (q_loadN_rptr rfl rfl (mapAt (by first | assumption | omega)) (by decide)) ?_
          refine ax_e (e_st rfl rfl rfl rfl rfl rfl rfl) ?_
          refine ax_wk ((wk_swap 73 34 rfl rfl).trans (wk_swap 273 35 rfl rfl)) ?_
          refine ax_nil ?_
          refine cx_keep rfl rfl ?_
          refine cx_ops ?_
          refine ax_q (q_mov rfl) ?_
          refine ax_qe (r' := int ((i + 1 : Nat) : Int)) (q_ibin rfl rfl rfl) (by rw [wi (by omega) (by omega)]; rfl) ?_
          refine ax_q (q_mov rfl) ?_
          refine ax_nil ?_
          exact ⟨_, i + 1, by omega, ⟨by omega, rfl⟩, by repeat (first | exact trivial | refine ⟨rfl, ?_⟩ | refine ⟨?_, ?_⟩)⟩
      · have h3 := dF h3
        have h3x : i = n - 1 := by omega
        subst h3x
        have hwf := locksOK_wf (d1 (n - 1) (by omega)).2
        obtain ⟨_, _, b0, b1, _⟩ := locksOK_iff.1 d4
        obtain ⟨_, _, b2, b3, _⟩ := locksOK_iff.1 d8
        obtain ⟨_, _, b4, b5, _⟩ := locksOK_iff.1 d10
        refine cx_exit rfl ?_
        refine cx_keep rfl rfl ?_
        refine cx_seq ?_
        refine cx_ops ?_
        first | refine ax_q (q_ldN rfl rfl rfl) ?_ | refine ax_q (q_loadN_ip rfl (Nat.le_refl _)) ?_ | refine ax_q (q_loadN_ip rfl (by decide)) ?_ | refine ax_q (q_loadN_rptr rfl rfl (by assumption) (by decide)) ?_ | refine ax_q (q_loadN_rptr rfl rfl (mapAt (by first | assumption | omega)) (by decide)) ?_
        refine ax_q (q_mov rfl) ?_
        refine ax_q (q_mov rfl) ?_
        first | refine ax_call rfl (vc_pure (c_TakeLock (x := ⟨n, T, 0, 3⟩) ?_ ?_) hP rfl ?_) | refine ax_call rfl (vc_lend (c_TakeLock (x := ⟨n, T, 0, 3⟩) ?_ ?_) hP (by repeat (first | exact lal_id _ rfl | exact LAL.nil | refine LAL.cons ?_ ?_ | exact la_id _ rfl | exact LA.lend (lend_whole rfl (by first | (simp; done) | (rw [List.length_map]; rfl))) | refine LA.agg ?_ | refine LA.fn ?_ | refine LA.lend ?_ | exact Lend.d _ | exact Lend.zs _ | exact lend_whole rfl (by first | (simp; done) | (rw [List.length_map]; rfl)) | refine Lend.ptr rfl ?_ | refine Lend.fn ?_ | exact LendL.nil | refine LendL.cons ?_ ?_)) ?_)
        · first | assumption | omega | (simp; done) | (simp; omega)
        · first | assumption | omega | (simp; done) | (simp; omega)
        rintro r h ⟨rfl, rfl⟩
        refine ⟨fun i => 83 + 200 * i, [0, 1], ⟨rfl, rfl, rfl, rfl, rfl, (by first | exact (fun h => absurd h Bool.false_ne_true) | exact (fun _ => ⟨rfl, (noisl_of (by repeat (first | exact trivial | refine ⟨noisl_map (fun _ => rfl), ?_⟩ | refine ⟨?_, ?_⟩)))⟩))⟩, ?_⟩
        skip
        rw [show takeLock (st1 T n (n - 1)) ⟨n, T, 0, 3⟩ = lastL T n from rfl]
        refine ax_q (q_mov rfl) ?_
        refine ax_q (q_ext rfl rfl) ?_
        refine ax_q (q_ext rfl rfl) ?_
        refine ax_e (e_alloc (by decide) rfl rfl) ?_
        refine ax_e (e_st rfl rfl rfl rfl rfl rfl rfl) ?_
        refine ax_q (q_mov rfl) ?_
        refine ax_nil ?_
        refine cx_keep rfl rfl ?_
        refine cx_seq ?_
        refine cx_ops ?_
        first | refine ax_q (q_ldN rfl rfl rfl) ?_ | refine ax_q (q_loadN_ip rfl (Nat.le_refl _)) ?_ | refine ax_q (q_loadN_ip rfl (by decide)) ?_ | refine ax_q (q_loadN_rptr rfl rfl (by assumption) (by decide)) ?_ | refine ax_q (q_loadN_rptr rfl rfl (mapAt (by first | assumption | omega)) (by decide)) ?_
        refine ax_q (q_mov rfl) ?_
        refine ax_q (q_mov rfl) ?_
        first | refine ax_call rfl (vc_pure (c_sTakeLock (x := ⟨n, T, 0, 3⟩) ?_ ?_ ?_) hP rfl ?_) | refine ax_call rfl (vc_lend (c_sTakeLock (x := ⟨n, T, 0, 3⟩) ?_ ?_ ?_) hP (by repeat (first | exact lal_id _ rfl | exact LAL.nil | refine LAL.cons ?_ ?_ | exact la_id _ rfl | exact LA.lend (lend_whole rfl (by first | (simp; done) | (rw [List.length_map]; rfl))) | refine LA.agg ?_ | refine LA.fn ?_ | refine LA.lend ?_ | exact Lend.d _ | exact Lend.zs _ | exact lend_whole rfl (by first | (simp; done) | (rw [List.length_map]; rfl)) | refine Lend.ptr rfl ?_ | refine Lend.fn ?_ | exact LendL.nil | refine LendL.cons ?_ ?_)) ?_)
        · first | assumption | omega | (simp; done) | (simp; omega)
        · first | assumption | omega | (simp; done) | (simp; omega)
        · first | assumption | omega | (simp; done) | (simp; omega)
        rintro r h ⟨rfl, rfl⟩
        refine ⟨fun i => 90 + 200 * i, [0, 1], ⟨rfl, rfl, rfl, rfl, rfl, (by first | exact (fun h => absurd h Bool.false_ne_true) | exact (fun _ => ⟨rfl, (noisl_of (by repeat (first | exact trivial | refine ⟨noisl_map (fun _ => rfl), ?_⟩ | refine ⟨?_, ?_⟩)))⟩))⟩, ?_⟩
        skip
        rw [show takeLock (st1 T n (n - 1)) ⟨n, T, 0, 3⟩ = lastL T n from rfl]
        refine ax_q (q_mov rfl) ?_
        refine ax_q (q_ext rfl rfl) ?_
        refine ax_q (q_ext rfl rfl) ?_
        refine ax_e (e_alloc (by decide) rfl rfl) ?_
        refine ax_e (e_st rfl rfl rfl rfl rfl rfl rfl) ?_
        refine ax_q (q_mov rfl) ?_
        refine ax_nil ?_
        refine cx_keep rfl rfl ?_
        refine cx_seq ?_
        refine cx_ops ?_
        first | refine ax_q (q_ldN rfl rfl rfl) ?_ | refine ax_q (q_loadN_ip rfl (Nat.le_refl _)) ?_ | refine ax_q (q_loadN_ip rfl (by decide)) ?_ | refine ax_q (q_loadN_rptr rfl rfl (by assumption) (by decide)) ?_ | refine ax_q (q_loadN_rptr rfl rfl (mapAt (by first | assumption | omega)) (by decide)) ?_
        refine ax_q (q_mov rfl) ?_
        first | refine ax_call rfl (vc_pure0 (c_WaitsRound  ?_ ?_) hP rfl rfl ?_) | refine ax_call rfl (vc_lend0 (c_WaitsRound  ?_ ?_) hP (by repeat (first | exact lal_id _ rfl | exact LAL.nil | refine LAL.cons ?_ ?_ | exact la_id _ rfl | exact LA.lend (lend_whole rfl (by first | (simp; done) | (rw [List.length_map]; rfl))) | refine LA.agg ?_ | refine LA.fn ?_ | refine LA.lend ?_ | exact Lend.d _ | exact Lend.zs _ | exact lend_whole rfl (by first | (simp; done) | (rw [List.length_map]; rfl)) | refine Lend.ptr rfl ?_ | refine Lend.fn ?_ | exact LendL.nil | refine LendL.cons ?_ ?_)) rfl rfl ?_)
        · first | assumption | omega | (simp; done) | (simp; omega)
        · first | assumption | omega | (simp; done) | (simp; omega)
        rw [d6]
        refine ax_q (q_mov rfl) ?_
        refine ax_q (q_ext rfl rfl) ?_
        refine ax_q (q_ext rfl rfl) ?_
        refine ax_q (q_mov rfl) ?_
        refine ax_q (q_mov rfl) ?_
        refine ax_nil ?_
        refine cx_keep rfl rfl ?_
        refine cx_seq ?_
        refine cx_ops ?_
        first | refine ax_q (q_ldN rfl rfl rfl) ?_ | refine ax_q (q_loadN_ip rfl (Nat.le_refl _)) ?_ | refine ax_q (q_loadN_ip rfl (by decide)) ?_ | refine ax_q (q_loadN_rptr rfl rfl (by assumption) (by decide)) ?_ | refine ax_q (q_loadN_rptr rfl rfl (mapAt (by first | assumption | omega)) (by decide)) ?_
        refine ax_q (q_mov rfl) ?_
        revert d5 d6 d7 d8 d9 d10 d11 b0 b1 b2 b3 b4 b5
        unfold lastG lastF
        generalize lastL T n = L0
        intro d5 d6 d7 d8 d9 d10 d11 b0 b1 b2 b3 b4 b5
        
        first | refine ax_call rfl (vc_pure (c_FreeLocks  ?_ ?_) hP rfl ?_) | refine ax_call rfl (vc_lend (c_FreeLocks  ?_ ?_) hP (by repeat (first | exact lal_id _ rfl | exact LAL.nil | refine LAL.cons ?_ ?_ | exact la_id _ rfl | exact LA.lend (lend_whole rfl (by first | (simp; done) | (rw [List.length_map]; rfl))) | refine LA.agg ?_ | refine LA.fn ?_ | refine LA.lend ?_ | exact Lend.d _ | exact Lend.zs _ | exact lend_whole rfl (by first | (simp; done) | (rw [List.length_map]; rfl)) | refine Lend.ptr rfl ?_ | refine Lend.fn ?_ | exact LendL.nil | refine LendL.cons ?_ ?_)) ?_)
        · first | assumption | omega | (simp; done) | (simp; omega)
        · first | assumption | omega | (simp; done) | (simp; omega)
        rintro r h ⟨rfl, rfl⟩
        refine ⟨fun i => 102 + 200 * i, [0, 1], ⟨rfl, rfl, rfl, rfl, rfl, (by first | exact (fun h => absurd h Bool.false_ne_true) | exact (fun _ => ⟨rfl, (noisl_of (by repeat (first | exact trivial | refine ⟨noisl_map (fun _ => rfl), ?_⟩ | refine ⟨?_, ?_⟩)))⟩))⟩, ?_⟩
        skip
        revert d7 d8 d9 d10 d11 b2 b3 b4 b5
        generalize freeLocks L0.1 n = L1
        intro d7 d8 d9 d10 d11 b2 b3 b4 b5
        refine ax_q (q_mov rfl) ?_
        refine ax_q (q_ext rfl rfl) ?_
        refine ax_q (q_ext rfl rfl) ?_
        refine ax_e (e_alloc (by decide) rfl rfl) ?_
        refine ax_e (e_st rfl rfl rfl rfl rfl rfl rfl) ?_
        refine ax_q (q_mov rfl) ?_
        refine ax_nil ?_
        refine cx_keep rfl rfl ?_
        refine cx_seq ?_
        refine cx_ops ?_
        first | refine ax_q (q_ldN rfl rfl rfl) ?_ | refine ax_q (q_loadN_ip rfl (Nat.le_refl _)) ?_ | refine ax_q (q_loadN_ip rfl (by decide)) ?_ | refine ax_q (q_loadN_rptr rfl rfl (by assumption) (by decide)) ?_ | refine ax_q (q_loadN_rptr rfl rfl (mapAt (by first | assumption | omega)) (by decide)) ?_
        refine ax_q (q_mov rfl) ?_
        refine ax_q (q_sub rfl rfl (by omega)) ?_
        refine ax_q (q_mov rfl) ?_
        refine ax_q (q_mov rfl) ?_
        refine ax_q (q_sub rfl rfl (by omega)) ?_
        first | refine ax_call rfl (vc_pure (c_TakeLock (x := ⟨(n : Int) - 1, T, (n : Int) - 1, 3⟩) ?_ ?_) hP rfl ?_) | refine ax_call rfl (vc_lend (c_TakeLock (x := ⟨(n : Int) - 1, T, (n : Int) - 1, 3⟩) ?_ ?_) hP (by repeat (first | exact lal_id _ rfl | exact LAL.nil | refine LAL.cons ?_ ?_ | exact la_id _ rfl | exact LA.lend (lend_whole rfl (by first | (simp; done) | (rw [List.length_map]; rfl))) | refine LA.agg ?_ | refine LA.fn ?_ | refine LA.lend ?_ | exact Lend.d _ | exact Lend.zs _ | exact lend_whole rfl (by first | (simp; done) | (rw [List.length_map]; rfl)) | refine Lend.ptr rfl ?_ | refine Lend.fn ?_ | exact LendL.nil | refine LendL.cons ?_ ?_)) ?_)
        · first | assumption | omega | (simp; done) | (simp; omega)
        · first | assumption | omega | (simp; done) | (simp; omega)
        rintro r h ⟨rfl, rfl⟩
        refine ⟨fun i => 112 + 200 * i, [0, 1], ⟨rfl, rfl, rfl, rfl, rfl, (by first | exact (fun h => absurd h Bool.false_ne_true) | exact (fun _ => ⟨rfl, (noisl_of (by repeat (first | exact trivial | refine ⟨noisl_map (fun _ => rfl), ?_⟩ | refine ⟨?_, ?_⟩)))⟩))⟩, ?_⟩
        skip
        revert d9 d10 d11 b4 b5
        generalize takeLock L1.1 ⟨(n : Int) - 1, T, (n : Int) - 1, 3⟩ = L2
        intro d9 d10 d11 b4 b5
        refine ax_q (q_mov rfl) ?_
        refine ax_q (q_ext rfl rfl) ?_
        refine ax_q (q_ext rfl rfl) ?_
        refine ax_e (e_alloc (by decide) rfl rfl) ?_
        refine ax_e (e_st rfl rfl rfl rfl rfl rfl rfl) ?_
        refine ax_q (q_mov rfl) ?_
        refine ax_nil ?_
        refine cx_keep rfl rfl ?_
        refine cx_seq ?_
        refine cx_ops ?_
        first | refine ax_q (q_ldN rfl rfl rfl) ?_ | refine ax_q (q_loadN_ip rfl (Nat.le_refl _)) ?_ | refine ax_q (q_loadN_ip rfl (by decide)) ?_ | refine ax_q (q_loadN_rptr rfl rfl (by assumption) (by decide)) ?_ | refine ax_q (q_loadN_rptr rfl rfl (mapAt (by first | assumption | omega)) (by decide)) ?_
        refine ax_q (q_mov rfl) ?_
        refine ax_q (q_sub rfl rfl (by omega)) ?_
        refine ax_q (q_mov rfl) ?_
        refine ax_q (q_mov rfl) ?_
        refine ax_q (q_sub rfl rfl (by omega)) ?_
        first | refine ax_call rfl (vc_pure0 (c_HoldsLock (x := ⟨(n : Int) - 1, T, (n : Int) - 1, 3⟩) ?_ ?_) hP rfl rfl ?_) | refine ax_call rfl (vc_lend0 (c_HoldsLock (x := ⟨(n : Int) - 1, T, (n : Int) - 1, 3⟩) ?_ ?_) hP (by repeat (first | exact lal_id _ rfl | exact LAL.nil | refine LAL.cons ?_ ?_ | exact la_id _ rfl | exact LA.lend (lend_whole rfl (by first | (simp; done) | (rw [List.length_map]; rfl))) | refine LA.agg ?_ | refine LA.fn ?_ | refine LA.lend ?_ | exact Lend.d _ | exact Lend.zs _ | exact lend_whole rfl (by first | (simp; done) | (rw [List.length_map]; rfl)) | refine Lend.ptr rfl ?_ | refine Lend.fn ?_ | exact LendL.nil | refine LendL.cons ?_ ?_)) rfl rfl ?_)
        · first | assumption | omega | (simp; done) | (simp; omega)
        · first | assumption | omega | (simp; done) | (simp; omega)
        rw [d11]
        refine ax_q (q_mov rfl) ?_
        refine ax_q (q_ext rfl rfl) ?_
        refine ax_q (q_ext rfl rfl) ?_
        refine ax_q (q_mov rfl) ?_
        refine ax_q (q_mov rfl) ?_
        refine ax_nil ?_
        refine cx_keep rfl rfl ?_
        refine cx_seq ?_
        refine cx_ops ?_
        refine ax_q (q_mov rfl) ?_
        refine ax_q (q_ibin rfl rfl rfl) ?_
        refine ax_q (q_mov rfl) ?_
        apply ax_and rfl rfl
        · intro g
          have g := dT g
          first | refine ax_q (q_ldN rfl rfl rfl) ?_ | refine ax_q (q_loadN_ip rfl (Nat.le_refl _)) ?_ | refine ax_q (q_loadN_ip rfl (by decide)) ?_ | refine ax_q (q_loadN_rptr rfl rfl (by assumption) (by decide)) ?_ | refine ax_q (q_loadN_rptr rfl rfl (mapAt (by first | assumption | omega)) (by decide)) ?_
          first | refine ax_q (q_ldN rfl rfl rfl) ?_ | refine ax_q (q_loadN_ip rfl (Nat.le_refl _)) ?_ | refine ax_q (q_loadN_ip rfl (by decide)) ?_ | refine ax_q (q_loadN_rptr rfl rfl (by assumption) (by decide)) ?_ | refine ax_q (q_loadN_rptr rfl rfl (mapAt (by first | assumption | omega)) (by decide)) ?_
          first | refine ax_call rfl (vc_pure0 (c_sameLocks  ?_ ?_) hP rfl rfl ?_) | refine ax_call rfl (vc_lend0 (c_sameLocks  ?_ ?_) hP (by repeat (first | exact lal_id _ rfl | exact LAL.nil | refine LAL.cons ?_ ?_ | exact la_id _ rfl | exact LA.lend (lend_whole rfl (by first | (simp; done) | (rw [List.length_map]; rfl))) | refine LA.agg ?_ | refine LA.fn ?_ | refine LA.lend ?_ | exact Lend.d _ | exact Lend.zs _ | exact lend_whole rfl (by first | (simp; done) | (rw [List.length_map]; rfl)) | refine Lend.ptr rfl ?_ | refine Lend.fn ?_ | exact LendL.nil | refine LendL.cons ?_ ?_)) rfl rfl ?_)
          · first | assumption | omega | (simp; done) | (simp; omega)
          · first | assumption | omega | (simp; done) | (simp; omega)
          exact ax_nil ⟨rfl, by repeat (first | exact trivial | refine ⟨rfl, ?_⟩ | refine ⟨?_, ?_⟩)⟩
        refine ax_q (q_mov rfl) ?_
        apply ax_and rfl rfl
        · intro g
          have g := (fun h => And.intro (dT (and_T h).1) (id (and_T h).2)) g
          refine ax_q (q_mov rfl) ?_
          refine ax_q (q_ibin rfl rfl rfl) ?_
          exact ax_nil ⟨rfl, by repeat (first | exact trivial | refine ⟨rfl, ?_⟩ | refine ⟨?_, ?_⟩)⟩
        refine ax_q (q_mov rfl) ?_
        apply ax_and rfl rfl
        · intro g
          have g := (fun h => And.intro ((fun h => And.intro (dT (and_T h).1) (id (and_T h).2)) (and_T h).1) (dT (and_T h).2)) g
          refine ax_q (q_mov rfl) ?_
          refine ax_q (q_not rfl) ?_
          exact ax_nil ⟨rfl, by repeat (first | exact trivial | refine ⟨rfl, ?_⟩ | refine ⟨?_, ?_⟩)⟩
        refine ax_q (q_mov rfl) ?_
        apply ax_and rfl rfl
        · intro g
          have g := (fun h => And.intro ((fun h => And.intro ((fun h => And.intro (dT (and_T h).1) (id (and_T h).2)) (and_T h).1) (dT (and_T h).2)) (and_T h).1) (bT (and_T h).2)) g
          refine ax_q (q_mov rfl) ?_
          refine ax_q (q_ibin rfl rfl rfl) ?_
          exact ax_nil ⟨rfl, by repeat (first | exact trivial | refine ⟨rfl, ?_⟩ | refine ⟨?_, ?_⟩)⟩
        refine ax_q (q_mov rfl) ?_
        apply ax_and rfl rfl
        · intro g
          have g := (fun h => And.intro ((fun h => And.intro ((fun h => And.intro ((fun h => And.intro (dT (and_T h).1) (id (and_T h).2)) (and_T h).1) (dT (and_T h).2)) (and_T h).1) (bT (and_T h).2)) (and_T h).1) (dT (and_T h).2)) g
          refine ax_q (q_mov rfl) ?_
          refine ax_q (q_ibin rfl rfl rfl) ?_
          exact ax_nil ⟨rfl, by repeat (first | exact trivial | refine ⟨rfl, ?_⟩ | refine ⟨?_, ?_⟩)⟩
        refine ax_q (q_mov rfl) ?_
        apply ax_and rfl rfl
        · intro g
          have g := (fun h => And.intro ((fun h => And.intro ((fun h => And.intro ((fun h => And.intro ((fun h => And.intro (dT (and_T h).1) (id (and_T h).2)) (and_T h).1) (dT (and_T h).2)) (and_T h).1) (bT (and_T h).2)) (and_T h).1) (dT (and_T h).2)) (and_T h).1) (dT (and_T h).2)) g
          refine ax_q (q_mov rfl) ?_
          refine ax_q (q_ibin rfl rfl rfl) ?_
          exact ax_nil ⟨rfl, by repeat (first | exact trivial | refine ⟨rfl, ?_⟩ | refine ⟨?_, ?_⟩)⟩
        refine ax_q (q_mov rfl) ?_
        apply ax_and rfl rfl
        · intro g
          have g := (fun h => And.intro ((fun h => And.intro ((fun h => And.intro ((fun h => And.intro ((fun h => And.intro ((fun h => And.intro (dT (and_T h).1) (id (and_T h).2)) (and_T h).1) (dT (and_T h).2)) (and_T h).1) (bT (and_T h).2)) (and_T h).1) (dT (and_T h).2)) (and_T h).1) (dT (and_T h).2)) (and_T h).1) (dT (and_T h).2)) g
          refine ax_q (q_mov rfl) ?_
          exact ax_nil ⟨rfl, by repeat (first | exact trivial | refine ⟨rfl, ?_⟩ | refine ⟨?_, ?_⟩)⟩
        refine ax_q (q_mov rfl) ?_
        refine ax_nil ?_
        refine cx_keep rfl rfl ?_
        refine cx_ret (ret0 rfl rfl ?_)
        exact ⟨by simp [eqb_rfl, mkRes, d5, d7, d9], rfl⟩

theorem own : ownKnob Try.prog.godebug = none := by kernel_rfl
theorem laid : laidOutB Try.prog = true := by kernel_rfl
theorem closedTs : closedT Try.prog [5, 22] = true := by kernel_rfl
theorem con (rows : List (List D)) (h : HasAll Try.prog Try.f5.params.toList rows) : Con Try.prog noMv 5 (argsAV Try.prog Try.f5.params.toList rows) [] (fun r h => r = AM.bool true ∧ h = []) := by
  rw [Try.params5] at h ⊢
  obtain ⟨d0, r0, rfl, h0, h⟩ := h
  obtain ⟨d1, r1, rfl, h1, h⟩ := h
  obtain rfl := h
  obtain ⟨a0, rfl, w0⟩ := (dec_slice (sz := 1) Try.underlying22 (by kernel_rfl) (dec_byte Try.underlying5)) h0
  obtain ⟨a1, rfl, w1⟩ := (dec_slice (sz := 1) Try.underlying22 (by kernel_rfl) (dec_byte Try.underlying5)) h1
  have e : argsAV Try.prog [22, 22] [[.sl 1 (a0.map byteRow)], [.sl 1 (a1.map byteRow)]] = [.d (.sl 1 (a0.map byteRow)), .d (.sl 1 (a1.map byteRow))] := by
    first | (simp only [argsAV, argAV, Try.underlying22]; done) | (simp only [argsAV, argAV, Try.underlying22]; rfl)
  show Con Try.prog noMv 5 (argsAV Try.prog [22, 22] [[.sl 1 (a0.map byteRow)], [.sl 1 (a1.map byteRow)]]) [] _
  rw [e]
  exact c_FnDeadlock
set_option maxRecDepth 100000 in
theorem lifted (os : Os) (started : os.Started) (H : Type) (enc : TypeId × Value → H) :
    ReturnsInHanded {} Try.checked os 5 .any (Rows.fnDeadlockSpec.pre6 enc Try.prog Try.f5 Rows.fnDeadlockRow.domain false) (Rows.fnDeadlockSpec.post enc Try.prog Try.f5 false true false false) := by
  refine returnsInHanded_of_change (C := Try.checked) own started (by kernel_rfl) Try.func5
    (ChangeSpec.witness6 (enc := enc) (C := Try.checked) false ⟨#[], #[.slice none 0 0, .slice none 0 0], []⟩ 8 (by kernel_rfl) (by kernel_rfl) (by kernel_rfl) (by kernel_rfl)) ?_
  intro W base args ds gs before hval hW hcnd _
  refine law_contract closedTs laid (by kernel_rfl) rfl rfl Try.underlying4 con (fun hl => ?_) hval hW
  match ds, hl with
  | [x0, x1], _ => rfl
theorem over : Rows.fnDeadlockRow.holds Try.pinned (OpenSpec.ofChange Rows.fnDeadlockSpec) :=
  OpenClaim.holds_of_wide 5 Try.f5 rfl rfl rfl rfl rfl rfl rfl ⟨rfl, rfl, rfl, rfl, rfl⟩ rfl rfl rfl rfl rfl (by kernel_rfl) Try.func5 (by kernel_rfl)
    (of_decide_eq_true (by kernel_rfl)) (by unfold Func.isWrapper; first | (rw [if_pos (by decide +kernel)]; kernel_rfl) | (rw [if_neg (by decide +kernel)]; exact ⟨rfl, rfl⟩))
    (fun os started H enc _ => lifted os started H enc)
theorem proved : Rows.FnDeadlockSaid := over
end fnDeadlock
end Go.Proofs.Ytljbgclkdfeegaa
#print axioms Go.Proofs.Ytljbgclkdfeegaa.fnDeadlock.proved
