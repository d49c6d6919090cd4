/- The walks: what each function computes, as a contract without a world (part 1). -/
import Derived.Test.YtljbgclkdfeegaaProg
import Derived.Test.YtljbgclkdfeegaaW0
namespace Go.Proofs.Ytljbgclkdfeegaa
open Go Go.AM
set_option maxRecDepth 10000
set_option linter.unusedVariables false
/- loop.example/g00332/spec.LocksOK -/
def k_c_sLocksOK : XCode :=
  .seq (.ops [.op (some 1) (.box (.t 0)),
     .op (some 2) (.mov (.k (.bool false)))])
  (.keep [1] (.seq (.seq (.ops [.op (some 9) (.fadr (.t 1) 0),
      .op (some 10) (.load1 (.t 9)),
      .op (some 11) (.lenS (.t 10)),
      .op (some 12) (.bin .gtr (.t 11) (.k (.int .i64 60))),
      .op (some 13) (.mov (.t 12)),
      .andor 18 false 4 13 [.op (some 14) (.fadr (.t 1) 1), .op (some 15) (.load1 (.t 14)), .op (some 16) (.lenS (.t 15)), .op (some 17) (.bin .gtr (.t 16) (.k (.int .i64 100)))] (.t 17)])
   (.keep [1, 18] (.cond (.t 18)
    (.seq (.ops [.op (some 2) (.mov (.k (.bool false)))])
     (.keep [2] (.ret)))
    (.skip))))
  (.keep [1] (.seq (.seq (.ops [.op (some 3) (.mov (.k (.int .i64 0)))])
   (.keep [1, 3] (.block 0 (.loop (.seq (.seq (.ops [.op (some 19) (.mov (.t 3)),
         .op (some 20) (.fadr (.t 1) 0),
         .op (some 21) (.load1 (.t 20)),
         .op (some 22) (.lenS (.t 21)),
         .op (some 23) (.bin .lss (.t 19) (.t 22))])
      (.keep [1, 3, 23] (.cond (.t 23)
       (.skip)
       (.exit 0))))
     (.keep [1, 3] (.seq (.block 1 (.seq (.ops [.op (some 26) (.fadr (.t 1) 0),
          .op (some 27) (.load1 (.t 26)),
          .op (some 28) (.mov (.t 3)),
          .op (some 29) (.iadr 4 (.t 27) (.t 28)),
          .op (some 30) (.loadN 4 (.t 29)),
          .op (some 4) (.alloc [.int .i64 0, .int .i64 0, .int .i64 0, .int .i64 0]),
          .op none (.store 4 (.t 4) (.t 30))])
       (.keep [1, 3, 4] (.seq (.seq (.ops [.op (some 31) (.fadr (.t 4) 0),
           .op (some 32) (.load1 (.t 31)),
           .op (some 33) (.fadr (.t 4) 1),
           .op (some 34) (.load1 (.t 33)),
           .op (some 35) (.fadr (.t 4) 2),
           .op (some 36) (.load1 (.t 35)),
           .op (some 37) (.fadr (.t 4) 3),
           .op (some 38) (.load1 (.t 37)),
           .call (some 39) 50 [.t 32, .t 34, .t 36, .t 38],
           .op (some 40) (.not (.t 39))])
        (.keep [1, 3, 4, 40] (.cond (.t 40)
         (.seq (.ops [.op (some 2) (.mov (.k (.bool false)))])
          (.keep [2] (.ret)))
         (.skip))))
       (.keep [1, 3, 4] (.seq (.ops [.op (some 5) (.mov (.k (.int .i64 0)))])
       (.keep [1, 3, 4, 5] (.block 2 (.loop (.seq (.seq (.ops [.op (some 41) (.mov (.t 5)),
             .op (some 42) (.mov (.t 3)),
             .op (some 43) (.bin .lss (.t 41) (.t 42))])
          (.keep [1, 3, 4, 5, 43] (.cond (.t 43)
           (.skip)
           (.exit 2))))
         (.keep [1, 3, 4, 5] (.seq (.block 3 (.seq (.ops [.op (some 46) (.fadr (.t 1) 0),
              .op (some 47) (.load1 (.t 46)),
              .op (some 48) (.mov (.t 5)),
              .op (some 49) (.iadr 4 (.t 47) (.t 48)),
              .op (some 50) (.loadN 4 (.t 49)),
              .op (some 6) (.alloc [.int .i64 0, .int .i64 0, .int .i64 0, .int .i64 0]),
              .op none (.store 4 (.t 6) (.t 50))])
           (.keep [1, 3, 4, 5, 6] (.seq (.ops [.op (some 51) (.fadr (.t 4) 1),
              .op (some 52) (.load1 (.t 51)),
              .op (some 53) (.fadr (.t 6) 1),
              .op (some 54) (.load1 (.t 53)),
              .op (some 55) (.bin .eql (.t 52) (.t 54)),
              .op (some 56) (.mov (.t 55)),
              .andor 62 true 5 56 [.op (some 57) (.fadr (.t 4) 2), .op (some 58) (.load1 (.t 57)), .op (some 59) (.fadr (.t 6) 2), .op (some 60) (.load1 (.t 59)), .op (some 61) (.bin .eql (.t 58) (.t 60))] (.t 61),
              .op (some 63) (.mov (.t 62)),
              .andor 82 true 12 63 [.op (some 64) (.loadN 4 (.t 4)), .op (some 65) (.loadN 4 (.t 6)), .op (some 66) (.eqs false [0, 0, 0, 0] (.t 64) (.t 65)), .op (some 67) (.mov (.t 66)), .andor 81 false 16 67 [.op (some 68) (.fadr (.t 4) 0), .op (some 69) (.load1 (.t 68)), .op (some 70) (.fadr (.t 6) 0), .op (some 71) (.load1 (.t 70)), .op (some 72) (.bin .neq (.t 69) (.t 71)), .op (some 73) (.mov (.t 72)), .andor 80 true 22 73 [.op (some 74) (.fadr (.t 4) 3), .op (some 75) (.load1 (.t 74)), .op (some 76) (.fadr (.t 6) 3), .op (some 77) (.load1 (.t 76)), .call (some 78) 70 [.t 75, .t 77], .op (some 79) (.not (.t 78))] (.t 79)] (.t 80)] (.t 81)])
           (.keep [1, 3, 4, 5, 82] (.cond (.t 82)
            (.seq (.ops [.op (some 2) (.mov (.k (.bool false)))])
             (.keep [2] (.ret)))
            (.skip)))))))
         (.keep [1, 3, 4, 5] (.ops [.op (some 44) (.mov (.t 5)),
           .op (some 45) (.bin .add (.t 44) (.k (.int .i64 1))),
           .op (some 5) (.mov (.t 45))]))))))))))))))
     (.keep [1, 3] (.ops [.op (some 24) (.mov (.t 3)),
       .op (some 25) (.bin .add (.t 24) (.k (.int .i64 1))),
       .op (some 3) (.mov (.t 25))])))))))))
  (.keep [1] (.seq (.seq (.ops [.op (some 7) (.mov (.k (.int .i64 0)))])
   (.keep [1, 7] (.block 4 (.loop (.seq (.seq (.ops [.op (some 83) (.mov (.t 7)),
         .op (some 84) (.fadr (.t 1) 1),
         .op (some 85) (.load1 (.t 84)),
         .op (some 86) (.lenS (.t 85)),
         .op (some 87) (.bin .lss (.t 83) (.t 86))])
      (.keep [1, 7, 87] (.cond (.t 87)
       (.skip)
       (.exit 4))))
     (.keep [1, 7] (.seq (.block 5 (.seq (.ops [.op (some 90) (.fadr (.t 1) 1),
          .op (some 91) (.load1 (.t 90)),
          .op (some 92) (.mov (.t 7)),
          .op (some 93) (.iadr 2 (.t 91) (.t 92)),
          .op (some 94) (.loadN 2 (.t 93)),
          .op (some 8) (.alloc [.int .i64 0, .int .i64 0]),
          .op none (.store 2 (.t 8) (.t 94))])
       (.keep [1, 7, 8] (.seq (.ops [.op (some 95) (.fadr (.t 8) 0),
          .op (some 96) (.load1 (.t 95)),
          .call (some 97) 33 [.t 96, .k (.int .i64 1), .k (.int .i64 60)],
          .op (some 98) (.not (.t 97)),
          .op (some 99) (.mov (.t 98)),
          .andor 104 false 4 99 [.op (some 100) (.fadr (.t 8) 1), .op (some 101) (.load1 (.t 100)), .call (some 102) 33 [.t 101, .k (.int .i64 1), .k (.int .i64 60)], .op (some 103) (.not (.t 102))] (.t 103),
          .op (some 105) (.mov (.t 104)),
          .andor 111 false 10 105 [.op (some 106) (.fadr (.t 8) 0), .op (some 107) (.load1 (.t 106)), .op (some 108) (.fadr (.t 8) 1), .op (some 109) (.load1 (.t 108)), .op (some 110) (.bin .eql (.t 107) (.t 109))] (.t 110)])
       (.keep [1, 7, 111] (.cond (.t 111)
        (.seq (.ops [.op (some 2) (.mov (.k (.bool false)))])
         (.keep [2] (.ret)))
        (.skip)))))))
     (.keep [1, 7] (.ops [.op (some 88) (.mov (.t 7)),
       .op (some 89) (.bin .add (.t 88) (.k (.int .i64 1))),
       .op (some 7) (.mov (.t 89))])))))))))
  (.keep [] (.seq (.ops [.op (some 2) (.mov (.k (.bool true)))])
  (.keep [2] (.ret))))))))))
theorem k_c_sLocksOK_fits : fitsF Try.prog 32 ⟨112, k_c_sLocksOK, [.t 2]⟩ = true := by kernel_rfl
theorem c_sLocksOK {l : GLocks} (hw0 : l.Held.length ≤ 1048576) (hw1 : l.Waits.length ≤ 1048576) (hl : wfL GLock.wf l.Held) : Con Try.prog noMv 32 [l.av] [] (fun r h => r = bool (locksOK l) ∧ h = []) := by
  refine con_of2 k_c_sLocksOK_fits rfl fun C hP hmv => ?_
  unfold k_c_sLocksOK
  refine cx_seq ?_
  refine cx_ops ?_
  refine ax_e (e_box rfl rfl (by decide) rfl rfl rfl) ?_
  refine ax_q (q_mov rfl) ?_
  refine ax_nil ?_
  refine cx_keep rfl rfl ?_
  refine cx_seq ?_
  refine cx_seq ?_
  refine cx_ops ?_
  first | refine ax_q (q_fadr_ptr rfl) ?_ | refine ax_q (q_fadr_rptr rfl) ?_ | refine ax_q (q_fadr_ip rfl) ?_
  first | refine ax_q (q_load1_ptr rfl rfl rfl) ?_ | refine ax_q (q_load1_ip rfl) ?_ | refine ax_q (q_load1_rptr rfl rfl (by assumption) rfl) ?_ | refine ax_q (q_load1_rptr rfl rfl (mapAt (by first | assumption | omega)) rfl) ?_
  first | refine ax_q (q_lenS_map rfl) ?_ | refine ax_q (q_lenS_osl rfl) ?_ | refine ax_q (q_lenS_zs rfl) ?_ | refine ax_q (q_lenS rfl) ?_
  refine ax_q (q_ibin rfl rfl rfl) ?_
  refine ax_q (q_mov rfl) ?_
  apply ax_or rfl rfl
  · intro g
    have g := dF g
    first | refine ax_q (q_fadr_ptr rfl) ?_ | refine ax_q (q_fadr_rptr rfl) ?_ | refine ax_q (q_fadr_ip rfl) ?_
    first | refine ax_q (q_load1_ptr rfl rfl rfl) ?_ | refine ax_q (q_load1_ip rfl) ?_ | refine ax_q (q_load1_rptr rfl rfl (by assumption) rfl) ?_ | refine ax_q (q_load1_rptr rfl rfl (mapAt (by first | assumption | omega)) rfl) ?_
    first | refine ax_q (q_lenS_map rfl) ?_ | refine ax_q (q_lenS_osl rfl) ?_ | refine ax_q (q_lenS_zs rfl) ?_ | refine ax_q (q_lenS rfl) ?_
    refine ax_q (q_ibin rfl rfl rfl) ?_
    exact ax_nil ⟨rfl, by repeat (first | exact trivial | refine ⟨rfl, ?_⟩ | refine ⟨?_, ?_⟩)⟩
  refine ax_nil ?_
  refine cx_keep rfl rfl ?_
  refine cx_cond rfl (fun h0 => ?_) (fun h0 => ?_)
  · have h0 := (fun h => (or_T h).imp dT dT) h0
    refine cx_seq ?_
    refine cx_ops ?_
    refine ax_q (q_mov rfl) ?_
    refine ax_nil ?_
    refine cx_keep rfl rfl ?_
    refine cx_ret (ret0 rfl rfl ?_)
    have e : locksOK l = false := by
      unfold locksOK
      rcases h0 with h | h
      · rw [decide_eq_false (show ¬ ((l.Held.length : Int) ≤ 60) from by omega)]; simp
      · rw [decide_eq_false (show ¬ ((l.Waits.length : Int) ≤ 100) from by omega)]; simp
    exact ⟨by rw [e]; rfl, rfl⟩
  · have h0 := (fun h => And.intro (dF (or_F h).1) (dF (or_F h).2)) h0
    refine cx_skip ?_
    refine cx_keep rfl rfl ?_
    refine cx_seq ?_
    refine cx_seq ?_
    refine cx_ops ?_
    refine ax_q (q_mov rfl) ?_
    refine ax_nil ?_
    refine cx_keep rfl rfl ?_
    refine cx_block ?_
    refine cx_loopU (fun n k => k ≤ l.Held.length ∧ n = l.Held.length - k ∧ allIx (okAt l.Held) k = true) (fun k : Nat => [(3, int k)]) (fun _ => [(1, .box [.d (.sl 4 (l.Held.map GLock.row)), .d (.sl 2 (l.Waits.map GWait.row))])]) ⟨_, 0, ⟨Nat.zero_le _, rfl, rfl⟩, by repeat (first | exact trivial | refine ⟨rfl, ?_⟩ | refine ⟨?_, ?_⟩)⟩ ?_
    rintro n k ⟨hk, rfl, ht⟩
    refine cx_seq ?_
    refine cx_seq ?_
    refine cx_ops ?_
    refine ax_q (q_mov rfl) ?_
    first | refine ax_q (q_fadr_ptr rfl) ?_ | refine ax_q (q_fadr_rptr rfl) ?_ | refine ax_q (q_fadr_ip rfl) ?_
    first | refine ax_q (q_load1_ptr rfl rfl rfl) ?_ | refine ax_q (q_load1_ip rfl) ?_ | refine ax_q (q_load1_rptr rfl rfl (by assumption) rfl) ?_ | refine ax_q (q_load1_rptr rfl rfl (mapAt (by first | assumption | omega)) rfl) ?_
    first | refine ax_q (q_lenS_map rfl) ?_ | refine ax_q (q_lenS_osl rfl) ?_ | refine ax_q (q_lenS_zs rfl) ?_ | refine ax_q (q_lenS rfl) ?_
    refine ax_q (q_ibin rfl rfl rfl) ?_
    refine ax_nil ?_
    refine cx_keep rfl rfl ?_
    refine cx_cond rfl (fun h1 => ?_) (fun h1 => ?_)
    · have h1 := dT h1
      have h1x : k < l.Held.length := by omega
      refine cx_skip ?_
      refine cx_keep rfl rfl ?_
      refine cx_seq ?_
      refine cx_block ?_
      refine cx_seq ?_
      refine cx_ops ?_
      first | refine ax_q (q_fadr_ptr rfl) ?_ | refine ax_q (q_fadr_rptr rfl) ?_ | refine ax_q (q_fadr_ip rfl) ?_
      first | refine ax_q (q_load1_ptr rfl rfl rfl) ?_ | refine ax_q (q_load1_ip rfl) ?_ | refine ax_q (q_load1_rptr rfl rfl (by assumption) rfl) ?_ | refine ax_q (q_load1_rptr rfl rfl (mapAt (by first | assumption | omega)) rfl) ?_
      refine ax_q (q_mov rfl) ?_
      refine ax_q (q_ix rfl rfl (mapAt h1x)) ?_
      first | refine ax_q (q_ldN rfl rfl rfl) ?_ | refine ax_q (q_loadN_ip rfl (Nat.le_refl _)) ?_ | refine ax_q (q_loadN_ip rfl (by decide)) ?_ | refine ax_q (q_loadN_rptr rfl rfl (by assumption) (by decide)) ?_ | refine ax_q (q_loadN_rptr rfl rfl (mapAt (by first | assumption | omega)) (by decide)) ?_
      refine ax_e (e_alloc (by decide) rfl rfl) ?_
      refine ax_e (e_st rfl rfl rfl rfl rfl rfl rfl) ?_
      refine ax_nil ?_
      refine cx_keep rfl rfl ?_
      refine cx_seq ?_
      refine cx_seq ?_
      refine cx_ops ?_
      first | refine ax_q (q_fadr_ptr rfl) ?_ | refine ax_q (q_fadr_rptr rfl) ?_ | refine ax_q (q_fadr_ip rfl) ?_
      first | refine ax_q (q_load1_ptr rfl rfl rfl) ?_ | refine ax_q (q_load1_ip rfl) ?_ | refine ax_q (q_load1_rptr rfl rfl (by assumption) rfl) ?_ | refine ax_q (q_load1_rptr rfl rfl (mapAt (by first | assumption | omega)) rfl) ?_
      first | refine ax_q (q_fadr_ptr rfl) ?_ | refine ax_q (q_fadr_rptr rfl) ?_ | refine ax_q (q_fadr_ip rfl) ?_
      first | refine ax_q (q_load1_ptr rfl rfl rfl) ?_ | refine ax_q (q_load1_ip rfl) ?_ | refine ax_q (q_load1_rptr rfl rfl (by assumption) rfl) ?_ | refine ax_q (q_load1_rptr rfl rfl (mapAt (by first | assumption | omega)) rfl) ?_
      first | refine ax_q (q_fadr_ptr rfl) ?_ | refine ax_q (q_fadr_rptr rfl) ?_ | refine ax_q (q_fadr_ip rfl) ?_
      first | refine ax_q (q_load1_ptr rfl rfl rfl) ?_ | refine ax_q (q_load1_ip rfl) ?_ | refine ax_q (q_load1_rptr rfl rfl (by assumption) rfl) ?_ | refine ax_q (q_load1_rptr rfl rfl (mapAt (by first | assumption | omega)) rfl) ?_
      first | refine ax_q (q_fadr_ptr rfl) ?_ | refine ax_q (q_fadr_rptr rfl) ?_ | refine ax_q (q_fadr_ip rfl) ?_
      first | refine ax_q (q_load1_ptr rfl rfl rfl) ?_ | refine ax_q (q_load1_ip rfl) ?_ | refine ax_q (q_load1_rptr rfl rfl (by assumption) rfl) ?_ | refine ax_q (q_load1_rptr rfl rfl (mapAt (by first | assumption | omega)) rfl) ?_
      first | refine ax_call rfl (vc_pure0 (c_l06Ask (a := l.Held[k]) ) hP rfl rfl ?_) | refine ax_call rfl (vc_lend0 (c_l06Ask (a := l.Held[k]) ) hP (by repeat (first | exact lal_id _ rfl | exact LAL.nil | refine LAL.cons ?_ ?_ | exact la_id _ rfl | exact LA.lend (lend_whole rfl (by first | (simp; done) | (rw [List.length_map]; rfl))) | refine LA.agg ?_ | refine LA.fn ?_ | refine LA.lend ?_ | exact Lend.d _ | exact Lend.zs _ | exact lend_whole rfl (by first | (simp; done) | (rw [List.length_map]; rfl)) | refine Lend.ptr rfl ?_ | refine Lend.fn ?_ | exact LendL.nil | refine LendL.cons ?_ ?_)) rfl rfl ?_)
      refine ax_q (q_not rfl) ?_
      refine ax_nil ?_
      refine cx_keep rfl rfl ?_
      refine cx_cond rfl (fun h2 => ?_) (fun h2 => ?_)
      · have h2 := bT h2
        refine cx_seq ?_
        refine cx_ops ?_
        refine ax_q (q_mov rfl) ?_
        refine ax_nil ?_
        refine cx_keep rfl rfl ?_
        refine cx_ret (ret0 rfl rfl ?_)
        exact ⟨by rw [show locksOK l = false from by unfold locksOK; rw [allIx_no h1x (by rw [okAt_get h1x, h2]; rfl)]; rfl]; rfl, rfl⟩
      · have h2 := bF h2
        refine cx_skip ?_
        refine cx_keep rfl rfl ?_
        refine cx_seq ?_
        refine cx_ops ?_
        refine ax_q (q_mov rfl) ?_
        refine ax_nil ?_
        refine cx_keep rfl rfl ?_
        refine cx_block ?_
        refine cx_loopU (fun n i => i ≤ k ∧ n = k - i ∧ ∀ j, j < i → ∀ x, l.Held[j]? = some x → twice l.Held[k] x = false) (fun i : Nat => [(5, int i)]) (fun _ => [(1, .box [.d (.sl 4 (l.Held.map GLock.row)), .d (.sl 2 (l.Waits.map GWait.row))]), (4, .box [.d (.int .i64 l.Held[k].Tx), .d (.int .i64 l.Held[k].Table), .d (.int .i64 l.Held[k].Row), .d (.int .i64 l.Held[k].Mode)])]) ⟨_, 0, ⟨Nat.zero_le _, rfl, fun j hj => by omega⟩, by repeat (first | exact trivial | refine ⟨rfl, ?_⟩ | refine ⟨?_, ?_⟩)⟩ ?_
        rintro n i ⟨hi, rfl, hb⟩
        refine cx_seq ?_
        refine cx_seq ?_
        refine cx_ops ?_
        refine ax_q (q_mov rfl) ?_
        refine ax_q (q_mov rfl) ?_
        refine ax_q (q_ibin rfl rfl rfl) ?_
        refine ax_nil ?_
        refine cx_keep rfl rfl ?_
        refine cx_cond rfl (fun h3 => ?_) (fun h3 => ?_)
        · have h3 := dT h3
          have h3x : i < l.Held.length := by omega
          refine cx_skip ?_
          refine cx_keep rfl rfl ?_
          refine cx_seq ?_
          refine cx_block ?_
          refine cx_seq ?_
          refine cx_ops ?_
          first | refine ax_q (q_fadr_ptr rfl) ?_ | refine ax_q (q_fadr_rptr rfl) ?_ | refine ax_q (q_fadr_ip rfl) ?_
          first | refine ax_q (q_load1_ptr rfl rfl rfl) ?_ | refine ax_q (q_load1_ip rfl) ?_ | refine ax_q (q_load1_rptr rfl rfl (by assumption) rfl) ?_ | refine ax_q (q_load1_rptr rfl rfl (mapAt (by first | assumption | omega)) rfl) ?_
          refine ax_q (q_mov rfl) ?_
          refine ax_q (q_ix rfl rfl (mapAt h3x)) ?_
          first | refine ax_q (q_ldN rfl rfl rfl) ?_ | refine ax_q (q_loadN_ip rfl (Nat.le_refl _)) ?_ | refine ax_q (q_loadN_ip rfl (by decide)) ?_ | refine ax_q (q_loadN_rptr rfl rfl (by assumption) (by decide)) ?_ | refine ax_q (q_loadN_rptr rfl rfl (mapAt (by first | assumption | omega)) (by decide)) ?_
          refine ax_e (e_alloc (by decide) rfl rfl) ?_
          refine ax_e (e_st rfl rfl rfl rfl rfl rfl rfl) ?_
          refine ax_nil ?_
          refine cx_keep rfl rfl ?_
          refine cx_seq ?_
          refine cx_ops ?_
          first | refine ax_q (q_fadr_ptr rfl) ?_ | refine ax_q (q_fadr_rptr rfl) ?_ | refine ax_q (q_fadr_ip rfl) ?_
          first | refine ax_q (q_load1_ptr rfl rfl rfl) ?_ | refine ax_q (q_load1_ip rfl) ?_ | refine ax_q (q_load1_rptr rfl rfl (by assumption) rfl) ?_ | refine ax_q (q_load1_rptr rfl rfl (mapAt (by first | assumption | omega)) rfl) ?_
          first | refine ax_q (q_fadr_ptr rfl) ?_ | refine ax_q (q_fadr_rptr rfl) ?_ | refine ax_q (q_fadr_ip rfl) ?_
          first | refine ax_q (q_load1_ptr rfl rfl rfl) ?_ | refine ax_q (q_load1_ip rfl) ?_ | refine ax_q (q_load1_rptr rfl rfl (by assumption) rfl) ?_ | refine ax_q (q_load1_rptr rfl rfl (mapAt (by first | assumption | omega)) rfl) ?_
          refine ax_q (q_ibin rfl rfl rfl) ?_
          refine ax_q (q_mov rfl) ?_
          apply ax_and rfl rfl
          · intro g
            have g := dT g
            first | refine ax_q (q_fadr_ptr rfl) ?_ | refine ax_q (q_fadr_rptr rfl) ?_ | refine ax_q (q_fadr_ip rfl) ?_
            first | refine ax_q (q_load1_ptr rfl rfl rfl) ?_ | refine ax_q (q_load1_ip rfl) ?_ | refine ax_q (q_load1_rptr rfl rfl (by assumption) rfl) ?_ | refine ax_q (q_load1_rptr rfl rfl (mapAt (by first | assumption | omega)) rfl) ?_
            first | refine ax_q (q_fadr_ptr rfl) ?_ | refine ax_q (q_fadr_rptr rfl) ?_ | refine ax_q (q_fadr_ip rfl) ?_
            first | refine ax_q (q_load1_ptr rfl rfl rfl) ?_ | refine ax_q (q_load1_ip rfl) ?_ | refine ax_q (q_load1_rptr rfl rfl (by assumption) rfl) ?_ | refine ax_q (q_load1_rptr rfl rfl (mapAt (by first | assumption | omega)) rfl) ?_
            refine ax_q (q_ibin rfl rfl rfl) ?_
            exact ax_nil ⟨rfl, by repeat (first | exact trivial | refine ⟨rfl, ?_⟩ | refine ⟨?_, ?_⟩)⟩
          refine ax_q (q_mov rfl) ?_
          apply ax_and rfl rfl
          · intro g
            have g := (fun h => And.intro (dT (and_T h).1) (dT (and_T h).2)) g
            first | refine ax_q (q_ldN rfl rfl rfl) ?_ | refine ax_q (q_loadN_ip rfl (Nat.le_refl _)) ?_ | refine ax_q (q_loadN_ip rfl (by decide)) ?_ | refine ax_q (q_loadN_rptr rfl rfl (by assumption) (by decide)) ?_ | refine ax_q (q_loadN_rptr rfl rfl (mapAt (by first | assumption | omega)) (by decide)) ?_
            first | refine ax_q (q_ldN rfl rfl rfl) ?_ | refine ax_q (q_loadN_ip rfl (Nat.le_refl _)) ?_ | refine ax_q (q_loadN_ip rfl (by decide)) ?_ | refine ax_q (q_loadN_rptr rfl rfl (by assumption) (by decide)) ?_ | refine ax_q (q_loadN_rptr rfl rfl (mapAt (by first | assumption | omega)) (by decide)) ?_
            first | refine ax_q (GLock.q_eqs rfl rfl) ?_ | refine ax_q (q_eqs rfl rfl rfl) ?_
            refine ax_q (q_mov rfl) ?_
            apply ax_or rfl rfl
            · intro g
              first | refine ax_q (q_fadr_ptr rfl) ?_ | refine ax_q (q_fadr_rptr rfl) ?_ | refine ax_q (q_fadr_ip rfl) ?_
              first | refine ax_q (q_load1_ptr rfl rfl rfl) ?_ | refine ax_q (q_load1_ip rfl) ?_ | refine ax_q (q_load1_rptr rfl rfl (by assumption) rfl) ?_ | refine ax_q (q_load1_rptr rfl rfl (mapAt (by first | assumption | omega)) rfl) ?_
              first | refine ax_q (q_fadr_ptr rfl) ?_ | refine ax_q (q_fadr_rptr rfl) ?_ | refine ax_q (q_fadr_ip rfl) ?_
              first | refine ax_q (q_load1_ptr rfl rfl rfl) ?_ | refine ax_q (q_load1_ip rfl) ?_ | refine ax_q (q_load1_rptr rfl rfl (by assumption) rfl) ?_ | refine ax_q (q_load1_rptr rfl rfl (mapAt (by first | assumption | omega)) rfl) ?_
              refine ax_q (q_ibin rfl rfl rfl) ?_
              refine ax_q (q_mov rfl) ?_
              apply ax_and rfl rfl
              · intro g
                have g := nT g
                first | refine ax_q (q_fadr_ptr rfl) ?_ | refine ax_q (q_fadr_rptr rfl) ?_ | refine ax_q (q_fadr_ip rfl) ?_
                first | refine ax_q (q_load1_ptr rfl rfl rfl) ?_ | refine ax_q (q_load1_ip rfl) ?_ | refine ax_q (q_load1_rptr rfl rfl (by assumption) rfl) ?_ | refine ax_q (q_load1_rptr rfl rfl (mapAt (by first | assumption | omega)) rfl) ?_
                first | refine ax_q (q_fadr_ptr rfl) ?_ | refine ax_q (q_fadr_rptr rfl) ?_ | refine ax_q (q_fadr_ip rfl) ?_
                first | refine ax_q (q_load1_ptr rfl rfl rfl) ?_ | refine ax_q (q_load1_ip rfl) ?_ | refine ax_q (q_load1_rptr rfl rfl (by assumption) rfl) ?_ | refine ax_q (q_load1_rptr rfl rfl (mapAt (by first | assumption | omega)) rfl) ?_
                first | refine ax_call rfl (vc_pure0 (c_l06Fit  ) hP rfl rfl ?_) | refine ax_call rfl (vc_lend0 (c_l06Fit  ) hP (by repeat (first | exact lal_id _ rfl | exact LAL.nil | refine LAL.cons ?_ ?_ | exact la_id _ rfl | exact LA.lend (lend_whole rfl (by first | (simp; done) | (rw [List.length_map]; rfl))) | refine LA.agg ?_ | refine LA.fn ?_ | refine LA.lend ?_ | exact Lend.d _ | exact Lend.zs _ | exact lend_whole rfl (by first | (simp; done) | (rw [List.length_map]; rfl)) | refine Lend.ptr rfl ?_ | refine Lend.fn ?_ | exact LendL.nil | refine LendL.cons ?_ ?_)) rfl rfl ?_)
                refine ax_q (q_not rfl) ?_
                exact ax_nil ⟨rfl, by repeat (first | exact trivial | refine ⟨rfl, ?_⟩ | refine ⟨?_, ?_⟩)⟩
              exact ax_nil ⟨rfl, by repeat (first | exact trivial | refine ⟨rfl, ?_⟩ | refine ⟨?_, ?_⟩)⟩
            exact ax_nil ⟨rfl, by repeat (first | exact trivial | refine ⟨rfl, ?_⟩ | refine ⟨?_, ?_⟩)⟩
          refine ax_nil ?_
          refine cx_keep rfl rfl ?_
          refine cx_cond rfl (fun h4 => ?_) (fun h4 => ?_)
          · have h4 : twice l.Held[k] l.Held[i] = true := by rw [← twice_eq]; exact h4
            refine cx_seq ?_
            refine cx_ops ?_
            refine ax_q (q_mov rfl) ?_
            refine ax_nil ?_
            refine cx_keep rfl rfl ?_
            refine cx_ret (ret0 rfl rfl ?_)
            exact ⟨by rw [show locksOK l = false from by unfold locksOK; rw [allIx_no h1x (by rw [okAt_get h1x, any_take_hit (by omega) h3x h4]; simp)]; rfl]; rfl, rfl⟩
          · have h4 : twice l.Held[k] l.Held[i] = false := by rw [← twice_eq]; exact h4
            refine cx_skip ?_
            refine cx_keep rfl rfl ?_
            refine cx_ops ?_
            refine ax_q (q_mov rfl) ?_
            refine ax_qe (r' := int ((i + 1 : Nat) : Int)) (q_ibin rfl rfl rfl) (by rw [wi (by omega) (by omega)]; rfl) ?_
            refine ax_q (q_mov rfl) ?_
            refine ax_nil ?_
            exact ⟨_, i + 1, by omega, ⟨by omega, rfl, before_step h3x hb h4⟩, by repeat (first | exact trivial | refine ⟨rfl, ?_⟩ | refine ⟨?_, ?_⟩)⟩
        · have h3 := dF h3
          refine cx_exit rfl ?_
          refine cx_keep rfl rfl ?_
          refine cx_ops ?_
          refine ax_q (q_mov rfl) ?_
          refine ax_qe (r' := int ((k + 1 : Nat) : Int)) (q_ibin rfl rfl rfl) (by rw [wi (by omega) (by omega)]; rfl) ?_
          refine ax_q (q_mov rfl) ?_
          refine ax_nil ?_
          have h9 : okAt l.Held k = true := by rw [okAt_get h1x, h2, any_take (fun j hj => hb j (by omega))]; rfl
          exact ⟨_, k + 1, by omega, ⟨by omega, rfl, allIx_step ht h9⟩, by repeat (first | exact trivial | refine ⟨rfl, ?_⟩ | refine ⟨?_, ?_⟩)⟩
    · have h1 := dF h1
      have h1x : k = l.Held.length := by omega
      subst h1x
      refine cx_exit rfl ?_
      refine cx_keep rfl rfl ?_
      refine cx_seq ?_
      refine cx_seq ?_
      refine cx_ops ?_
      refine ax_q (q_mov rfl) ?_
      refine ax_nil ?_
      refine cx_keep rfl rfl ?_
      refine cx_block ?_
      refine cx_loopU (fun n k => k ≤ l.Waits.length ∧ n = l.Waits.length - k ∧ ∀ j, j < k → ∀ x, l.Waits[j]? = some x → badWait x = false) (fun k : Nat => [(7, int k)]) (fun _ => [(1, .box [.d (.sl 4 (l.Held.map GLock.row)), .d (.sl 2 (l.Waits.map GWait.row))])]) ⟨_, 0, ⟨Nat.zero_le _, rfl, fun j hj => by omega⟩, by repeat (first | exact trivial | refine ⟨rfl, ?_⟩ | refine ⟨?_, ?_⟩)⟩ ?_
      rintro n k ⟨hk, rfl, hb⟩
      refine cx_seq ?_
      refine cx_seq ?_
      refine cx_ops ?_
      refine ax_q (q_mov rfl) ?_
      first | refine ax_q (q_fadr_ptr rfl) ?_ | refine ax_q (q_fadr_rptr rfl) ?_ | refine ax_q (q_fadr_ip rfl) ?_
      first | refine ax_q (q_load1_ptr rfl rfl rfl) ?_ | refine ax_q (q_load1_ip rfl) ?_ | refine ax_q (q_load1_rptr rfl rfl (by assumption) rfl) ?_ | refine ax_q (q_load1_rptr rfl rfl (mapAt (by first | assumption | omega)) rfl) ?_
      first | refine ax_q (q_lenS_map rfl) ?_ | refine ax_q (q_lenS_osl rfl) ?_ | refine ax_q (q_lenS_zs rfl) ?_ | refine ax_q (q_lenS rfl) ?_
      refine ax_q (q_ibin rfl rfl rfl) ?_
      refine ax_nil ?_
      refine cx_keep rfl rfl ?_
      refine cx_cond rfl (fun h5 => ?_) (fun h5 => ?_)
      · have h5 := dT h5
        have h5x : k < l.Waits.length := by omega
        refine cx_skip ?_
        refine cx_keep rfl rfl ?_
        refine cx_seq ?_
        refine cx_block ?_
        refine cx_seq ?_
        refine cx_ops ?_
        first | refine ax_q (q_fadr_ptr rfl) ?_ | refine ax_q (q_fadr_rptr rfl) ?_ | refine ax_q (q_fadr_ip rfl) ?_
        first | refine ax_q (q_load1_ptr rfl rfl rfl) ?_ | refine ax_q (q_load1_ip rfl) ?_ | refine ax_q (q_load1_rptr rfl rfl (by assumption) rfl) ?_ | refine ax_q (q_load1_rptr rfl rfl (mapAt (by first | assumption | omega)) rfl) ?_
        refine ax_q (q_mov rfl) ?_
        refine ax_q (q_ix rfl rfl (mapAt h5x)) ?_
        first | refine ax_q (q_ldN rfl rfl rfl) ?_ | refine ax_q (q_loadN_ip rfl (Nat.le_refl _)) ?_ | refine ax_q (q_loadN_ip rfl (by decide)) ?_ | refine ax_q (q_loadN_rptr rfl rfl (by assumption) (by decide)) ?_ | refine ax_q (q_loadN_rptr rfl rfl (mapAt (by first | assumption | omega)) (by decide)) ?_
        refine ax_e (e_alloc (by decide) rfl rfl) ?_
        refine ax_e (e_st rfl rfl rfl rfl rfl rfl rfl) ?_
        refine ax_nil ?_
        refine cx_keep rfl rfl ?_
        refine cx_seq ?_
        refine cx_ops ?_
        first | refine ax_q (q_fadr_ptr rfl) ?_ | refine ax_q (q_fadr_rptr rfl) ?_ | refine ax_q (q_fadr_ip rfl) ?_
        first | refine ax_q (q_load1_ptr rfl rfl rfl) ?_ | refine ax_q (q_load1_ip rfl) ?_ | refine ax_q (q_load1_rptr rfl rfl (by assumption) rfl) ?_ | refine ax_q (q_load1_rptr rfl rfl (mapAt (by first | assumption | omega)) rfl) ?_
        first | refine ax_call rfl (vc_pure0 (c_l01In  ) hP rfl rfl ?_) | refine ax_call rfl (vc_lend0 (c_l01In  ) hP (by repeat (first | exact lal_id _ rfl | exact LAL.nil | refine LAL.cons ?_ ?_ | exact la_id _ rfl | exact LA.lend (lend_whole rfl (by first | (simp; done) | (rw [List.length_map]; rfl))) | refine LA.agg ?_ | refine LA.fn ?_ | refine LA.lend ?_ | exact Lend.d _ | exact Lend.zs _ | exact lend_whole rfl (by first | (simp; done) | (rw [List.length_map]; rfl)) | refine Lend.ptr rfl ?_ | refine Lend.fn ?_ | exact LendL.nil | refine LendL.cons ?_ ?_)) rfl rfl ?_)
        refine ax_q (q_not rfl) ?_
        refine ax_q (q_mov rfl) ?_
        apply ax_or rfl rfl
        · intro g
          have g := bF g
          first | refine ax_q (q_fadr_ptr rfl) ?_ | refine ax_q (q_fadr_rptr rfl) ?_ | refine ax_q (q_fadr_ip rfl) ?_
          first | refine ax_q (q_load1_ptr rfl rfl rfl) ?_ | refine ax_q (q_load1_ip rfl) ?_ | refine ax_q (q_load1_rptr rfl rfl (by assumption) rfl) ?_ | refine ax_q (q_load1_rptr rfl rfl (mapAt (by first | assumption | omega)) rfl) ?_
          first | refine ax_call rfl (vc_pure0 (c_l01In  ) hP rfl rfl ?_) | refine ax_call rfl (vc_lend0 (c_l01In  ) hP (by repeat (first | exact lal_id _ rfl | exact LAL.nil | refine LAL.cons ?_ ?_ | exact la_id _ rfl | exact LA.lend (lend_whole rfl (by first | (simp; done) | (rw [List.length_map]; rfl))) | refine LA.agg ?_ | refine LA.fn ?_ | refine LA.lend ?_ | exact Lend.d _ | exact Lend.zs _ | exact lend_whole rfl (by first | (simp; done) | (rw [List.length_map]; rfl)) | refine Lend.ptr rfl ?_ | refine Lend.fn ?_ | exact LendL.nil | refine LendL.cons ?_ ?_)) rfl rfl ?_)
          refine ax_q (q_not rfl) ?_
          exact ax_nil ⟨rfl, by repeat (first | exact trivial | refine ⟨rfl, ?_⟩ | refine ⟨?_, ?_⟩)⟩
        refine ax_q (q_mov rfl) ?_
        apply ax_or rfl rfl
        · intro g
          have g := (fun h => And.intro (bF (or_F h).1) (bF (or_F h).2)) g
          first | refine ax_q (q_fadr_ptr rfl) ?_ | refine ax_q (q_fadr_rptr rfl) ?_ | refine ax_q (q_fadr_ip rfl) ?_
          first | refine ax_q (q_load1_ptr rfl rfl rfl) ?_ | refine ax_q (q_load1_ip rfl) ?_ | refine ax_q (q_load1_rptr rfl rfl (by assumption) rfl) ?_ | refine ax_q (q_load1_rptr rfl rfl (mapAt (by first | assumption | omega)) rfl) ?_
          first | refine ax_q (q_fadr_ptr rfl) ?_ | refine ax_q (q_fadr_rptr rfl) ?_ | refine ax_q (q_fadr_ip rfl) ?_
          first | refine ax_q (q_load1_ptr rfl rfl rfl) ?_ | refine ax_q (q_load1_ip rfl) ?_ | refine ax_q (q_load1_rptr rfl rfl (by assumption) rfl) ?_ | refine ax_q (q_load1_rptr rfl rfl (mapAt (by first | assumption | omega)) rfl) ?_
          refine ax_q (q_ibin rfl rfl rfl) ?_
          exact ax_nil ⟨rfl, by repeat (first | exact trivial | refine ⟨rfl, ?_⟩ | refine ⟨?_, ?_⟩)⟩
        refine ax_nil ?_
        refine cx_keep rfl rfl ?_
        refine cx_cond rfl (fun h6 => ?_) (fun h6 => ?_)
        · have h6 : badWait l.Waits[k] = true := h6
          refine cx_seq ?_
          refine cx_ops ?_
          refine ax_q (q_mov rfl) ?_
          refine ax_nil ?_
          refine cx_keep rfl rfl ?_
          refine cx_ret (ret0 rfl rfl ?_)
          exact ⟨by rw [show locksOK l = false from by unfold locksOK; rw [any_hit h5x h6]; simp]; rfl, rfl⟩
        · have h6 : badWait l.Waits[k] = false := h6
          refine cx_skip ?_
          refine cx_keep rfl rfl ?_
          refine cx_ops ?_
          refine ax_q (q_mov rfl) ?_
          refine ax_qe (r' := int ((k + 1 : Nat) : Int)) (q_ibin rfl rfl rfl) (by rw [wi (by omega) (by omega)]; rfl) ?_
          refine ax_q (q_mov rfl) ?_
          refine ax_nil ?_
          exact ⟨_, k + 1, by omega, ⟨by omega, rfl, before_step h5x hb h6⟩, by repeat (first | exact trivial | refine ⟨rfl, ?_⟩ | refine ⟨?_, ?_⟩)⟩
      · have h5 := dF h5
        have h5x : k = l.Waits.length := by omega
        refine cx_exit rfl ?_
        refine cx_keep rfl rfl ?_
        refine cx_seq ?_
        refine cx_ops ?_
        refine ax_q (q_mov rfl) ?_
        refine ax_nil ?_
        refine cx_keep rfl rfl ?_
        refine cx_ret (ret0 rfl rfl ?_)
        exact ⟨by rw [show locksOK l = true from by unfold locksOK; rw [ht, any_all (fun i hi => hb i (by omega)), decide_eq_true (show (l.Held.length : Int) ≤ 60 by omega), decide_eq_true (show (l.Waits.length : Int) ≤ 100 by omega)]; rfl]; rfl, rfl⟩


/- loop.example/g00332/spec.l06Own -/
def k_c_l06Own : XCode :=
  .seq (.ops [.op (some 1) (.box (.t 0)),
     .op (some 2) (.alloc [.nils 4, .nils 2])])
  (.keep [1, 2] (.seq (.drawE [[], [], [1], [0, 1, 2], [], [], [5], [0, 1, 2, 3, 4, 5, 6], [0, 1, 2, 3, 4, 5, 6, 7], [0, 1, 2, 3, 4, 5, 6, 7, 8]] [.op (some 3) (.bslice 4 []),
     .op (some 4) (.fadr (.t 1) 0),
     .op (some 5) (.load1 (.t 4)),
     .op (some 6) (.app 4 32 [.int .i64 0, .int .i64 0, .int .i64 0, .int .i64 0] (.t 3) (.t 5)),
     .op (some 7) (.bslice 2 []),
     .op (some 8) (.fadr (.t 1) 1),
     .op (some 9) (.load1 (.t 8))]
    [.op (some 10) (.app 2 16 [.int .i64 0, .int .i64 0] (.t 7) (.t 9)),
     .op (some 11) (.build [.nils 4, .nils 2] [(0, 1, .t 6), (1, 1, .t 10)]),
     .op none (.store 2 (.t 2) (.t 11))])
  (.keep [2] (.ret))))
theorem k_c_l06Own_fits : fitsF Try.prog 64 ⟨12, k_c_l06Own, [.cN 2 2]⟩ = true := by kernel_rfl
theorem c_l06Own {l : GLocks} (hw0 : l.Held.length ≤ 1048576) (hw1 : l.Waits.length ≤ 1048576) : Con Try.prog noMv 64 [l.av] [] (fun r h => r = l.avO 0 1 ∧ h = l.hO 0 1) := by
  refine con_of2 k_c_l06Own_fits rfl fun C hP hmv => ?_
  unfold k_c_l06Own
  refine cx_seq ?_
  refine cx_ops ?_
  refine ax_e (e_box rfl rfl (by decide) rfl rfl rfl) ?_
  refine ax_e (e_alloc (by decide) rfl rfl) ?_
  refine ax_nil ?_
  refine cx_keep rfl rfl ?_
  refine cx_seq ?_
  refine cx_drawL 3 6 (Nat.beq 3) (nrA 3) [] ([(3, .rows 4 (l.Held.map GLock.row))]) [[], [1], [4], [3, 5], [], [1], [8]] [[], [], [], [3], [3], [3], [3]] rfl ?_
  first | refine ⟨_, .inr ⟨rfl, _, rfl, .inl rfl, loc_bslice rfl⟩, ?_⟩
  first | refine ⟨_, .inr ⟨rfl, _, rfl, .inl rfl, loc_q (q_fadr_ptr rfl)⟩, ?_⟩ | refine ⟨_, .inr ⟨rfl, _, rfl, .inl rfl, loc_q (q_fadr_rptr rfl)⟩, ?_⟩ | refine ⟨_, .inr ⟨rfl, _, rfl, .inl rfl, loc_q (q_fadr_ip rfl)⟩, ?_⟩
  first | refine ⟨_, .inr ⟨rfl, _, rfl, .inl rfl, loc_q (q_load1_ptr rfl rfl rfl)⟩, ?_⟩ | refine ⟨_, .inr ⟨rfl, _, rfl, .inl rfl, loc_q (q_load1_ip rfl)⟩, ?_⟩ | refine ⟨_, .inr ⟨rfl, _, rfl, .inl rfl, loc_q (q_load1_rptr rfl rfl (by assumption) rfl)⟩, ?_⟩ | refine ⟨_, .inr ⟨rfl, _, rfl, .inl rfl, loc_q (q_load1_rptr rfl rfl (mapAt (by first | assumption | omega)) rfl)⟩, ?_⟩
  refine ⟨⟨6, _, []⟩, .inl ⟨rfl, rfl, rfl, locl_app rfl rfl (Nat.le_refl _) rfl (fun _ _ _ => src_sl 4 _) (.inl (by decide)) (by simp only [List.length_map, List.length_nil]; omega) (n' := l.Held.length) (by simp) (by simp)⟩, ?_⟩
  first | refine ⟨_, .inr ⟨rfl, _, rfl, .inr ⟨rfl, rfl, .inr rfl, rfl, rfl⟩, loc_bslice rfl⟩, ?_⟩
  first | refine ⟨_, .inr ⟨rfl, _, rfl, .inr ⟨rfl, rfl, .inr rfl, rfl, rfl⟩, loc_q (q_fadr_ptr rfl)⟩, ?_⟩ | refine ⟨_, .inr ⟨rfl, _, rfl, .inr ⟨rfl, rfl, .inr rfl, rfl, rfl⟩, loc_q (q_fadr_rptr rfl)⟩, ?_⟩ | refine ⟨_, .inr ⟨rfl, _, rfl, .inr ⟨rfl, rfl, .inr rfl, rfl, rfl⟩, loc_q (q_fadr_ip rfl)⟩, ?_⟩
  first | refine ⟨_, .inr ⟨rfl, _, rfl, .inr ⟨rfl, rfl, .inr rfl, rfl, rfl⟩, loc_q (q_load1_ptr rfl rfl rfl)⟩, ?_⟩ | refine ⟨_, .inr ⟨rfl, _, rfl, .inr ⟨rfl, rfl, .inr rfl, rfl, rfl⟩, loc_q (q_load1_ip rfl)⟩, ?_⟩ | refine ⟨_, .inr ⟨rfl, _, rfl, .inr ⟨rfl, rfl, .inr rfl, rfl, rfl⟩, loc_q (q_load1_rptr rfl rfl (by assumption) rfl)⟩, ?_⟩ | refine ⟨_, .inr ⟨rfl, _, rfl, .inr ⟨rfl, rfl, .inr rfl, rfl, rfl⟩, loc_q (q_load1_rptr rfl rfl (mapAt (by first | assumption | omega)) rfl)⟩, ?_⟩
  refine ⟨rfl, ?_⟩
  refine ax_e (e_appn (n' := l.Waits.length) (rs' := l.Waits.map GWait.row) rfl rfl (Nat.le_refl _) rfl (src_sl 2 _) (.inl (by decide)) (by simp only [List.length_map, List.length_nil]; omega) (by simp) (by simp)) ?_
  refine ax_q (q_build rfl) ?_
  refine ax_e (e_st rfl rfl rfl rfl rfl rfl rfl) ?_
  refine ax_nil ?_
  refine cx_keep rfl rfl ?_
  refine cx_ret (retN (fun e => bif Nat.beq e 7 then 1 else 0) [3, 7] rfl rfl rfl rfl rfl ?_)
  exact ⟨rfl, rfl⟩


/- loop.example/g00332/spec.l06Calm -/
def k_c_l06Calm : XCode :=
  .seq (.ops [.op (some 2) (.box (.t 0)),
     .op (some 4) (.alloc [.nils 4, .nils 2])])
  (.keep [1, 2, 4] (.seq (.ops [.op (some 7) (.bslice 2 []),
     .op (some 5) (.mov (.t 7))])
  (.keep [1, 2, 4, 5] (.seq (.seq (.ops [.op (some 6) (.mov (.k (.int .i64 0)))])
   (.keep [1, 2, 4, 5, 6] (.block 0 (.loop (.seq (.seq (.ops [.op (some 8) (.mov (.t 6)),
         .op (some 9) (.fadr (.t 2) 1),
         .op (some 10) (.load1 (.t 9)),
         .op (some 11) (.lenS (.t 10)),
         .op (some 12) (.bin .lss (.t 8) (.t 11))])
      (.keep [1, 2, 4, 5, 6, 12] (.cond (.t 12)
       (.skip)
       (.exit 0))))
     (.keep [1, 2, 4, 5, 6] (.seq (.block 1 (.seq (.ops [.op (some 15) (.fadr (.t 2) 1),
          .op (some 16) (.load1 (.t 15)),
          .op (some 17) (.mov (.t 6)),
          .op (some 18) (.iadr 2 (.t 16) (.t 17)),
          .op (some 19) (.fadr (.t 18) 0),
          .op (some 20) (.load1 (.t 19)),
          .op (some 21) (.mov (.t 1)),
          .op (some 22) (.bin .neq (.t 20) (.t 21))])
       (.keep [1, 2, 4, 5, 6, 22] (.cond (.t 22)
        (.ops [.op (some 23) (.mov (.t 5)),
           .op (some 24) (.fadr (.t 2) 1),
           .op (some 25) (.load1 (.t 24)),
           .op (some 26) (.mov (.t 6)),
           .op (some 27) (.iadr 2 (.t 25) (.t 26)),
           .op (some 28) (.loadN 2 (.t 27)),
           .op (some 29) (.bslice 2 [.t 28]),
           .op (some 30) (.app 2 16 [.int .i64 0, .int .i64 0] (.t 23) (.t 29)),
           .op (some 5) (.mov (.t 30))])
        (.skip)))))
     (.keep [1, 2, 4, 5, 6] (.ops [.op (some 13) (.mov (.t 6)),
       .op (some 14) (.bin .add (.t 13) (.k (.int .i64 1))),
       .op (some 6) (.mov (.t 14))])))))))))
  (.keep [2, 4, 5] (.seq (.ops [.op (some 31) (.mov (.t 5)),
     .op (some 32) (.fadr (.t 2) 1),
     .op none (.store 1 (.t 32) (.t 31))])
  (.keep [2, 4] (.seq (.ops [.op (some 33) (.loadN 2 (.t 2)),
     .op none (.store 2 (.t 4) (.t 33))])
  (.keep [4] (.ret))))))))))
theorem k_c_l06Calm_fits : fitsF Try.prog 79 ⟨34, k_c_l06Calm, [.cN 4 2]⟩ = true := by kernel_rfl
theorem c_l06Calm {l : GLocks} {tx : Int} (hw0 : l.Held.length ≤ 1048576) (hw1 : l.Waits.length ≤ 1048576) : Con Try.prog noMv 79 [l.avO 1000 1001, int tx] (l.hO 1000 1001) (fun r h => r = (calm l tx).avO 1000 0 ∧ h = (calm l tx).hO 1000 0 ++ [(1001, .rows 2 (l.Waits.map GWait.row))]) := by
  refine con_of2 k_c_l06Calm_fits rfl fun C hP hmv => ?_
  unfold k_c_l06Calm
  let q : GWait → Bool := fun w => !decide (w.Tx = tx)
  refine cx_seq ?_
  refine cx_ops ?_
  refine ax_e (e_box rfl rfl (by decide) rfl rfl rfl) ?_
  refine ax_e (e_alloc (by decide) rfl rfl) ?_
  refine ax_nil ?_
  refine cx_keep rfl rfl ?_
  refine cx_seq ?_
  refine cx_ops ?_
  refine ax_e (e_bslice rfl (by decide) rfl rfl) ?_
  refine ax_q (q_mov rfl) ?_
  refine ax_nil ?_
  refine cx_keep rfl rfl ?_
  refine cx_seq ?_
  refine cx_seq ?_
  refine cx_ops ?_
  refine ax_q (q_mov rfl) ?_
  refine ax_nil ?_
  refine cx_keep rfl rfl ?_
  refine cx_block ?_
  refine cx_loopU (fun n k => k ≤ l.Waits.length ∧ n = l.Waits.length - k) (fun k : Nat => [(5, .osl 7 2 0 ((l.Waits.take k).filter q).length), (6, int k)]) (fun k => [(1000, .rows 4 (l.Held.map GLock.row)), (1001, .rows 2 (l.Waits.map GWait.row)), (2, .box [.osl 1000 4 0 l.Held.length, .osl 1001 2 0 l.Waits.length]), (4, .box [.zs 4, .zs 2]), (7, .rows 2 (((l.Waits.take k).filter q).map GWait.row))]) ⟨_, 0, ⟨Nat.zero_le _, rfl⟩, by repeat (first | exact trivial | refine ⟨rfl, ?_⟩ | refine ⟨?_, ?_⟩)⟩ ?_
  rintro n k ⟨hk, rfl⟩
  refine cx_seq ?_
  refine cx_seq ?_
  refine cx_ops ?_
  refine ax_q (q_mov rfl) ?_
  first | refine ax_q (q_fadr_ptr rfl) ?_ | refine ax_q (q_fadr_rptr rfl) ?_ | refine ax_q (q_fadr_ip rfl) ?_
  first | refine ax_q (q_load1_ptr rfl rfl rfl) ?_ | refine ax_q (q_load1_ip rfl) ?_ | refine ax_q (q_load1_rptr rfl rfl (by assumption) rfl) ?_ | refine ax_q (q_load1_rptr rfl rfl (mapAt (by first | assumption | omega)) rfl) ?_
  first | refine ax_q (q_lenS_map rfl) ?_ | refine ax_q (q_lenS_osl rfl) ?_ | refine ax_q (q_lenS_zs rfl) ?_ | refine ax_q (q_lenS rfl) ?_
  refine ax_q (q_ibin rfl rfl rfl) ?_
  refine ax_nil ?_
  refine cx_keep rfl rfl ?_
  refine cx_cond rfl (fun h0 => ?_) (fun h0 => ?_)
  · have h0 := dT h0
    have h0x : k < l.Waits.length := by omega
    have hfl := @filt_le _ q l.Waits k
    refine cx_skip ?_
    refine cx_keep rfl rfl ?_
    refine cx_seq ?_
    refine cx_block ?_
    refine cx_seq ?_
    refine cx_ops ?_
    first | refine ax_q (q_fadr_ptr rfl) ?_ | refine ax_q (q_fadr_rptr rfl) ?_ | refine ax_q (q_fadr_ip rfl) ?_
    first | refine ax_q (q_load1_ptr rfl rfl rfl) ?_ | refine ax_q (q_load1_ip rfl) ?_ | refine ax_q (q_load1_rptr rfl rfl (by assumption) rfl) ?_ | refine ax_q (q_load1_rptr rfl rfl (mapAt (by first | assumption | omega)) rfl) ?_
    refine ax_q (q_mov rfl) ?_
    refine ax_q (q_ixo rfl rfl h0x) ?_
    first | refine ax_q (q_fadr_ptr rfl) ?_ | refine ax_q (q_fadr_rptr rfl) ?_ | refine ax_q (q_fadr_ip rfl) ?_
    first | refine ax_q (q_load1_ptr rfl rfl rfl) ?_ | refine ax_q (q_load1_ip rfl) ?_ | refine ax_q (q_load1_rptr rfl rfl (by assumption) rfl) ?_ | refine ax_q (q_load1_rptr rfl rfl (mapAt (by first | assumption | omega)) rfl) ?_
    refine ax_q (q_mov rfl) ?_
    refine ax_q (q_ibin rfl rfl rfl) ?_
    refine ax_nil ?_
    refine cx_keep rfl rfl ?_
    refine cx_cond rfl (fun h1 => ?_) (fun h1 => ?_)
    · have h1 := nT h1
      have e1 := filt_succ (q := q) h0x (by show (!decide _) = true; rw [decide_eq_false h1]; rfl)
      refine cx_ops ?_
      refine ax_q (q_mov rfl) ?_
      first | refine ax_q (q_fadr_ptr rfl) ?_ | refine ax_q (q_fadr_rptr rfl) ?_ | refine ax_q (q_fadr_ip rfl) ?_
      first | refine ax_q (q_load1_ptr rfl rfl rfl) ?_ | refine ax_q (q_load1_ip rfl) ?_ | refine ax_q (q_load1_rptr rfl rfl (by assumption) rfl) ?_ | refine ax_q (q_load1_rptr rfl rfl (mapAt (by first | assumption | omega)) rfl) ?_
      refine ax_q (q_mov rfl) ?_
      refine ax_q (q_ixo rfl rfl h0x) ?_
      first | refine ax_q (q_ldN rfl rfl rfl) ?_ | refine ax_q (q_loadN_ip rfl (Nat.le_refl _)) ?_ | refine ax_q (q_loadN_ip rfl (by decide)) ?_ | refine ax_q (q_loadN_rptr rfl rfl (by assumption) (by decide)) ?_ | refine ax_q (q_loadN_rptr rfl rfl (mapAt (by first | assumption | omega)) (by decide)) ?_
      refine ax_e (e_bslice rfl (by decide) rfl rfl) ?_
      refine ax_e (e_appn (n' := ((l.Waits.take (k + 1)).filter q).length) (rs' := ((l.Waits.take (k + 1)).filter q).map GWait.row) rfl rfl (by simp) rfl (src_osl rfl (by simp)) (.inl (by decide)) (hbnd (by omega) (by simp) (by decide)) (by rw [e1]; simp) (by rw [e1]; exact app1 rfl)) ?_
      refine ax_q (q_mov rfl) ?_
      refine ax_nil ?_
      refine cx_keep rfl rfl ?_
      refine cx_ops ?_
      refine ax_q (q_mov rfl) ?_
      refine ax_qe (r' := int ((k + 1 : Nat) : Int)) (q_ibin rfl rfl rfl) (by rw [wi (by omega) (by omega)]; rfl) ?_
      refine ax_q (q_mov rfl) ?_
      refine ax_nil ?_
      exact ⟨_, k + 1, by omega, ⟨by omega, rfl⟩, by repeat (first | exact trivial | refine ⟨rfl, ?_⟩ | refine ⟨?_, ?_⟩)⟩
    · have h1 := nF h1
      have e1 := filt_same (q := q) h0x (by show (!decide _) = false; rw [decide_eq_true h1]; rfl)
      rw [← e1]
      refine cx_skip ?_
      refine cx_keep rfl rfl ?_
      refine cx_ops ?_
      refine ax_q (q_mov rfl) ?_
      refine ax_qe (r' := int ((k + 1 : Nat) : Int)) (q_ibin rfl rfl rfl) (by rw [wi (by omega) (by omega)]; rfl) ?_
      refine ax_q (q_mov rfl) ?_
      refine ax_nil ?_
      exact ⟨_, k + 1, by omega, ⟨by omega, rfl⟩, by repeat (first | exact trivial | refine ⟨rfl, ?_⟩ | refine ⟨?_, ?_⟩)⟩
  · have h0 := dF h0
    have h0x : k = l.Waits.length := by omega
    subst h0x
    rw [List.take_length]
    refine cx_exit rfl ?_
    refine cx_keep rfl rfl ?_
    refine cx_seq ?_
    refine cx_ops ?_
    refine ax_q (q_mov rfl) ?_
    first | refine ax_q (q_fadr_ptr rfl) ?_ | refine ax_q (q_fadr_rptr rfl) ?_ | refine ax_q (q_fadr_ip rfl) ?_
    refine ax_e (e_st rfl rfl rfl rfl rfl rfl rfl) ?_
    refine ax_nil ?_
    refine cx_keep rfl rfl ?_
    refine cx_seq ?_
    refine cx_ops ?_
    first | refine ax_q (q_ldN rfl rfl rfl) ?_ | refine ax_q (q_loadN_ip rfl (Nat.le_refl _)) ?_ | refine ax_q (q_loadN_ip rfl (by decide)) ?_ | refine ax_q (q_loadN_rptr rfl rfl (by assumption) (by decide)) ?_ | refine ax_q (q_loadN_rptr rfl rfl (mapAt (by first | assumption | omega)) (by decide)) ?_
    refine ax_e (e_st rfl rfl rfl rfl rfl rfl rfl) ?_
    refine ax_nil ?_
    refine cx_keep rfl rfl ?_
    refine cx_ret (retN (fun e => bif Nat.beq e 7 then 0 else e) [1000, 7, 1001] rfl rfl rfl rfl rfl ?_)
    exact ⟨rfl, rfl⟩


/- loop.example/g00332/spec.l06Covers -/
def k_c_covers : XCode :=
  .seq (.ops [.op (some 4) (.mov (.k (.bool false)))])
  (.keep [0, 1] (.seq (.ops [.op (some 5) (.mov (.t 0)),
     .op (some 6) (.mov (.t 1)),
     .op (some 7) (.bin .eql (.t 5) (.t 6)),
     .op (some 8) (.mov (.t 7)),
     .andor 11 false 3 8 [.op (some 9) (.mov (.t 0)), .op (some 10) (.bin .eql (.t 9) (.k (.int .i64 4)))] (.t 10),
     .op (some 12) (.mov (.t 11)),
     .andor 15 false 7 12 [.op (some 13) (.mov (.t 1)), .op (some 14) (.bin .eql (.t 13) (.k (.int .i64 1)))] (.t 14),
     .op (some 4) (.mov (.t 15))])
  (.keep [4] (.ret))))
theorem k_c_covers_fits : fitsF Try.prog 89 ⟨16, k_c_covers, [.t 4]⟩ = true := by kernel_rfl
theorem c_covers {a b : Int} : Con Try.prog noMv 89 [int a, int b] [] (fun r h => r = bool (covers a b) ∧ h = []) := by
  refine con_of2 k_c_covers_fits rfl fun C hP hmv => ?_
  unfold k_c_covers
  refine cx_seq ?_
  refine cx_ops ?_
  refine ax_q (q_mov rfl) ?_
  refine ax_nil ?_
  refine cx_keep rfl rfl ?_
  refine cx_seq ?_
  refine cx_ops ?_
  refine ax_q (q_mov rfl) ?_
  refine ax_q (q_mov rfl) ?_
  refine ax_q (q_ibin rfl rfl rfl) ?_
  refine ax_q (q_mov rfl) ?_
  apply ax_or rfl rfl
  · intro g
    have g := dF g
    refine ax_q (q_mov rfl) ?_
    refine ax_q (q_ibin rfl rfl rfl) ?_
    exact ax_nil ⟨rfl, by repeat (first | exact trivial | refine ⟨rfl, ?_⟩ | refine ⟨?_, ?_⟩)⟩
  refine ax_q (q_mov rfl) ?_
  apply ax_or rfl rfl
  · intro g
    have g := (fun h => And.intro (dF (or_F h).1) (dF (or_F h).2)) g
    refine ax_q (q_mov rfl) ?_
    refine ax_q (q_ibin rfl rfl rfl) ?_
    exact ax_nil ⟨rfl, by repeat (first | exact trivial | refine ⟨rfl, ?_⟩ | refine ⟨?_, ?_⟩)⟩
  refine ax_q (q_mov rfl) ?_
  refine ax_nil ?_
  refine cx_keep rfl rfl ?_
  refine cx_ret (ret0 rfl rfl ?_)
  exact ⟨rfl, rfl⟩


/- loop.example/g00332/spec.l06Holds -/
def k_c_l06Holds : XCode :=
  .seq (.ops [.op (some 5) (.box (.t 0)),
     .op (some 10) (.mov (.k (.bool false)))])
  (.keep [1, 2, 3, 4, 5] (.seq (.seq (.ops [.op (some 11) (.mov (.k (.int .i64 0)))])
   (.keep [1, 2, 3, 4, 5, 11] (.block 0 (.loop (.seq (.seq (.ops [.op (some 13) (.mov (.t 11)),
         .op (some 14) (.fadr (.t 5) 0),
         .op (some 15) (.load1 (.t 14)),
         .op (some 16) (.lenS (.t 15)),
         .op (some 17) (.bin .lss (.t 13) (.t 16))])
      (.keep [1, 2, 3, 4, 5, 11, 17] (.cond (.t 17)
       (.skip)
       (.exit 0))))
     (.keep [1, 2, 3, 4, 5, 11] (.seq (.block 1 (.seq (.ops [.op (some 20) (.fadr (.t 5) 0),
          .op (some 21) (.load1 (.t 20)),
          .op (some 22) (.mov (.t 11)),
          .op (some 23) (.iadr 4 (.t 21) (.t 22)),
          .op (some 24) (.loadN 4 (.t 23)),
          .op (some 12) (.alloc [.int .i64 0, .int .i64 0, .int .i64 0, .int .i64 0]),
          .op none (.store 4 (.t 12) (.t 24))])
       (.keep [1, 2, 3, 4, 5, 11, 12] (.seq (.ops [.op (some 25) (.fadr (.t 12) 0),
          .op (some 26) (.load1 (.t 25)),
          .op (some 27) (.mov (.t 1)),
          .op (some 28) (.bin .eql (.t 26) (.t 27)),
          .op (some 29) (.mov (.t 28)),
          .andor 34 true 4 29 [.op (some 30) (.fadr (.t 12) 1), .op (some 31) (.load1 (.t 30)), .op (some 32) (.mov (.t 2)), .op (some 33) (.bin .eql (.t 31) (.t 32))] (.t 33),
          .op (some 35) (.mov (.t 34)),
          .andor 40 true 10 35 [.op (some 36) (.fadr (.t 12) 2), .op (some 37) (.load1 (.t 36)), .op (some 38) (.mov (.t 3)), .op (some 39) (.bin .eql (.t 37) (.t 38))] (.t 39),
          .op (some 41) (.mov (.t 40)),
          .andor 46 true 16 41 [.op (some 42) (.fadr (.t 12) 3), .op (some 43) (.load1 (.t 42)), .op (some 44) (.mov (.t 4)), .call (some 45) 89 [.t 43, .t 44]] (.t 45)])
       (.keep [1, 2, 3, 4, 5, 11, 46] (.cond (.t 46)
        (.seq (.ops [.op (some 10) (.mov (.k (.bool true)))])
         (.keep [10] (.ret)))
        (.skip)))))))
     (.keep [1, 2, 3, 4, 5, 11] (.ops [.op (some 18) (.mov (.t 11)),
       .op (some 19) (.bin .add (.t 18) (.k (.int .i64 1))),
       .op (some 11) (.mov (.t 19))])))))))))
  (.keep [] (.seq (.ops [.op (some 10) (.mov (.k (.bool false)))])
  (.keep [10] (.ret))))))
theorem k_c_l06Holds_fits : fitsF Try.prog 80 ⟨47, k_c_l06Holds, [.t 10]⟩ = true := by kernel_rfl
theorem c_l06Holds {l : GLocks} {x : GLock} (hw0 : l.Held.length ≤ 1048576) (hw1 : l.Waits.length ≤ 1048576) : Con Try.prog noMv 80 [l.av, int x.Tx, int x.Table, int x.Row, int x.Mode] [] (fun r h => r = bool (holdsL l x) ∧ h = []) := by
  refine con_of2 k_c_l06Holds_fits rfl fun C hP hmv => ?_
  unfold k_c_l06Holds
  refine cx_seq ?_
  refine cx_ops ?_
  refine ax_e (e_box rfl rfl (by decide) rfl rfl rfl) ?_
  refine ax_q (q_mov rfl) ?_
  refine ax_nil ?_
  refine cx_keep rfl rfl ?_
  refine cx_seq ?_
  refine cx_seq ?_
  refine cx_ops ?_
  refine ax_q (q_mov rfl) ?_
  refine ax_nil ?_
  refine cx_keep rfl rfl ?_
  refine cx_block ?_
  refine cx_loopU (fun n k => k ≤ l.Held.length ∧ n = l.Held.length - k ∧ ∀ j, j < k → ∀ h, l.Held[j]? = some h → hasL h x = false) (fun k : Nat => [(11, int k)]) (fun _ => [(5, .box [.d (.sl 4 (l.Held.map GLock.row)), .d (.sl 2 (l.Waits.map GWait.row))])]) ⟨_, 0, ⟨Nat.zero_le _, rfl, fun j hj => by omega⟩, by repeat (first | exact trivial | refine ⟨rfl, ?_⟩ | refine ⟨?_, ?_⟩)⟩ ?_
  rintro n k ⟨hk, rfl, hb⟩
  refine cx_seq ?_
  refine cx_seq ?_
  refine cx_ops ?_
  refine ax_q (q_mov rfl) ?_
  first | refine ax_q (q_fadr_ptr rfl) ?_ | refine ax_q (q_fadr_rptr rfl) ?_ | refine ax_q (q_fadr_ip rfl) ?_
  first | refine ax_q (q_load1_ptr rfl rfl rfl) ?_ | refine ax_q (q_load1_ip rfl) ?_ | refine ax_q (q_load1_rptr rfl rfl (by assumption) rfl) ?_ | refine ax_q (q_load1_rptr rfl rfl (mapAt (by first | assumption | omega)) rfl) ?_
  first | refine ax_q (q_lenS_map rfl) ?_ | refine ax_q (q_lenS_osl rfl) ?_ | refine ax_q (q_lenS_zs rfl) ?_ | refine ax_q (q_lenS rfl) ?_
  refine ax_q (q_ibin rfl rfl rfl) ?_
  refine ax_nil ?_
  refine cx_keep rfl rfl ?_
  refine cx_cond rfl (fun h0 => ?_) (fun h0 => ?_)
  · have h0 := dT h0
    have h0x : k < l.Held.length := by omega
    refine cx_skip ?_
    refine cx_keep rfl rfl ?_
    refine cx_seq ?_
    refine cx_block ?_
    refine cx_seq ?_
    refine cx_ops ?_
    first | refine ax_q (q_fadr_ptr rfl) ?_ | refine ax_q (q_fadr_rptr rfl) ?_ | refine ax_q (q_fadr_ip rfl) ?_
    first | refine ax_q (q_load1_ptr rfl rfl rfl) ?_ | refine ax_q (q_load1_ip rfl) ?_ | refine ax_q (q_load1_rptr rfl rfl (by assumption) rfl) ?_ | refine ax_q (q_load1_rptr rfl rfl (mapAt (by first | assumption | omega)) rfl) ?_
    refine ax_q (q_mov rfl) ?_
    refine ax_q (q_ix rfl rfl (mapAt h0x)) ?_
    first | refine ax_q (q_ldN rfl rfl rfl) ?_ | refine ax_q (q_loadN_ip rfl (Nat.le_refl _)) ?_ | refine ax_q (q_loadN_ip rfl (by decide)) ?_ | refine ax_q (q_loadN_rptr rfl rfl (by assumption) (by decide)) ?_ | refine ax_q (q_loadN_rptr rfl rfl (mapAt (by first | assumption | omega)) (by decide)) ?_
    refine ax_e (e_alloc (by decide) rfl rfl) ?_
    refine ax_e (e_st rfl rfl rfl rfl rfl rfl rfl) ?_
    refine ax_nil ?_
    refine cx_keep rfl rfl ?_
    refine cx_seq ?_
    refine cx_ops ?_
    first | refine ax_q (q_fadr_ptr rfl) ?_ | refine ax_q (q_fadr_rptr rfl) ?_ | refine ax_q (q_fadr_ip rfl) ?_
    first | refine ax_q (q_load1_ptr rfl rfl rfl) ?_ | refine ax_q (q_load1_ip rfl) ?_ | refine ax_q (q_load1_rptr rfl rfl (by assumption) rfl) ?_ | refine ax_q (q_load1_rptr rfl rfl (mapAt (by first | assumption | omega)) rfl) ?_
    refine ax_q (q_mov rfl) ?_
    refine ax_q (q_ibin rfl rfl rfl) ?_
    refine ax_q (q_mov rfl) ?_
    apply ax_and rfl rfl
    · intro g
      have g := dT g
      first | refine ax_q (q_fadr_ptr rfl) ?_ | refine ax_q (q_fadr_rptr rfl) ?_ | refine ax_q (q_fadr_ip rfl) ?_
      first | refine ax_q (q_load1_ptr rfl rfl rfl) ?_ | refine ax_q (q_load1_ip rfl) ?_ | refine ax_q (q_load1_rptr rfl rfl (by assumption) rfl) ?_ | refine ax_q (q_load1_rptr rfl rfl (mapAt (by first | assumption | omega)) rfl) ?_
      refine ax_q (q_mov rfl) ?_
      refine ax_q (q_ibin rfl rfl rfl) ?_
      exact ax_nil ⟨rfl, by repeat (first | exact trivial | refine ⟨rfl, ?_⟩ | refine ⟨?_, ?_⟩)⟩
    refine ax_q (q_mov rfl) ?_
    apply ax_and rfl rfl
    · intro g
      have g := (fun h => And.intro (dT (and_T h).1) (dT (and_T h).2)) g
      first | refine ax_q (q_fadr_ptr rfl) ?_ | refine ax_q (q_fadr_rptr rfl) ?_ | refine ax_q (q_fadr_ip rfl) ?_
      first | refine ax_q (q_load1_ptr rfl rfl rfl) ?_ | refine ax_q (q_load1_ip rfl) ?_ | refine ax_q (q_load1_rptr rfl rfl (by assumption) rfl) ?_ | refine ax_q (q_load1_rptr rfl rfl (mapAt (by first | assumption | omega)) rfl) ?_
      refine ax_q (q_mov rfl) ?_
      refine ax_q (q_ibin rfl rfl rfl) ?_
      exact ax_nil ⟨rfl, by repeat (first | exact trivial | refine ⟨rfl, ?_⟩ | refine ⟨?_, ?_⟩)⟩
    refine ax_q (q_mov rfl) ?_
    apply ax_and rfl rfl
    · intro g
      have g := (fun h => And.intro ((fun h => And.intro (dT (and_T h).1) (dT (and_T h).2)) (and_T h).1) (dT (and_T h).2)) g
      first | refine ax_q (q_fadr_ptr rfl) ?_ | refine ax_q (q_fadr_rptr rfl) ?_ | refine ax_q (q_fadr_ip rfl) ?_
      first | refine ax_q (q_load1_ptr rfl rfl rfl) ?_ | refine ax_q (q_load1_ip rfl) ?_ | refine ax_q (q_load1_rptr rfl rfl (by assumption) rfl) ?_ | refine ax_q (q_load1_rptr rfl rfl (mapAt (by first | assumption | omega)) rfl) ?_
      refine ax_q (q_mov rfl) ?_
      first | refine ax_call rfl (vc_pure0 (c_covers  ) hP rfl rfl ?_) | refine ax_call rfl (vc_lend0 (c_covers  ) hP (by repeat (first | exact lal_id _ rfl | exact LAL.nil | refine LAL.cons ?_ ?_ | exact la_id _ rfl | exact LA.lend (lend_whole rfl (by first | (simp; done) | (rw [List.length_map]; rfl))) | refine LA.agg ?_ | refine LA.fn ?_ | refine LA.lend ?_ | exact Lend.d _ | exact Lend.zs _ | exact lend_whole rfl (by first | (simp; done) | (rw [List.length_map]; rfl)) | refine Lend.ptr rfl ?_ | refine Lend.fn ?_ | exact LendL.nil | refine LendL.cons ?_ ?_)) rfl rfl ?_)
      exact ax_nil ⟨rfl, by repeat (first | exact trivial | refine ⟨rfl, ?_⟩ | refine ⟨?_, ?_⟩)⟩
    refine ax_nil ?_
    refine cx_keep rfl rfl ?_
    refine cx_cond rfl (fun h1 => ?_) (fun h1 => ?_)
    · have h1 : hasL l.Held[k] x = true := by rw [← covers_eq]; exact h1
      refine cx_seq ?_
      refine cx_ops ?_
      refine ax_q (q_mov rfl) ?_
      refine ax_nil ?_
      refine cx_keep rfl rfl ?_
      refine cx_ret (ret0 rfl rfl ?_)
      exact ⟨by unfold holdsL; rw [any_hit h0x h1]; rfl, rfl⟩
    · have h1 : hasL l.Held[k] x = false := by rw [← covers_eq]; exact h1
      refine cx_skip ?_
      refine cx_keep rfl rfl ?_
      refine cx_ops ?_
      refine ax_q (q_mov rfl) ?_
      refine ax_qe (r' := int ((k + 1 : Nat) : Int)) (q_ibin rfl rfl rfl) (by rw [wi (by omega) (by omega)]; rfl) ?_
      refine ax_q (q_mov rfl) ?_
      refine ax_nil ?_
      exact ⟨_, k + 1, by omega, ⟨by omega, rfl, before_step h0x hb h1⟩, by repeat (first | exact trivial | refine ⟨rfl, ?_⟩ | refine ⟨?_, ?_⟩)⟩
  · have h0 := dF h0
    have h0x : k = l.Held.length := by omega
    refine cx_exit rfl ?_
    refine cx_keep rfl rfl ?_
    refine cx_seq ?_
    refine cx_ops ?_
    refine ax_q (q_mov rfl) ?_
    refine ax_nil ?_
    refine cx_keep rfl rfl ?_
    refine cx_ret (ret0 rfl rfl ?_)
    exact ⟨by unfold holdsL; rw [any_all (fun i hi => hb i (by omega))]; rfl, rfl⟩


/- loop.example/g00332/spec.l06Round -/
def k_c_l06Round : XCode :=
  .seq (.ops [.op (some 2) (.box (.t 0)),
     .op (some 4) (.mov (.k (.bool false)))])
  (.keep [1, 2] (.seq (.ops [.op (some 11) (.mov (.t 1)),
     .op (some 12) (.bslice 1 [.t 11]),
     .op (some 5) (.mov (.t 12))])
  (.keep [1, 2, 5] (.seq (.seq (.ops [.op (some 6) (.mov (.k (.int .i64 0)))])
   (.keep [1, 2, 5, 6] (.block 0 (.loop (.seq (.seq (.ops [.op (some 13) (.mov (.t 6)),
         .op (some 14) (.mov (.t 5)),
         .op (some 15) (.lenS (.t 14)),
         .op (some 16) (.bin .lss (.t 13) (.t 15))])
      (.keep [1, 2, 5, 6, 16] (.cond (.t 16)
       (.skip)
       (.exit 0))))
     (.keep [1, 2, 5, 6] (.seq (.block 1 (.seq (.ops [.op (some 7) (.mov (.k (.int .i64 0)))])
       (.keep [1, 2, 5, 6, 7] (.block 2 (.loop (.seq (.seq (.ops [.op (some 19) (.mov (.t 7)),
             .op (some 20) (.fadr (.t 2) 1),
             .op (some 21) (.load1 (.t 20)),
             .op (some 22) (.lenS (.t 21)),
             .op (some 23) (.bin .lss (.t 19) (.t 22))])
          (.keep [1, 2, 5, 6, 7, 23] (.cond (.t 23)
           (.skip)
           (.exit 2))))
         (.keep [1, 2, 5, 6, 7] (.seq (.block 3 (.seq (.ops [.op (some 26) (.fadr (.t 2) 1),
              .op (some 27) (.load1 (.t 26)),
              .op (some 28) (.mov (.t 7)),
              .op (some 29) (.iadr 2 (.t 27) (.t 28)),
              .op (some 30) (.loadN 2 (.t 29)),
              .op (some 8) (.alloc [.int .i64 0, .int .i64 0]),
              .op none (.store 2 (.t 8) (.t 30))])
           (.keep [1, 2, 5, 6, 7, 8] (.seq (.seq (.draw [.op (some 31) (.fadr (.t 8) 0),
               .op (some 32) (.load1 (.t 31)),
               .op (some 33) (.mov (.t 5)),
               .op (some 34) (.mov (.t 6)),
               .op (some 35) (.iadr 1 (.t 33) (.t 34)),
               .op (some 36) (.load1 (.t 35)),
               .op (some 37) (.bin .neq (.t 32) (.t 36))])
            (.keep [1, 2, 5, 6, 7, 8, 37] (.cond (.t 37)
             (.exit 3)
             (.skip))))
           (.keep [1, 2, 5, 6, 7, 8] (.seq (.seq (.ops [.op (some 38) (.fadr (.t 8) 1),
               .op (some 39) (.load1 (.t 38)),
               .op (some 40) (.mov (.t 1)),
               .op (some 41) (.bin .eql (.t 39) (.t 40))])
            (.keep [1, 2, 5, 6, 7, 8, 41] (.cond (.t 41)
             (.seq (.ops [.op (some 4) (.mov (.k (.bool true)))])
              (.keep [4] (.ret)))
             (.skip))))
           (.keep [1, 2, 5, 6, 7, 8] (.seq (.ops [.op (some 9) (.mov (.k (.bool false)))])
           (.keep [1, 2, 5, 6, 7, 8, 9] (.seq (.seq (.ops [.op (some 10) (.mov (.k (.int .i64 0)))])
            (.keep [1, 2, 5, 6, 7, 8, 9, 10] (.block 4 (.loop (.seq (.seq (.ops [.op (some 42) (.mov (.t 10)),
                  .op (some 43) (.mov (.t 5)),
                  .op (some 44) (.lenS (.t 43)),
                  .op (some 45) (.bin .lss (.t 42) (.t 44))])
               (.keep [1, 2, 5, 6, 7, 8, 9, 10, 45] (.cond (.t 45)
                (.skip)
                (.exit 4))))
              (.keep [1, 2, 5, 6, 7, 8, 9, 10] (.seq (.block 5 (.draw [.op (some 48) (.mov (.t 9)),
                  .op (some 49) (.mov (.t 48)),
                  .andor 57 false 1 49 [.op (some 50) (.mov (.t 5)), .op (some 51) (.mov (.t 10)), .op (some 52) (.iadr 1 (.t 50) (.t 51)), .op (some 53) (.load1 (.t 52)), .op (some 54) (.fadr (.t 8) 1), .op (some 55) (.load1 (.t 54)), .op (some 56) (.bin .eql (.t 53) (.t 55))] (.t 56),
                  .op (some 9) (.mov (.t 57))]))
              (.keep [1, 2, 5, 6, 7, 8, 9, 10] (.ops [.op (some 46) (.mov (.t 10)),
                .op (some 47) (.bin .add (.t 46) (.k (.int .i64 1))),
                .op (some 10) (.mov (.t 47))])))))))))
           (.keep [1, 2, 5, 6, 7, 8, 9] (.seq (.ops [.op (some 58) (.mov (.t 9)),
              .op (some 59) (.not (.t 58))])
           (.keep [1, 2, 5, 6, 7, 8, 59] (.cond (.t 59)
            (.ops [.op (some 60) (.mov (.t 5)),
               .op (some 61) (.fadr (.t 8) 1),
               .op (some 62) (.load1 (.t 61)),
               .op (some 63) (.bslice 1 [.t 62]),
               .op (some 64) (.app 1 8 [.int .i64 0] (.t 60) (.t 63)),
               .op (some 5) (.mov (.t 64))])
            (.skip)))))))))))))))
         (.keep [1, 2, 5, 6, 7] (.ops [.op (some 24) (.mov (.t 7)),
           .op (some 25) (.bin .add (.t 24) (.k (.int .i64 1))),
           .op (some 7) (.mov (.t 25))]))))))))))
     (.keep [1, 2, 5, 6] (.ops [.op (some 17) (.mov (.t 6)),
       .op (some 18) (.bin .add (.t 17) (.k (.int .i64 1))),
       .op (some 6) (.mov (.t 18))])))))))))
  (.keep [] (.seq (.ops [.op (some 4) (.mov (.k (.bool false)))])
  (.keep [4] (.ret))))))))
theorem k_c_l06Round_fits : fitsF Try.prog 81 ⟨65, k_c_l06Round, [.t 4]⟩ = true := by kernel_rfl
theorem c_l06Round {l : GLocks} {tx : Int} (hw0 : l.Held.length ≤ 1048576) (hw1 : l.Waits.length ≤ 1048576) : Con Try.prog noMv 81 [l.av, int tx] [] (fun r h => r = bool (roundB l.Waits tx) ∧ h = []) := by
  refine con_of2 k_c_l06Round_fits rfl fun C hP hmv => ?_
  unfold k_c_l06Round
  refine cx_seq ?_
  refine cx_ops ?_
  refine ax_e (e_box rfl rfl (by decide) rfl rfl rfl) ?_
  refine ax_q (q_mov rfl) ?_
  refine ax_nil ?_
  refine cx_keep rfl rfl ?_
  refine cx_seq ?_
  refine cx_ops ?_
  refine ax_q (q_mov rfl) ?_
  refine ax_e (e_bslice rfl (by decide) rfl rfl) ?_
  refine ax_q (q_mov rfl) ?_
  refine ax_nil ?_
  refine cx_keep rfl rfl ?_
  refine cx_seq ?_
  refine cx_seq ?_
  refine cx_ops ?_
  refine ax_q (q_mov rfl) ?_
  refine ax_nil ?_
  refine cx_keep rfl rfl ?_
  refine cx_block ?_
  refine cx_loopU (fun n (s : Nat × List Int) => n = l.Waits.length + 2 - s.1 ∧ RInv tx l.Waits s.2 ∧ s.1 ≤ s.2.length ∧ roundF tx l.Waits (l.Waits.length + 2 - s.1) s.1 s.2 = roundB l.Waits tx) (fun s => [(5, .osl 12 1 0 s.2.length), (6, int s.1)]) (fun s => [(2, .box [.d (.sl 4 (l.Held.map GLock.row)), .d (.sl 2 (l.Waits.map GWait.row))]), (12, .rows 1 (s.2.map intRow))]) ⟨_, (0, [tx]), ⟨rfl, RInv.start _ _, Nat.zero_le _, rfl⟩, by repeat (first | exact trivial | refine ⟨rfl, ?_⟩ | refine ⟨?_, ?_⟩)⟩ ?_
  rintro n ⟨i, r⟩ ⟨rfl, hr, hi, hd⟩
  simp only at hr hi hd ⊢
  have hrl := hr.len
  refine cx_seq ?_
  refine cx_seq ?_
  refine cx_ops ?_
  refine ax_q (q_mov rfl) ?_
  refine ax_q (q_mov rfl) ?_
  first | refine ax_q (q_lenS_map rfl) ?_ | refine ax_q (q_lenS_osl rfl) ?_ | refine ax_q (q_lenS_zs rfl) ?_ | refine ax_q (q_lenS rfl) ?_
  refine ax_q (q_ibin rfl rfl rfl) ?_
  refine ax_nil ?_
  refine cx_keep rfl rfl ?_
  refine cx_cond rfl (fun h0 => ?_) (fun h0 => ?_)
  · have h0 := dT h0
    have h0x : i < r.length := by omega
    refine cx_skip ?_
    refine cx_keep rfl rfl ?_
    refine cx_seq ?_
    refine cx_block ?_
    refine cx_seq ?_
    refine cx_ops ?_
    refine ax_q (q_mov rfl) ?_
    refine ax_nil ?_
    refine cx_keep rfl rfl ?_
    refine cx_block ?_
    refine cx_loopU (fun n (s : Nat × List Int) => s.1 ≤ l.Waits.length ∧ n = l.Waits.length - s.1 ∧ RInv tx l.Waits s.2 ∧ (∃ m, s.2 = r ++ m) ∧ scanW tx r[i] (l.Waits.take s.1) r = some s.2) (fun s => [(5, .osl 12 1 0 s.2.length), (7, int s.1)]) (fun s => [(2, .box [.d (.sl 4 (l.Held.map GLock.row)), .d (.sl 2 (l.Waits.map GWait.row))]), (12, .rows 1 (s.2.map intRow))]) ⟨_, (0, r), ⟨Nat.zero_le _, rfl, hr, ⟨[], by simp⟩, rfl⟩, by repeat (first | exact trivial | refine ⟨rfl, ?_⟩ | refine ⟨?_, ?_⟩)⟩ ?_
    rintro n ⟨k, r'⟩ ⟨hk, rfl, hr', ⟨m, hm⟩, hs⟩
    simp only at hk hr' hm hs ⊢
    have hrl' := hr'.len
    have hil : i < r'.length := by rw [hm]; simp; omega
    have hia : r'[i] = r[i] := by subst hm; exact app_get h0x hil
    refine cx_seq ?_
    refine cx_seq ?_
    refine cx_ops ?_
    refine ax_q (q_mov rfl) ?_
    first | refine ax_q (q_fadr_ptr rfl) ?_ | refine ax_q (q_fadr_rptr rfl) ?_ | refine ax_q (q_fadr_ip rfl) ?_
    first | refine ax_q (q_load1_ptr rfl rfl rfl) ?_ | refine ax_q (q_load1_ip rfl) ?_ | refine ax_q (q_load1_rptr rfl rfl (by assumption) rfl) ?_ | refine ax_q (q_load1_rptr rfl rfl (mapAt (by first | assumption | omega)) rfl) ?_
    first | refine ax_q (q_lenS_map rfl) ?_ | refine ax_q (q_lenS_osl rfl) ?_ | refine ax_q (q_lenS_zs rfl) ?_ | refine ax_q (q_lenS rfl) ?_
    refine ax_q (q_ibin rfl rfl rfl) ?_
    refine ax_nil ?_
    refine cx_keep rfl rfl ?_
    refine cx_cond rfl (fun h1 => ?_) (fun h1 => ?_)
    · have h1 := dT h1
      have h1x : k < l.Waits.length := by omega
      refine cx_skip ?_
      refine cx_keep rfl rfl ?_
      refine cx_seq ?_
      refine cx_block ?_
      refine cx_seq ?_
      refine cx_ops ?_
      first | refine ax_q (q_fadr_ptr rfl) ?_ | refine ax_q (q_fadr_rptr rfl) ?_ | refine ax_q (q_fadr_ip rfl) ?_
      first | refine ax_q (q_load1_ptr rfl rfl rfl) ?_ | refine ax_q (q_load1_ip rfl) ?_ | refine ax_q (q_load1_rptr rfl rfl (by assumption) rfl) ?_ | refine ax_q (q_load1_rptr rfl rfl (mapAt (by first | assumption | omega)) rfl) ?_
      refine ax_q (q_mov rfl) ?_
      refine ax_q (q_ix rfl rfl (mapAt h1x)) ?_
      first | refine ax_q (q_ldN rfl rfl rfl) ?_ | refine ax_q (q_loadN_ip rfl (Nat.le_refl _)) ?_ | refine ax_q (q_loadN_ip rfl (by decide)) ?_ | refine ax_q (q_loadN_rptr rfl rfl (by assumption) (by decide)) ?_ | refine ax_q (q_loadN_rptr rfl rfl (mapAt (by first | assumption | omega)) (by decide)) ?_
      refine ax_e (e_alloc (by decide) rfl rfl) ?_
      refine ax_e (e_st rfl rfl rfl rfl rfl rfl rfl) ?_
      refine ax_nil ?_
      refine cx_keep rfl rfl ?_
      refine cx_seq ?_
      refine cx_seq ?_
      refine cx_draw ?_
      first | refine ax_q (q_fadr_ptr rfl) ?_ | refine ax_q (q_fadr_rptr rfl) ?_ | refine ax_q (q_fadr_ip rfl) ?_
      first | refine ax_q (q_load1_ptr rfl rfl rfl) ?_ | refine ax_q (q_load1_ip rfl) ?_ | refine ax_q (q_load1_rptr rfl rfl (by assumption) rfl) ?_ | refine ax_q (q_load1_rptr rfl rfl (mapAt (by first | assumption | omega)) rfl) ?_
      refine ax_q (q_mov rfl) ?_
      refine ax_q (q_mov rfl) ?_
      refine ax_q (q_ixo rfl rfl hil) ?_
      first | refine ax_q (q_load1_ptr rfl rfl rfl) ?_ | refine ax_q (q_load1_ip rfl) ?_ | refine ax_q (q_load1_rptr rfl rfl (by assumption) rfl) ?_ | refine ax_q (q_load1_rptr rfl rfl (mapAt (by first | assumption | omega)) rfl) ?_
      refine ax_q (q_ibin rfl rfl rfl) ?_
      refine ax_nil ?_
      refine cx_keep rfl rfl ?_
      refine cx_cond rfl (fun h2 => ?_) (fun h2 => ?_)
      · have h2 := nT h2
        have e1 := scan1_skip (tx := tx) (r := r') (show ¬ l.Waits[k].Tx = r[i] from by rw [← hia]; exact h2)
        refine cx_exit rfl ?_
        refine cx_keep rfl rfl ?_
        refine cx_ops ?_
        refine ax_q (q_mov rfl) ?_
        refine ax_qe (r' := int ((k + 1 : Nat) : Int)) (q_ibin rfl rfl rfl) (by rw [wi (by omega) (by omega)]; rfl) ?_
        refine ax_q (q_mov rfl) ?_
        refine ax_nil ?_
        obtain ⟨r2, h8⟩ : ∃ r2, r2 = r2 := ⟨r', rfl⟩
        exact ⟨_, (k + 1, _), by simp only; omega, ⟨by simp only; omega, rfl, (hr'.step h1x e1).1, (by obtain ⟨m2, h7⟩ := (hr'.step h1x e1).2; exact ⟨m ++ m2, h7.trans (by rw [hm, List.append_assoc])⟩), by simp only [scanW_succ h1x, hs]; exact e1⟩, by repeat (first | exact trivial | refine ⟨rfl, ?_⟩ | refine ⟨?_, ?_⟩)⟩
      · have h2 := nF h2
        have h2 : l.Waits[k].Tx = r[i] := by rw [← hia]; exact h2
        refine cx_skip ?_
        refine cx_keep rfl rfl ?_
        refine cx_seq ?_
        refine cx_seq ?_
        refine cx_ops ?_
        first | refine ax_q (q_fadr_ptr rfl) ?_ | refine ax_q (q_fadr_rptr rfl) ?_ | refine ax_q (q_fadr_ip rfl) ?_
        first | refine ax_q (q_load1_ptr rfl rfl rfl) ?_ | refine ax_q (q_load1_ip rfl) ?_ | refine ax_q (q_load1_rptr rfl rfl (by assumption) rfl) ?_ | refine ax_q (q_load1_rptr rfl rfl (mapAt (by first | assumption | omega)) rfl) ?_
        refine ax_q (q_mov rfl) ?_
        refine ax_q (q_ibin rfl rfl rfl) ?_
        refine ax_nil ?_
        refine cx_keep rfl rfl ?_
        refine cx_cond rfl (fun h3 => ?_) (fun h3 => ?_)
        · have h3 := dT h3
          refine cx_seq ?_
          refine cx_ops ?_
          refine ax_q (q_mov rfl) ?_
          refine ax_nil ?_
          refine cx_keep rfl rfl ?_
          refine cx_ret (ret0 rfl rfl ?_)
          exact ⟨by rw [← hd, show l.Waits.length + 2 - i = (l.Waits.length + 1 - i) + 1 from by omega, roundF_hit h0x (scanW_none (k := k) (by rw [scanW_succ h1x, hs]; exact scan1_hit h2 h3))]; rfl, rfl⟩
        · have h3 := dF h3
          refine cx_skip ?_
          refine cx_keep rfl rfl ?_
          refine cx_seq ?_
          refine cx_ops ?_
          refine ax_q (q_mov rfl) ?_
          refine ax_nil ?_
          refine cx_keep rfl rfl ?_
          refine cx_seq ?_
          refine cx_seq ?_
          refine cx_ops ?_
          refine ax_q (q_mov rfl) ?_
          refine ax_nil ?_
          refine cx_keep rfl rfl ?_
          refine cx_block ?_
          refine cx_loopU (fun n j => j ≤ r'.length ∧ n = r'.length - j) (fun j : Nat => [(9, bool ((r'.take j).any (fun s => eqb l.Waits[k].For s))), (10, int j)]) (fun _ => [(2, .box [.d (.sl 4 (l.Held.map GLock.row)), .d (.sl 2 (l.Waits.map GWait.row))]), (12, .rows 1 (r'.map intRow)), (8, .box [.d (.int .i64 l.Waits[k].Tx), .d (.int .i64 l.Waits[k].For)])]) ⟨_, 0, ⟨Nat.zero_le _, rfl⟩, by repeat (first | exact trivial | refine ⟨rfl, ?_⟩ | refine ⟨?_, ?_⟩)⟩ ?_
          rintro n j ⟨hj, rfl⟩
          refine cx_seq ?_
          refine cx_seq ?_
          refine cx_ops ?_
          refine ax_q (q_mov rfl) ?_
          refine ax_q (q_mov rfl) ?_
          first | refine ax_q (q_lenS_map rfl) ?_ | refine ax_q (q_lenS_osl rfl) ?_ | refine ax_q (q_lenS_zs rfl) ?_ | refine ax_q (q_lenS rfl) ?_
          refine ax_q (q_ibin rfl rfl rfl) ?_
          refine ax_nil ?_
          refine cx_keep rfl rfl ?_
          refine cx_cond rfl (fun h4 => ?_) (fun h4 => ?_)
          · have h4 := dT h4
            have h4x : j < r'.length := by omega
            refine cx_skip ?_
            refine cx_keep rfl rfl ?_
            refine cx_seq ?_
            refine cx_block ?_
            refine cx_draw ?_
            refine ax_q (q_mov rfl) ?_
            refine ax_q (q_mov rfl) ?_
            apply ax_or rfl rfl
            · intro g
              refine ax_q (q_mov rfl) ?_
              refine ax_q (q_mov rfl) ?_
              refine ax_q (q_ixo rfl rfl h4x) ?_
              first | refine ax_q (q_load1_ptr rfl rfl rfl) ?_ | refine ax_q (q_load1_ip rfl) ?_ | refine ax_q (q_load1_rptr rfl rfl (by assumption) rfl) ?_ | refine ax_q (q_load1_rptr rfl rfl (mapAt (by first | assumption | omega)) rfl) ?_
              first | refine ax_q (q_fadr_ptr rfl) ?_ | refine ax_q (q_fadr_rptr rfl) ?_ | refine ax_q (q_fadr_ip rfl) ?_
              first | refine ax_q (q_load1_ptr rfl rfl rfl) ?_ | refine ax_q (q_load1_ip rfl) ?_ | refine ax_q (q_load1_rptr rfl rfl (by assumption) rfl) ?_ | refine ax_q (q_load1_rptr rfl rfl (mapAt (by first | assumption | omega)) rfl) ?_
              refine ax_q (q_ibin rfl rfl rfl) ?_
              exact ax_nil ⟨rfl, by repeat (first | exact trivial | refine ⟨rfl, ?_⟩ | refine ⟨?_, ?_⟩)⟩
            rw [show ((r'.take j).any (fun s => eqb l.Waits[k].For s) || decide (r'[j] = l.Waits[k].For)) = (r'.take (j + 1)).any (fun s => eqb l.Waits[k].For s) from by rw [any_take_succ h4x, deceq]]
            refine ax_q (q_mov rfl) ?_
            refine ax_nil ?_
            refine cx_keep rfl rfl ?_
            refine cx_ops ?_
            refine ax_q (q_mov rfl) ?_
            refine ax_qe (r' := int ((j + 1 : Nat) : Int)) (q_ibin rfl rfl rfl) (by rw [wi (by omega) (by omega)]; rfl) ?_
            refine ax_q (q_mov rfl) ?_
            refine ax_nil ?_
            exact ⟨_, j + 1, by omega, ⟨by omega, rfl⟩, by repeat (first | exact trivial | refine ⟨rfl, ?_⟩ | refine ⟨?_, ?_⟩)⟩
          · have h4 := dF h4
            have h4x : j = r'.length := by omega
            subst h4x
            rw [any_full]
            refine cx_exit rfl ?_
            refine cx_keep rfl rfl ?_
            refine cx_seq ?_
            refine cx_ops ?_
            refine ax_q (q_mov rfl) ?_
            refine ax_q (q_not rfl) ?_
            refine ax_nil ?_
            refine cx_keep rfl rfl ?_
            refine cx_cond rfl (fun h5 => ?_) (fun h5 => ?_)
            · have h5 := bT h5
              have e1 := scan1_new h2 h3 h5
              refine cx_ops ?_
              refine ax_q (q_mov rfl) ?_
              first | refine ax_q (q_fadr_ptr rfl) ?_ | refine ax_q (q_fadr_rptr rfl) ?_ | refine ax_q (q_fadr_ip rfl) ?_
              first | refine ax_q (q_load1_ptr rfl rfl rfl) ?_ | refine ax_q (q_load1_ip rfl) ?_ | refine ax_q (q_load1_rptr rfl rfl (by assumption) rfl) ?_ | refine ax_q (q_load1_rptr rfl rfl (mapAt (by first | assumption | omega)) rfl) ?_
              refine ax_e (e_bslice rfl (by decide) rfl rfl) ?_
              refine ax_e (e_appn (n' := (r' ++ [l.Waits[k].For]).length) (rs' := (r' ++ [l.Waits[k].For]).map intRow) rfl rfl (by simp) rfl (src_osl rfl (by simp)) (.inl (by decide)) (hbnd (by omega) (by simp) (by decide)) (by simp) (app1 rfl)) ?_
              refine ax_q (q_mov rfl) ?_
              refine ax_nil ?_
              refine cx_keep rfl rfl ?_
              refine cx_ops ?_
              refine ax_q (q_mov rfl) ?_
              refine ax_qe (r' := int ((k + 1 : Nat) : Int)) (q_ibin rfl rfl rfl) (by rw [wi (by omega) (by omega)]; rfl) ?_
              refine ax_q (q_mov rfl) ?_
              refine ax_nil ?_
              obtain ⟨r2, h8⟩ : ∃ r2, r2 = r2 := ⟨r', rfl⟩
              exact ⟨_, (k + 1, _), by simp only; omega, ⟨by simp only; omega, rfl, (hr'.step h1x e1).1, (by obtain ⟨m2, h7⟩ := (hr'.step h1x e1).2; exact ⟨m ++ m2, h7.trans (by rw [hm, List.append_assoc])⟩), by simp only [scanW_succ h1x, hs]; exact e1⟩, by repeat (first | exact trivial | refine ⟨rfl, ?_⟩ | refine ⟨?_, ?_⟩)⟩
            · have h5 := bF h5
              have e1 := scan1_old h2 h3 h5
              refine cx_skip ?_
              refine cx_keep rfl rfl ?_
              refine cx_ops ?_
              refine ax_q (q_mov rfl) ?_
              refine ax_qe (r' := int ((k + 1 : Nat) : Int)) (q_ibin rfl rfl rfl) (by rw [wi (by omega) (by omega)]; rfl) ?_
              refine ax_q (q_mov rfl) ?_
              refine ax_nil ?_
              obtain ⟨r2, h8⟩ : ∃ r2, r2 = r2 := ⟨r', rfl⟩
              exact ⟨_, (k + 1, _), by simp only; omega, ⟨by simp only; omega, rfl, (hr'.step h1x e1).1, (by obtain ⟨m2, h7⟩ := (hr'.step h1x e1).2; exact ⟨m ++ m2, h7.trans (by rw [hm, List.append_assoc])⟩), by simp only [scanW_succ h1x, hs]; exact e1⟩, by repeat (first | exact trivial | refine ⟨rfl, ?_⟩ | refine ⟨?_, ?_⟩)⟩
    · have h1 := dF h1
      have h1x : k = l.Waits.length := by omega
      subst h1x
      rw [List.take_length] at hs
      have hrl2 : r.length ≤ r'.length := by rw [hm]; simp
      refine cx_exit rfl ?_
      refine cx_keep rfl rfl ?_
      refine cx_ops ?_
      refine ax_q (q_mov rfl) ?_
      refine ax_q (q_add rfl rfl (by omega)) ?_
      refine ax_q (q_mov rfl) ?_
      refine ax_nil ?_
      have h9 := roundF_step (f := l.Waits.length + 2 - (i + 1)) h0x hs
      rw [show l.Waits.length + 2 - (i + 1) + 1 = l.Waits.length + 2 - i from by omega, hd] at h9
      exact ⟨_, (i + 1, r'), by simp only; omega, ⟨rfl, hr', by simp only; omega, h9.symm⟩, by repeat (first | exact trivial | refine ⟨rfl, ?_⟩ | refine ⟨?_, ?_⟩)⟩
  · have h0 := dF h0
    refine cx_exit rfl ?_
    refine cx_keep rfl rfl ?_
    refine cx_seq ?_
    refine cx_ops ?_
    refine ax_q (q_mov rfl) ?_
    refine ax_nil ?_
    refine cx_keep rfl rfl ?_
    refine cx_ret (ret0 rfl rfl ?_)
    exact ⟨by rw [← hd, roundF_end (by omega)]; rfl, rfl⟩


/- loop.example/g00332/spec.l06Take -/
def k_c_l06Take : XCode :=
  .seq (.ops [.op (some 5) (.box (.t 0)),
     .op (some 10) (.alloc [.nils 4, .nils 2]),
     .op (some 11) (.mov (.k (.int .i64 0)))])
  (.keep [1, 2, 3, 4, 5, 10] (.seq (.ops [.op (some 20) (.loadN 2 (.t 5)),
     .call (some 21) 64 [.t 20],
     .op (some 22) (.mov (.t 1)),
     .call (some 23) 79 [.t 21, .t 22],
     .op (some 12) (.alloc [.nils 4, .nils 2]),
     .op none (.store 2 (.t 12) (.t 23))])
  (.keep [1, 2, 3, 4, 10, 12] (.seq (.seq (.ops [.op (some 24) (.loadN 2 (.t 12)),
      .op (some 25) (.mov (.t 1)),
      .op (some 26) (.mov (.t 2)),
      .op (some 27) (.mov (.t 3)),
      .op (some 28) (.mov (.t 4)),
      .call (some 29) 80 [.t 24, .t 25, .t 26, .t 27, .t 28]])
   (.keep [1, 2, 3, 4, 10, 12, 29] (.cond (.t 29)
    (.seq (.ops [.op (some 30) (.loadN 2 (.t 12)),
        .op none (.store 2 (.t 10) (.t 30)),
        .op (some 11) (.mov (.k (.int .i64 0)))])
     (.keep [10, 11] (.ret)))
    (.skip))))
  (.keep [1, 2, 3, 4, 10, 12] (.seq (.ops [.op (some 31) (.bslice 2 []),
     .op (some 13) (.mov (.t 31))])
  (.keep [1, 2, 3, 4, 10, 12, 13] (.seq (.seq (.ops [.op (some 14) (.mov (.k (.int .i64 0)))])
   (.keep [1, 2, 3, 4, 10, 12, 13, 14] (.block 0 (.loop (.seq (.seq (.ops [.op (some 32) (.mov (.t 14)),
         .op (some 33) (.fadr (.t 12) 0),
         .op (some 34) (.load1 (.t 33)),
         .op (some 35) (.lenS (.t 34)),
         .op (some 36) (.bin .lss (.t 32) (.t 35))])
      (.keep [1, 2, 3, 4, 10, 12, 13, 14, 36] (.cond (.t 36)
       (.skip)
       (.exit 0))))
     (.keep [1, 2, 3, 4, 10, 12, 13, 14] (.seq (.block 1 (.seq (.ops [.op (some 39) (.fadr (.t 12) 0),
          .op (some 40) (.load1 (.t 39)),
          .op (some 41) (.mov (.t 14)),
          .op (some 42) (.iadr 4 (.t 40) (.t 41)),
          .op (some 43) (.loadN 4 (.t 42)),
          .op (some 15) (.alloc [.int .i64 0, .int .i64 0, .int .i64 0, .int .i64 0]),
          .op none (.store 4 (.t 15) (.t 43))])
       (.keep [1, 2, 3, 4, 10, 12, 13, 14, 15] (.seq (.ops [.op (some 44) (.fadr (.t 15) 0),
          .op (some 45) (.load1 (.t 44)),
          .op (some 46) (.mov (.t 1)),
          .op (some 47) (.bin .neq (.t 45) (.t 46)),
          .op (some 48) (.mov (.t 47)),
          .andor 53 true 4 48 [.op (some 49) (.fadr (.t 15) 1), .op (some 50) (.load1 (.t 49)), .op (some 51) (.mov (.t 2)), .op (some 52) (.bin .eql (.t 50) (.t 51))] (.t 52),
          .op (some 54) (.mov (.t 53)),
          .andor 59 true 10 54 [.op (some 55) (.fadr (.t 15) 2), .op (some 56) (.load1 (.t 55)), .op (some 57) (.mov (.t 3)), .op (some 58) (.bin .eql (.t 56) (.t 57))] (.t 58),
          .op (some 60) (.mov (.t 59)),
          .andor 66 true 16 60 [.op (some 61) (.fadr (.t 15) 3), .op (some 62) (.load1 (.t 61)), .op (some 63) (.mov (.t 4)), .call (some 64) 70 [.t 62, .t 63], .op (some 65) (.not (.t 64))] (.t 65)])
       (.keep [1, 2, 3, 4, 10, 12, 13, 14, 15, 66] (.cond (.t 66)
        (.seq (.ops [.op (some 67) (.mov (.t 1)),
            .op (some 68) (.fadr (.t 15) 0),
            .op (some 69) (.load1 (.t 68)),
            .op (some 70) (.build [.int .i64 0, .int .i64 0] [(0, 1, .t 67), (1, 1, .t 69)]),
            .op (some 16) (.alloc [.int .i64 0, .int .i64 0]),
            .op none (.store 2 (.t 16) (.t 70))])
         (.keep [1, 2, 3, 4, 10, 12, 13, 14, 16] (.seq (.ops [.op (some 17) (.mov (.k (.bool false)))])
         (.keep [1, 2, 3, 4, 10, 12, 13, 14, 16, 17] (.seq (.seq (.ops [.op (some 18) (.mov (.k (.int .i64 0)))])
          (.keep [1, 2, 3, 4, 10, 12, 13, 14, 16, 17, 18] (.block 2 (.loop (.seq (.seq (.ops [.op (some 71) (.mov (.t 18)),
                .op (some 72) (.mov (.t 13)),
                .op (some 73) (.lenS (.t 72)),
                .op (some 74) (.bin .lss (.t 71) (.t 73))])
             (.keep [1, 2, 3, 4, 10, 12, 13, 14, 16, 17, 18, 74] (.cond (.t 74)
              (.skip)
              (.exit 2))))
            (.keep [1, 2, 3, 4, 10, 12, 13, 14, 16, 17, 18] (.seq (.block 3 (.draw [.op (some 77) (.mov (.t 17)),
                .op (some 78) (.mov (.t 77)),
                .andor 85 false 1 78 [.op (some 79) (.mov (.t 13)), .op (some 80) (.mov (.t 18)), .op (some 81) (.iadr 2 (.t 79) (.t 80)), .op (some 82) (.loadN 2 (.t 81)), .op (some 83) (.loadN 2 (.t 16)), .op (some 84) (.eqs false [0, 0] (.t 82) (.t 83))] (.t 84),
                .op (some 17) (.mov (.t 85))]))
            (.keep [1, 2, 3, 4, 10, 12, 13, 14, 16, 17, 18] (.ops [.op (some 75) (.mov (.t 18)),
              .op (some 76) (.bin .add (.t 75) (.k (.int .i64 1))),
              .op (some 18) (.mov (.t 76))])))))))))
         (.keep [1, 2, 3, 4, 10, 12, 13, 14, 16, 17] (.seq (.ops [.op (some 86) (.mov (.t 17)),
            .op (some 87) (.not (.t 86))])
         (.keep [1, 2, 3, 4, 10, 12, 13, 14, 16, 87] (.cond (.t 87)
          (.ops [.op (some 88) (.mov (.t 13)),
             .op (some 89) (.loadN 2 (.t 16)),
             .op (some 90) (.bslice 2 [.t 89]),
             .op (some 91) (.app 2 16 [.int .i64 0, .int .i64 0] (.t 88) (.t 90)),
             .op (some 13) (.mov (.t 91))])
          (.skip))))))))))
        (.skip)))))))
     (.keep [1, 2, 3, 4, 10, 12, 13, 14] (.ops [.op (some 37) (.mov (.t 14)),
       .op (some 38) (.bin .add (.t 37) (.k (.int .i64 1))),
       .op (some 14) (.mov (.t 38))])))))))))
  (.keep [1, 2, 3, 4, 10, 12, 13] (.seq (.seq (.ops [.op (some 92) (.mov (.t 13)),
      .op (some 93) (.lenS (.t 92)),
      .op (some 94) (.bin .eql (.t 93) (.k (.int .i64 0)))])
   (.keep [1, 2, 3, 4, 10, 12, 13, 94] (.cond (.t 94)
    (.seq (.seq (.ops [.op (some 95) (.fadr (.t 12) 0),
         .op (some 96) (.load1 (.t 95)),
         .op (some 97) (.lenS (.t 96)),
         .op (some 98) (.bin .eql (.t 97) (.k (.int .i64 60)))])
      (.keep [1, 2, 3, 4, 10, 12, 98] (.cond (.t 98)
       (.seq (.ops [.op (some 99) (.loadN 2 (.t 12)),
           .op none (.store 2 (.t 10) (.t 99)),
           .op (some 11) (.mov (.k (.int .i64 7)))])
        (.keep [10, 11] (.ret)))
       (.skip))))
     (.keep [1, 2, 3, 4, 10, 12] (.seq (.ops [.op (some 100) (.fadr (.t 12) 0),
        .op (some 101) (.load1 (.t 100)),
        .op (some 102) (.mov (.t 1)),
        .op (some 103) (.mov (.t 2)),
        .op (some 104) (.mov (.t 3)),
        .op (some 105) (.mov (.t 4)),
        .op (some 106) (.build [.int .i64 0, .int .i64 0, .int .i64 0, .int .i64 0] [(0, 1, .t 102), (1, 1, .t 103), (2, 1, .t 104), (3, 1, .t 105)]),
        .op (some 107) (.bslice 4 [.t 106]),
        .op (some 108) (.app 4 32 [.int .i64 0, .int .i64 0, .int .i64 0, .int .i64 0] (.t 101) (.t 107)),
        .op (some 109) (.fadr (.t 12) 0),
        .op none (.store 1 (.t 109) (.t 108))])
     (.keep [10, 12] (.seq (.ops [.op (some 110) (.loadN 2 (.t 12)),
        .op none (.store 2 (.t 10) (.t 110)),
        .op (some 11) (.mov (.k (.int .i64 0)))])
     (.keep [10, 11] (.ret)))))))
    (.skip))))
  (.keep [1, 10, 12, 13] (.seq (.seq (.ops [.op (some 111) (.fadr (.t 12) 1),
      .op (some 112) (.load1 (.t 111)),
      .op (some 113) (.lenS (.t 112)),
      .op (some 114) (.mov (.t 13)),
      .op (some 115) (.lenS (.t 114)),
      .op (some 116) (.bin .add (.t 113) (.t 115)),
      .op (some 117) (.bin .gtr (.t 116) (.k (.int .i64 100)))])
   (.keep [1, 10, 12, 13, 117] (.cond (.t 117)
    (.seq (.ops [.op (some 118) (.loadN 2 (.t 12)),
        .op none (.store 2 (.t 10) (.t 118)),
        .op (some 11) (.mov (.k (.int .i64 7)))])
     (.keep [10, 11] (.ret)))
    (.skip))))
  (.keep [1, 10, 12, 13] (.seq (.ops [.op (some 119) (.loadN 2 (.t 12)),
     .call (some 120) 64 [.t 119],
     .op (some 19) (.alloc [.nils 4, .nils 2]),
     .op none (.store 2 (.t 19) (.t 120))])
  (.keep [1, 10, 12, 13, 19] (.seq (.ops [.op (some 121) (.fadr (.t 19) 1),
     .op (some 122) (.load1 (.t 121)),
     .op (some 123) (.mov (.t 13)),
     .op (some 124) (.app 2 16 [.int .i64 0, .int .i64 0] (.t 122) (.t 123)),
     .op (some 125) (.fadr (.t 19) 1),
     .op none (.store 1 (.t 125) (.t 124))])
  (.keep [1, 10, 12, 19] (.seq (.seq (.ops [.op (some 126) (.loadN 2 (.t 19)),
      .op (some 127) (.mov (.t 1)),
      .call (some 128) 81 [.t 126, .t 127]])
   (.keep [10, 12, 19, 128] (.cond (.t 128)
    (.seq (.ops [.op (some 129) (.loadN 2 (.t 12)),
        .op none (.store 2 (.t 10) (.t 129)),
        .op (some 11) (.mov (.k (.int .i64 14)))])
     (.keep [10, 11] (.ret)))
    (.skip))))
  (.keep [10, 19] (.seq (.ops [.op (some 130) (.loadN 2 (.t 19)),
     .op none (.store 2 (.t 10) (.t 130)),
     .op (some 11) (.mov (.k (.int .i64 13)))])
  (.keep [10, 11] (.ret))))))))))))))))))))))
theorem k_c_l06Take_fits : fitsF Try.prog 51 ⟨131, k_c_l06Take, [.cN 10 2, .t 11]⟩ = true := by kernel_rfl
theorem c_l06Take {l : GLocks} {x : GLock} (hw0 : l.Held.length ≤ 1048576) (hw1 : l.Waits.length ≤ 1048576) : Con Try.prog noMv 51 [l.av, int x.Tx, int x.Table, int x.Row, int x.Mode] [] (fun r h => r = .tup [(takeL l x).1.avO 0 1, int (takeL l x).2] ∧ h = (takeL l x).1.hO 0 1) := by
  refine con_of2 k_c_l06Take_fits rfl fun C hP hmv => ?_
  unfold k_c_l06Take
  have hcw := calm_len l x.Tx
  refine cx_seq ?_
  refine cx_ops ?_
  refine ax_e (e_box rfl rfl (by decide) rfl rfl rfl) ?_
  refine ax_e (e_alloc (by decide) rfl rfl) ?_
  refine ax_q (q_mov rfl) ?_
  refine ax_nil ?_
  refine cx_keep rfl rfl ?_
  refine cx_seq ?_
  refine cx_ops ?_
  first | refine ax_q (q_ldN rfl rfl rfl) ?_ | refine ax_q (q_loadN_ip rfl (Nat.le_refl _)) ?_ | refine ax_q (q_loadN_ip rfl (by decide)) ?_ | refine ax_q (q_loadN_rptr rfl rfl (by assumption) (by decide)) ?_ | refine ax_q (q_loadN_rptr rfl rfl (mapAt (by first | assumption | omega)) (by decide)) ?_
  first | refine ax_call rfl (vc_pure (c_l06Own  ?_ ?_) hP rfl ?_) | refine ax_call rfl (vc_lend (c_l06Own  ?_ ?_) hP (by repeat (first | exact lal_id _ rfl | exact LAL.nil | refine LAL.cons ?_ ?_ | exact la_id _ rfl | exact LA.lend (lend_whole rfl (by first | (simp; done) | (rw [List.length_map]; rfl))) | refine LA.agg ?_ | refine LA.fn ?_ | refine LA.lend ?_ | exact Lend.d _ | exact Lend.zs _ | exact lend_whole rfl (by first | (simp; done) | (rw [List.length_map]; rfl)) | refine Lend.ptr rfl ?_ | refine Lend.fn ?_ | exact LendL.nil | refine LendL.cons ?_ ?_)) ?_)
  · first | assumption | omega | (simp; done) | (simp; omega)
  · first | assumption | omega | (simp; done) | (simp; omega)
  rintro r h ⟨rfl, rfl⟩
  refine ⟨fun i => 21 + 200 * i, [0, 1], ⟨rfl, rfl, rfl, rfl, rfl, (by first | exact (fun h => absurd h Bool.false_ne_true) | exact (fun _ => ⟨rfl, (noisl_of (by repeat (first | exact trivial | refine ⟨noisl_map (fun _ => rfl), ?_⟩ | refine ⟨?_, ?_⟩)))⟩))⟩, ?_⟩
  skip
  refine ax_q (q_mov rfl) ?_
  refine ax_call rfl (vcall_own (c_l06Calm (l := l) (tx := x.Tx) hw0 hw1) hP hmv false (fun e => bif Nat.beq e 1000 then 21 else 221) [1000, 1001] ⟨rfl, rfl, rfl, rfl, ⟨rfl, rfl, trivial⟩, rfl, rfl, rfl⟩ (.pass rfl rfl (.pass rfl rfl .nil)) ?_)
  rintro r h ⟨rfl, rfl⟩
  refine ⟨fun e => bif Nat.beq e 1000 then 21 else bif Nat.beq e 1001 then 221 else 23, [0], ⟨rfl, rfl, rfl, rfl, (mem2 rfl rfl), rfl, rfl, fun h => absurd h Bool.false_ne_true⟩, ?_⟩
  refine ax_e (e_alloc (by decide) rfl rfl) ?_
  refine ax_e (e_st rfl rfl rfl rfl rfl rfl rfl) ?_
  refine ax_nil ?_
  refine cx_keep rfl rfl ?_
  refine cx_seq ?_
  refine cx_seq ?_
  refine cx_ops ?_
  first | refine ax_q (q_ldN rfl rfl rfl) ?_ | refine ax_q (q_loadN_ip rfl (Nat.le_refl _)) ?_ | refine ax_q (q_loadN_ip rfl (by decide)) ?_ | refine ax_q (q_loadN_rptr rfl rfl (by assumption) (by decide)) ?_ | refine ax_q (q_loadN_rptr rfl rfl (mapAt (by first | assumption | omega)) (by decide)) ?_
  refine ax_q (q_mov rfl) ?_
  refine ax_q (q_mov rfl) ?_
  refine ax_q (q_mov rfl) ?_
  refine ax_q (q_mov rfl) ?_
  first | refine ax_call rfl (vc_pure0 (c_l06Holds (l := (calm l x.Tx)) (x := x) ?_ ?_) hP rfl rfl ?_) | refine ax_call rfl (vc_lend0 (c_l06Holds (l := (calm l x.Tx)) (x := x) ?_ ?_) hP (by repeat (first | exact lal_id _ rfl | exact LAL.nil | refine LAL.cons ?_ ?_ | exact la_id _ rfl | exact LA.lend (lend_whole rfl (by first | (simp; done) | (rw [List.length_map]; rfl))) | refine LA.agg ?_ | refine LA.fn ?_ | refine LA.lend ?_ | exact Lend.d _ | exact Lend.zs _ | exact lend_whole rfl (by first | (simp; done) | (rw [List.length_map]; rfl)) | refine Lend.ptr rfl ?_ | refine Lend.fn ?_ | exact LendL.nil | refine LendL.cons ?_ ?_)) rfl rfl ?_)
  · first | assumption | omega | (simp; done) | (simp; omega)
  · first | assumption | omega | (simp; done) | (simp; omega)
  refine ax_nil ?_
  refine cx_keep rfl rfl ?_
  refine cx_cond rfl (fun h0 => ?_) (fun h0 => ?_)
  · skip
    refine cx_seq ?_
    refine cx_ops ?_
    first | refine ax_q (q_ldN rfl rfl rfl) ?_ | refine ax_q (q_loadN_ip rfl (Nat.le_refl _)) ?_ | refine ax_q (q_loadN_ip rfl (by decide)) ?_ | refine ax_q (q_loadN_rptr rfl rfl (by assumption) (by decide)) ?_ | refine ax_q (q_loadN_rptr rfl rfl (mapAt (by first | assumption | omega)) (by decide)) ?_
    refine ax_e (e_st rfl rfl rfl rfl rfl rfl rfl) ?_
    refine ax_q (q_mov rfl) ?_
    refine ax_nil ?_
    refine cx_keep rfl rfl ?_
    refine cx_ret (retN (fun e => bif Nat.beq e 23 then 1 else 0) [21, 23] rfl rfl rfl rfl rfl ?_)
    rw [takeL_1 h0]; exact ⟨rfl, rfl⟩
  · skip
    have h0 : ¬ holdsL (calm l x.Tx) x = true := by rw [h0]; simp
    refine cx_skip ?_
    refine cx_keep rfl rfl ?_
    refine cx_seq ?_
    refine cx_ops ?_
    refine ax_e (e_bslice rfl (by decide) rfl rfl) ?_
    refine ax_q (q_mov rfl) ?_
    refine ax_nil ?_
    refine cx_keep rfl rfl ?_
    refine cx_seq ?_
    refine cx_seq ?_
    refine cx_ops ?_
    refine ax_q (q_mov rfl) ?_
    refine ax_nil ?_
    refine cx_keep rfl rfl ?_
    refine cx_block ?_
    refine cx_loopU (fun n k => k ≤ l.Held.length ∧ n = l.Held.length - k) (fun k : Nat => [(13, .osl 31 2 0 (clashW (calm l x.Tx) x k).length), (14, int k)]) (fun k => [(10, .box [.zs 4, .zs 2]), (12, .box [.osl 21 4 0 l.Held.length, .osl 23 2 0 (calm l x.Tx).Waits.length]), (21, .rows 4 (l.Held.map GLock.row)), (23, .rows 2 ((calm l x.Tx).Waits.map GWait.row)), (31, .rows 2 ((clashW (calm l x.Tx) x k).map GWait.row))]) ⟨_, 0, ⟨Nat.zero_le _, rfl⟩, by repeat (first | exact trivial | refine ⟨rfl, ?_⟩ | refine ⟨?_, ?_⟩)⟩ ?_
    rintro n k ⟨hk, rfl⟩
    have hcl := clashW_len (l := (calm l x.Tx)) (x := x) (k := k) hk
    refine cx_seq ?_
    refine cx_seq ?_
    refine cx_ops ?_
    refine ax_q (q_mov rfl) ?_
    first | refine ax_q (q_fadr_ptr rfl) ?_ | refine ax_q (q_fadr_rptr rfl) ?_ | refine ax_q (q_fadr_ip rfl) ?_
    first | refine ax_q (q_load1_ptr rfl rfl rfl) ?_ | refine ax_q (q_load1_ip rfl) ?_ | refine ax_q (q_load1_rptr rfl rfl (by assumption) rfl) ?_ | refine ax_q (q_load1_rptr rfl rfl (mapAt (by first | assumption | omega)) rfl) ?_
    first | refine ax_q (q_lenS_map rfl) ?_ | refine ax_q (q_lenS_osl rfl) ?_ | refine ax_q (q_lenS_zs rfl) ?_ | refine ax_q (q_lenS rfl) ?_
    refine ax_q (q_ibin rfl rfl rfl) ?_
    refine ax_nil ?_
    refine cx_keep rfl rfl ?_
    refine cx_cond rfl (fun h1 => ?_) (fun h1 => ?_)
    · have h1 := dT h1
      have h1x : k < l.Held.length := by omega
      have hsc : (clashW (calm l x.Tx) x (k + 1)) = addW x (clashW (calm l x.Tx) x k) l.Held[k] := clashW_succ (l := (calm l x.Tx)) (x := x) (k := k) h1x
      refine cx_skip ?_
      refine cx_keep rfl rfl ?_
      refine cx_seq ?_
      refine cx_block ?_
      refine cx_seq ?_
      refine cx_ops ?_
      first | refine ax_q (q_fadr_ptr rfl) ?_ | refine ax_q (q_fadr_rptr rfl) ?_ | refine ax_q (q_fadr_ip rfl) ?_
      first | refine ax_q (q_load1_ptr rfl rfl rfl) ?_ | refine ax_q (q_load1_ip rfl) ?_ | refine ax_q (q_load1_rptr rfl rfl (by assumption) rfl) ?_ | refine ax_q (q_load1_rptr rfl rfl (mapAt (by first | assumption | omega)) rfl) ?_
      refine ax_q (q_mov rfl) ?_
      refine ax_q (q_ixo rfl rfl h1x) ?_
      first | refine ax_q (q_ldN rfl rfl rfl) ?_ | refine ax_q (q_loadN_ip rfl (Nat.le_refl _)) ?_ | refine ax_q (q_loadN_ip rfl (by decide)) ?_ | refine ax_q (q_loadN_rptr rfl rfl (by assumption) (by decide)) ?_ | refine ax_q (q_loadN_rptr rfl rfl (mapAt (by first | assumption | omega)) (by decide)) ?_
      refine ax_e (e_alloc (by decide) rfl rfl) ?_
      refine ax_e (e_st rfl rfl rfl rfl rfl rfl rfl) ?_
      refine ax_nil ?_
      refine cx_keep rfl rfl ?_
      refine cx_seq ?_
      refine cx_ops ?_
      first | refine ax_q (q_fadr_ptr rfl) ?_ | refine ax_q (q_fadr_rptr rfl) ?_ | refine ax_q (q_fadr_ip rfl) ?_
      first | refine ax_q (q_load1_ptr rfl rfl rfl) ?_ | refine ax_q (q_load1_ip rfl) ?_ | refine ax_q (q_load1_rptr rfl rfl (by assumption) rfl) ?_ | refine ax_q (q_load1_rptr rfl rfl (mapAt (by first | assumption | omega)) rfl) ?_
      refine ax_q (q_mov rfl) ?_
      refine ax_q (q_ibin rfl rfl rfl) ?_
      refine ax_q (q_mov rfl) ?_
      apply ax_and rfl rfl
      · intro g
        have g := nT g
        first | refine ax_q (q_fadr_ptr rfl) ?_ | refine ax_q (q_fadr_rptr rfl) ?_ | refine ax_q (q_fadr_ip rfl) ?_
        first | refine ax_q (q_load1_ptr rfl rfl rfl) ?_ | refine ax_q (q_load1_ip rfl) ?_ | refine ax_q (q_load1_rptr rfl rfl (by assumption) rfl) ?_ | refine ax_q (q_load1_rptr rfl rfl (mapAt (by first | assumption | omega)) rfl) ?_
        refine ax_q (q_mov rfl) ?_
        refine ax_q (q_ibin rfl rfl rfl) ?_
        exact ax_nil ⟨rfl, by repeat (first | exact trivial | refine ⟨rfl, ?_⟩ | refine ⟨?_, ?_⟩)⟩
      refine ax_q (q_mov rfl) ?_
      apply ax_and rfl rfl
      · intro g
        have g := (fun h => And.intro (nT (and_T h).1) (dT (and_T h).2)) g
        first | refine ax_q (q_fadr_ptr rfl) ?_ | refine ax_q (q_fadr_rptr rfl) ?_ | refine ax_q (q_fadr_ip rfl) ?_
        first | refine ax_q (q_load1_ptr rfl rfl rfl) ?_ | refine ax_q (q_load1_ip rfl) ?_ | refine ax_q (q_load1_rptr rfl rfl (by assumption) rfl) ?_ | refine ax_q (q_load1_rptr rfl rfl (mapAt (by first | assumption | omega)) rfl) ?_
        refine ax_q (q_mov rfl) ?_
        refine ax_q (q_ibin rfl rfl rfl) ?_
        exact ax_nil ⟨rfl, by repeat (first | exact trivial | refine ⟨rfl, ?_⟩ | refine ⟨?_, ?_⟩)⟩
      refine ax_q (q_mov rfl) ?_
      apply ax_and rfl rfl
      · intro g
        have g := (fun h => And.intro ((fun h => And.intro (nT (and_T h).1) (dT (and_T h).2)) (and_T h).1) (dT (and_T h).2)) g
        first | refine ax_q (q_fadr_ptr rfl) ?_ | refine ax_q (q_fadr_rptr rfl) ?_ | refine ax_q (q_fadr_ip rfl) ?_
        first | refine ax_q (q_load1_ptr rfl rfl rfl) ?_ | refine ax_q (q_load1_ip rfl) ?_ | refine ax_q (q_load1_rptr rfl rfl (by assumption) rfl) ?_ | refine ax_q (q_load1_rptr rfl rfl (mapAt (by first | assumption | omega)) rfl) ?_
        refine ax_q (q_mov rfl) ?_
        first | refine ax_call rfl (vc_pure0 (c_l06Fit  ) hP rfl rfl ?_) | refine ax_call rfl (vc_lend0 (c_l06Fit  ) hP (by repeat (first | exact lal_id _ rfl | exact LAL.nil | refine LAL.cons ?_ ?_ | exact la_id _ rfl | exact LA.lend (lend_whole rfl (by first | (simp; done) | (rw [List.length_map]; rfl))) | refine LA.agg ?_ | refine LA.fn ?_ | refine LA.lend ?_ | exact Lend.d _ | exact Lend.zs _ | exact lend_whole rfl (by first | (simp; done) | (rw [List.length_map]; rfl)) | refine Lend.ptr rfl ?_ | refine Lend.fn ?_ | exact LendL.nil | refine LendL.cons ?_ ?_)) rfl rfl ?_)
        refine ax_q (q_not rfl) ?_
        exact ax_nil ⟨rfl, by repeat (first | exact trivial | refine ⟨rfl, ?_⟩ | refine ⟨?_, ?_⟩)⟩
      refine ax_nil ?_
      refine cx_keep rfl rfl ?_
      refine cx_cond rfl (fun h2 => ?_) (fun h2 => ?_)
      · have h2 : clashes l.Held[k] x = true := by rw [← clash_eq]; exact h2
        refine cx_seq ?_
        refine cx_ops ?_
        refine ax_q (q_mov rfl) ?_
        first | refine ax_q (q_fadr_ptr rfl) ?_ | refine ax_q (q_fadr_rptr rfl) ?_ | refine ax_q (q_fadr_ip rfl) ?_
        first | refine ax_q (q_load1_ptr rfl rfl rfl) ?_ | refine ax_q (q_load1_ip rfl) ?_ | refine ax_q (q_load1_rptr rfl rfl (by assumption) rfl) ?_ | refine ax_q (q_load1_rptr rfl rfl (mapAt (by first | assumption | omega)) rfl) ?_
        refine ax_q (q_build rfl) ?_
        refine ax_e (e_alloc (by decide) rfl rfl) ?_
        refine ax_e (e_st rfl rfl rfl rfl rfl rfl rfl) ?_
        refine ax_nil ?_
        refine cx_keep rfl rfl ?_
        refine cx_seq ?_
        refine cx_ops ?_
        refine ax_q (q_mov rfl) ?_
        refine ax_nil ?_
        refine cx_keep rfl rfl ?_
        refine cx_seq ?_
        refine cx_seq ?_
        refine cx_ops ?_
        refine ax_q (q_mov rfl) ?_
        refine ax_nil ?_
        refine cx_keep rfl rfl ?_
        refine cx_block ?_
        refine cx_loopU (fun n j => j ≤ (clashW (calm l x.Tx) x k).length ∧ n = (clashW (calm l x.Tx) x k).length - j) (fun j : Nat => [(17, bool (((clashW (calm l x.Tx) x k).take j).any (fun s => eqb (⟨x.Tx, l.Held[k].Tx⟩ : GWait) s))), (18, int j)]) (fun _ => [(10, .box [.zs 4, .zs 2]), (12, .box [.osl 21 4 0 l.Held.length, .osl 23 2 0 (calm l x.Tx).Waits.length]), (21, .rows 4 (l.Held.map GLock.row)), (23, .rows 2 ((calm l x.Tx).Waits.map GWait.row)), (31, .rows 2 ((clashW (calm l x.Tx) x k).map GWait.row)), (16, .box [.d (.int .i64 x.Tx), .d (.int .i64 l.Held[k].Tx)])]) ⟨_, 0, ⟨Nat.zero_le _, rfl⟩, by repeat (first | exact trivial | refine ⟨rfl, ?_⟩ | refine ⟨?_, ?_⟩)⟩ ?_
        rintro n j ⟨hj, rfl⟩
        refine cx_seq ?_
        refine cx_seq ?_
        refine cx_ops ?_
        refine ax_q (q_mov rfl) ?_
        refine ax_q (q_mov rfl) ?_
        first | refine ax_q (q_lenS_map rfl) ?_ | refine ax_q (q_lenS_osl rfl) ?_ | refine ax_q (q_lenS_zs rfl) ?_ | refine ax_q (q_lenS rfl) ?_
        refine ax_q (q_ibin rfl rfl rfl) ?_
        refine ax_nil ?_
        refine cx_keep rfl rfl ?_
        refine cx_cond rfl (fun h3 => ?_) (fun h3 => ?_)
        · have h3 := dT h3
          have h3x : j < (clashW (calm l x.Tx) x k).length := by omega
          refine cx_skip ?_
          refine cx_keep rfl rfl ?_
          refine cx_seq ?_
          refine cx_block ?_
          refine cx_draw ?_
          refine ax_q (q_mov rfl) ?_
          refine ax_q (q_mov rfl) ?_
          apply ax_or rfl rfl
          · intro g
            refine ax_q (q_mov rfl) ?_
            refine ax_q (q_mov rfl) ?_
            refine ax_q (q_ixo rfl rfl h3x) ?_
            first | refine ax_q (q_ldN rfl rfl rfl) ?_ | refine ax_q (q_loadN_ip rfl (Nat.le_refl _)) ?_ | refine ax_q (q_loadN_ip rfl (by decide)) ?_ | refine ax_q (q_loadN_rptr rfl rfl (by assumption) (by decide)) ?_ | refine ax_q (q_loadN_rptr rfl rfl (mapAt (by first | assumption | omega)) (by decide)) ?_
            first | refine ax_q (q_ldN rfl rfl rfl) ?_ | refine ax_q (q_loadN_ip rfl (Nat.le_refl _)) ?_ | refine ax_q (q_loadN_ip rfl (by decide)) ?_ | refine ax_q (q_loadN_rptr rfl rfl (by assumption) (by decide)) ?_ | refine ax_q (q_loadN_rptr rfl rfl (mapAt (by first | assumption | omega)) (by decide)) ?_
            refine ax_q (GWait.q_eqs (a := (clashW (calm l x.Tx) x k)[j]) (b := (⟨x.Tx, l.Held[k].Tx⟩ : GWait)) rfl rfl) ?_
            exact ax_nil ⟨rfl, by repeat (first | exact trivial | refine ⟨rfl, ?_⟩ | refine ⟨?_, ?_⟩)⟩
          rw [show (((clashW (calm l x.Tx) x k).take j).any (fun s => eqb (⟨x.Tx, l.Held[k].Tx⟩ : GWait) s) || (bif false then !eqb (clashW (calm l x.Tx) x k)[j] (⟨x.Tx, l.Held[k].Tx⟩ : GWait) else eqb (clashW (calm l x.Tx) x k)[j] (⟨x.Tx, l.Held[k].Tx⟩ : GWait))) = ((clashW (calm l x.Tx) x k).take (j + 1)).any (fun s => eqb (⟨x.Tx, l.Held[k].Tx⟩ : GWait) s) from by rw [any_take_succ h3x, eqb_comm]; rfl]
          refine ax_q (q_mov rfl) ?_
          refine ax_nil ?_
          refine cx_keep rfl rfl ?_
          refine cx_ops ?_
          refine ax_q (q_mov rfl) ?_
          refine ax_qe (r' := int ((j + 1 : Nat) : Int)) (q_ibin rfl rfl rfl) (by rw [wi (by omega) (by omega)]; rfl) ?_
          refine ax_q (q_mov rfl) ?_
          refine ax_nil ?_
          exact ⟨_, j + 1, by omega, ⟨by omega, rfl⟩, by repeat (first | exact trivial | refine ⟨rfl, ?_⟩ | refine ⟨?_, ?_⟩)⟩
        · have h3 := dF h3
          have h3x : j = (clashW (calm l x.Tx) x k).length := by omega
          subst h3x
          rw [any_full]
          refine cx_exit rfl ?_
          refine cx_keep rfl rfl ?_
          refine cx_seq ?_
          refine cx_ops ?_
          refine ax_q (q_mov rfl) ?_
          refine ax_q (q_not rfl) ?_
          refine ax_nil ?_
          refine cx_keep rfl rfl ?_
          refine cx_cond rfl (fun h4 => ?_) (fun h4 => ?_)
          · have h4 := bT h4
            rw [addW_new h2 h4] at hsc
            refine cx_ops ?_
            refine ax_q (q_mov rfl) ?_
            first | refine ax_q (q_ldN rfl rfl rfl) ?_ | refine ax_q (q_loadN_ip rfl (Nat.le_refl _)) ?_ | refine ax_q (q_loadN_ip rfl (by decide)) ?_ | refine ax_q (q_loadN_rptr rfl rfl (by assumption) (by decide)) ?_ | refine ax_q (q_loadN_rptr rfl rfl (mapAt (by first | assumption | omega)) (by decide)) ?_
            refine ax_e (e_bslice rfl (by decide) rfl rfl) ?_
            refine ax_e (e_appn (n' := (clashW (calm l x.Tx) x (k + 1)).length) (rs' := (clashW (calm l x.Tx) x (k + 1)).map GWait.row) rfl rfl (by simp) rfl (src_osl rfl (by simp)) (.inl (by decide)) (hbnd (by omega) (by simp) (by decide)) (by rw [hsc]; simp) (by rw [hsc]; exact app1 rfl)) ?_
            refine ax_q (q_mov rfl) ?_
            refine ax_nil ?_
            refine cx_keep rfl rfl ?_
            refine cx_ops ?_
            refine ax_q (q_mov rfl) ?_
            refine ax_qe (r' := int ((k + 1 : Nat) : Int)) (q_ibin rfl rfl rfl) (by rw [wi (by omega) (by omega)]; rfl) ?_
            refine ax_q (q_mov rfl) ?_
            refine ax_nil ?_
            exact ⟨_, k + 1, by omega, ⟨by omega, rfl⟩, by repeat (first | exact trivial | refine ⟨rfl, ?_⟩ | refine ⟨?_, ?_⟩)⟩
          · have h4 := bF h4
            rw [addW_old h4] at hsc
            rw [← hsc]
            refine cx_skip ?_
            refine cx_keep rfl rfl ?_
            refine cx_ops ?_
            refine ax_q (q_mov rfl) ?_
            refine ax_qe (r' := int ((k + 1 : Nat) : Int)) (q_ibin rfl rfl rfl) (by rw [wi (by omega) (by omega)]; rfl) ?_
            refine ax_q (q_mov rfl) ?_
            refine ax_nil ?_
            exact ⟨_, k + 1, by omega, ⟨by omega, rfl⟩, by repeat (first | exact trivial | refine ⟨rfl, ?_⟩ | refine ⟨?_, ?_⟩)⟩
      · have h2 : clashes l.Held[k] x = false := by rw [← clash_eq]; exact h2
        rw [addW_no h2] at hsc
        rw [← hsc]
        refine cx_skip ?_
        refine cx_keep rfl rfl ?_
        refine cx_ops ?_
        refine ax_q (q_mov rfl) ?_
        refine ax_qe (r' := int ((k + 1 : Nat) : Int)) (q_ibin rfl rfl rfl) (by rw [wi (by omega) (by omega)]; rfl) ?_
        refine ax_q (q_mov rfl) ?_
        refine ax_nil ?_
        exact ⟨_, k + 1, by omega, ⟨by omega, rfl⟩, by repeat (first | exact trivial | refine ⟨rfl, ?_⟩ | refine ⟨?_, ?_⟩)⟩
    · have h1 := dF h1
      have h1x : k = l.Held.length := by omega
      subst h1x
      refine cx_exit rfl ?_
      refine cx_keep rfl rfl ?_
      refine cx_seq ?_
      refine cx_seq ?_
      refine cx_ops ?_
      refine ax_q (q_mov rfl) ?_
      first | refine ax_q (q_lenS_map rfl) ?_ | refine ax_q (q_lenS_osl rfl) ?_ | refine ax_q (q_lenS_zs rfl) ?_ | refine ax_q (q_lenS rfl) ?_
      refine ax_q (q_ibin rfl rfl rfl) ?_
      refine ax_nil ?_
      refine cx_keep rfl rfl ?_
      refine cx_cond rfl (fun h5 => ?_) (fun h5 => ?_)
      · have h5 := dT h5
        have h5 : (clashW (calm l x.Tx) x l.Held.length).length = 0 := by omega
        refine cx_seq ?_
        refine cx_seq ?_
        refine cx_ops ?_
        first | refine ax_q (q_fadr_ptr rfl) ?_ | refine ax_q (q_fadr_rptr rfl) ?_ | refine ax_q (q_fadr_ip rfl) ?_
        first | refine ax_q (q_load1_ptr rfl rfl rfl) ?_ | refine ax_q (q_load1_ip rfl) ?_ | refine ax_q (q_load1_rptr rfl rfl (by assumption) rfl) ?_ | refine ax_q (q_load1_rptr rfl rfl (mapAt (by first | assumption | omega)) rfl) ?_
        first | refine ax_q (q_lenS_map rfl) ?_ | refine ax_q (q_lenS_osl rfl) ?_ | refine ax_q (q_lenS_zs rfl) ?_ | refine ax_q (q_lenS rfl) ?_
        refine ax_q (q_ibin rfl rfl rfl) ?_
        refine ax_nil ?_
        refine cx_keep rfl rfl ?_
        refine cx_cond rfl (fun h6 => ?_) (fun h6 => ?_)
        · have h6 := dT h6
          have h6 : l.Held.length = 60 := by omega
          refine cx_seq ?_
          refine cx_ops ?_
          first | refine ax_q (q_ldN rfl rfl rfl) ?_ | refine ax_q (q_loadN_ip rfl (Nat.le_refl _)) ?_ | refine ax_q (q_loadN_ip rfl (by decide)) ?_ | refine ax_q (q_loadN_rptr rfl rfl (by assumption) (by decide)) ?_ | refine ax_q (q_loadN_rptr rfl rfl (mapAt (by first | assumption | omega)) (by decide)) ?_
          refine ax_e (e_st rfl rfl rfl rfl rfl rfl rfl) ?_
          refine ax_q (q_mov rfl) ?_
          refine ax_nil ?_
          refine cx_keep rfl rfl ?_
          refine cx_ret (retN (fun e => bif Nat.beq e 23 then 1 else 0) [21, 23] rfl rfl rfl rfl rfl ?_)
          rw [takeL_2 h0 h5 h6]; exact ⟨rfl, rfl⟩
        · have h6 := dF h6
          have h6 : ¬ l.Held.length = 60 := by omega
          refine cx_skip ?_
          refine cx_keep rfl rfl ?_
          refine cx_seq ?_
          refine cx_ops ?_
          first | refine ax_q (q_fadr_ptr rfl) ?_ | refine ax_q (q_fadr_rptr rfl) ?_ | refine ax_q (q_fadr_ip rfl) ?_
          first | refine ax_q (q_load1_ptr rfl rfl rfl) ?_ | refine ax_q (q_load1_ip rfl) ?_ | refine ax_q (q_load1_rptr rfl rfl (by assumption) rfl) ?_ | refine ax_q (q_load1_rptr rfl rfl (mapAt (by first | assumption | omega)) rfl) ?_
          refine ax_q (q_mov rfl) ?_
          refine ax_q (q_mov rfl) ?_
          refine ax_q (q_mov rfl) ?_
          refine ax_q (q_mov rfl) ?_
          refine ax_q (q_build rfl) ?_
          refine ax_e (e_bslice rfl (by decide) rfl rfl) ?_
          refine ax_e (e_appn (n' := (l.Held ++ [x]).length) (rs' := (l.Held ++ [x]).map GLock.row) rfl rfl (by simp) rfl (src_osl rfl (by simp)) (.inl (by decide)) (hbnd (by omega) (by simp) (by decide)) (by simp) (app1 rfl)) ?_
          first | refine ax_q (q_fadr_ptr rfl) ?_ | refine ax_q (q_fadr_rptr rfl) ?_ | refine ax_q (q_fadr_ip rfl) ?_
          refine ax_e (e_st rfl rfl rfl rfl rfl rfl rfl) ?_
          refine ax_nil ?_
          refine cx_keep rfl rfl ?_
          refine cx_seq ?_
          refine cx_ops ?_
          first | refine ax_q (q_ldN rfl rfl rfl) ?_ | refine ax_q (q_loadN_ip rfl (Nat.le_refl _)) ?_ | refine ax_q (q_loadN_ip rfl (by decide)) ?_ | refine ax_q (q_loadN_rptr rfl rfl (by assumption) (by decide)) ?_ | refine ax_q (q_loadN_rptr rfl rfl (mapAt (by first | assumption | omega)) (by decide)) ?_
          refine ax_e (e_st rfl rfl rfl rfl rfl rfl rfl) ?_
          refine ax_q (q_mov rfl) ?_
          refine ax_nil ?_
          refine cx_keep rfl rfl ?_
          refine cx_ret (retN (fun e => bif Nat.beq e 23 then 1 else 0) [21, 23] rfl rfl rfl rfl rfl ?_)
          rw [takeL_3 h0 h5 h6]; exact ⟨rfl, rfl⟩
      · have h5 := dF h5
        have h5 : ¬ (clashW (calm l x.Tx) x l.Held.length).length = 0 := by omega
        refine cx_skip ?_
        refine cx_keep rfl rfl ?_
        refine cx_seq ?_
        refine cx_seq ?_
        refine cx_ops ?_
        first | refine ax_q (q_fadr_ptr rfl) ?_ | refine ax_q (q_fadr_rptr rfl) ?_ | refine ax_q (q_fadr_ip rfl) ?_
        first | refine ax_q (q_load1_ptr rfl rfl rfl) ?_ | refine ax_q (q_load1_ip rfl) ?_ | refine ax_q (q_load1_rptr rfl rfl (by assumption) rfl) ?_ | refine ax_q (q_load1_rptr rfl rfl (mapAt (by first | assumption | omega)) rfl) ?_
        first | refine ax_q (q_lenS_map rfl) ?_ | refine ax_q (q_lenS_osl rfl) ?_ | refine ax_q (q_lenS_zs rfl) ?_ | refine ax_q (q_lenS rfl) ?_
        refine ax_q (q_mov rfl) ?_
        first | refine ax_q (q_lenS_map rfl) ?_ | refine ax_q (q_lenS_osl rfl) ?_ | refine ax_q (q_lenS_zs rfl) ?_ | refine ax_q (q_lenS rfl) ?_
        refine ax_q (q_add rfl rfl (by omega)) ?_
        refine ax_q (q_ibin rfl rfl rfl) ?_
        refine ax_nil ?_
        refine cx_keep rfl rfl ?_
        refine cx_cond rfl (fun h7 => ?_) (fun h7 => ?_)
        · have h7 := dT h7
          have h7 : 100 < (calm l x.Tx).Waits.length + (clashW (calm l x.Tx) x l.Held.length).length := by omega
          refine cx_seq ?_
          refine cx_ops ?_
          first | refine ax_q (q_ldN rfl rfl rfl) ?_ | refine ax_q (q_loadN_ip rfl (Nat.le_refl _)) ?_ | refine ax_q (q_loadN_ip rfl (by decide)) ?_ | refine ax_q (q_loadN_rptr rfl rfl (by assumption) (by decide)) ?_ | refine ax_q (q_loadN_rptr rfl rfl (mapAt (by first | assumption | omega)) (by decide)) ?_
          refine ax_e (e_st rfl rfl rfl rfl rfl rfl rfl) ?_
          refine ax_q (q_mov rfl) ?_
          refine ax_nil ?_
          refine cx_keep rfl rfl ?_
          refine cx_ret (retN (fun e => bif Nat.beq e 23 then 1 else 0) [21, 23] rfl rfl rfl rfl rfl ?_)
          rw [takeL_4 h0 h5 h7]; exact ⟨rfl, rfl⟩
        · have h7 := dF h7
          have h7 : ¬ 100 < (calm l x.Tx).Waits.length + (clashW (calm l x.Tx) x l.Held.length).length := by omega
          refine cx_skip ?_
          refine cx_keep rfl rfl ?_
          refine cx_seq ?_
          refine cx_ops ?_
          first | refine ax_q (q_ldN rfl rfl rfl) ?_ | refine ax_q (q_loadN_ip rfl (Nat.le_refl _)) ?_ | refine ax_q (q_loadN_ip rfl (by decide)) ?_ | refine ax_q (q_loadN_rptr rfl rfl (by assumption) (by decide)) ?_ | refine ax_q (q_loadN_rptr rfl rfl (mapAt (by first | assumption | omega)) (by decide)) ?_
          first | refine ax_call rfl (vc_pure (c_l06Own (l := (calm l x.Tx)) ?_ ?_) hP rfl ?_) | refine ax_call rfl (vc_lend (c_l06Own (l := (calm l x.Tx)) ?_ ?_) hP (by repeat (first | exact lal_id _ rfl | exact LAL.nil | refine LAL.cons ?_ ?_ | exact la_id _ rfl | exact LA.lend (lend_whole rfl (by first | (simp; done) | (rw [List.length_map]; rfl))) | refine LA.agg ?_ | refine LA.fn ?_ | refine LA.lend ?_ | exact Lend.d _ | exact Lend.zs _ | exact lend_whole rfl (by first | (simp; done) | (rw [List.length_map]; rfl)) | refine Lend.ptr rfl ?_ | refine Lend.fn ?_ | exact LendL.nil | refine LendL.cons ?_ ?_)) ?_)
          · first | assumption | omega | (simp; done) | (simp; omega)
          · first | assumption | omega | (simp; done) | (simp; omega)
          rintro r h ⟨rfl, rfl⟩
          refine ⟨fun i => 120 + 200 * i, [0, 1], ⟨rfl, rfl, rfl, rfl, rfl, (by first | exact (fun h => absurd h Bool.false_ne_true) | exact (fun _ => ⟨rfl, (noisl_of (by repeat (first | exact trivial | refine ⟨noisl_map (fun _ => rfl), ?_⟩ | refine ⟨?_, ?_⟩)))⟩))⟩, ?_⟩
          skip
          refine ax_e (e_alloc (by decide) rfl rfl) ?_
          refine ax_e (e_st rfl rfl rfl rfl rfl rfl rfl) ?_
          refine ax_nil ?_
          refine cx_keep rfl rfl ?_
          refine cx_seq ?_
          refine cx_ops ?_
          first | refine ax_q (q_fadr_ptr rfl) ?_ | refine ax_q (q_fadr_rptr rfl) ?_ | refine ax_q (q_fadr_ip rfl) ?_
          first | refine ax_q (q_load1_ptr rfl rfl rfl) ?_ | refine ax_q (q_load1_ip rfl) ?_ | refine ax_q (q_load1_rptr rfl rfl (by assumption) rfl) ?_ | refine ax_q (q_load1_rptr rfl rfl (mapAt (by first | assumption | omega)) rfl) ?_
          refine ax_q (q_mov rfl) ?_
          refine ax_e (e_appn (n' := ((calm l x.Tx).Waits ++ (clashW (calm l x.Tx) x l.Held.length)).length) (rs' := ((calm l x.Tx).Waits ++ (clashW (calm l x.Tx) x l.Held.length)).map GWait.row) rfl rfl (by simp) rfl (src_osl rfl (by simp)) (.inl (by decide)) (hbnd (by omega) (by simp; omega) (by decide)) (by simp) (by simp [List.take_of_length_le])) ?_
          first | refine ax_q (q_fadr_ptr rfl) ?_ | refine ax_q (q_fadr_rptr rfl) ?_ | refine ax_q (q_fadr_ip rfl) ?_
          refine ax_e (e_st rfl rfl rfl rfl rfl rfl rfl) ?_
          refine ax_nil ?_
          refine cx_keep rfl rfl ?_
          refine cx_seq ?_
          refine cx_seq ?_
          refine cx_ops ?_
          first | refine ax_q (q_ldN rfl rfl rfl) ?_ | refine ax_q (q_loadN_ip rfl (Nat.le_refl _)) ?_ | refine ax_q (q_loadN_ip rfl (by decide)) ?_ | refine ax_q (q_loadN_rptr rfl rfl (by assumption) (by decide)) ?_ | refine ax_q (q_loadN_rptr rfl rfl (mapAt (by first | assumption | omega)) (by decide)) ?_
          refine ax_q (q_mov rfl) ?_
          have hsum : ((calm l x.Tx).Waits ++ (clashW (calm l x.Tx) x l.Held.length)).length ≤ 1048576 := by simp; omega
          first | refine ax_call rfl (vc_pure0 (c_l06Round (l := ⟨l.Held, (calm l x.Tx).Waits ++ (clashW (calm l x.Tx) x l.Held.length)⟩) (tx := x.Tx) ?_ ?_) hP rfl rfl ?_) | refine ax_call rfl (vc_lend0 (c_l06Round (l := ⟨l.Held, (calm l x.Tx).Waits ++ (clashW (calm l x.Tx) x l.Held.length)⟩) (tx := x.Tx) ?_ ?_) hP (by repeat (first | exact lal_id _ rfl | exact LAL.nil | refine LAL.cons ?_ ?_ | exact la_id _ rfl | exact LA.lend (lend_whole rfl (by first | (simp; done) | (rw [List.length_map]; rfl))) | refine LA.agg ?_ | refine LA.fn ?_ | refine LA.lend ?_ | exact Lend.d _ | exact Lend.zs _ | exact lend_whole rfl (by first | (simp; done) | (rw [List.length_map]; rfl)) | refine Lend.ptr rfl ?_ | refine Lend.fn ?_ | exact LendL.nil | refine LendL.cons ?_ ?_)) rfl rfl ?_)
          · first | assumption | omega | (simp; done) | (simp; omega)
          · first | assumption | omega | (simp; done) | (simp; omega)
          refine ax_nil ?_
          refine cx_keep rfl rfl ?_
          refine cx_cond rfl (fun h8 => ?_) (fun h8 => ?_)
          · skip
            refine cx_seq ?_
            refine cx_ops ?_
            first | refine ax_q (q_ldN rfl rfl rfl) ?_ | refine ax_q (q_loadN_ip rfl (Nat.le_refl _)) ?_ | refine ax_q (q_loadN_ip rfl (by decide)) ?_ | refine ax_q (q_loadN_rptr rfl rfl (by assumption) (by decide)) ?_ | refine ax_q (q_loadN_rptr rfl rfl (mapAt (by first | assumption | omega)) (by decide)) ?_
            refine ax_e (e_st rfl rfl rfl rfl rfl rfl rfl) ?_
            refine ax_q (q_mov rfl) ?_
            refine ax_nil ?_
            refine cx_keep rfl rfl ?_
            refine cx_ret (retN (fun e => bif Nat.beq e 23 then 1 else 0) [21, 23] rfl rfl rfl rfl rfl ?_)
            rw [takeL_5 h0 h5 h7 h8]; exact ⟨rfl, rfl⟩
          · skip
            have h8 : ¬ roundB ((calm l x.Tx).Waits ++ (clashW (calm l x.Tx) x l.Held.length)) x.Tx = true := by rw [h8]; simp
            refine cx_skip ?_
            refine cx_keep rfl rfl ?_
            refine cx_seq ?_
            refine cx_ops ?_
            first | refine ax_q (q_ldN rfl rfl rfl) ?_ | refine ax_q (q_loadN_ip rfl (Nat.le_refl _)) ?_ | refine ax_q (q_loadN_ip rfl (by decide)) ?_ | refine ax_q (q_loadN_rptr rfl rfl (by assumption) (by decide)) ?_ | refine ax_q (q_loadN_rptr rfl rfl (mapAt (by first | assumption | omega)) (by decide)) ?_
            refine ax_e (e_st rfl rfl rfl rfl rfl rfl rfl) ?_
            refine ax_q (q_mov rfl) ?_
            refine ax_nil ?_
            refine cx_keep rfl rfl ?_
            refine cx_ret (retN (fun e => bif Nat.beq e 320 then 1 else 0) [120, 320] rfl rfl rfl rfl rfl ?_)
            rw [takeL_6 h0 h5 h7 h8]; exact ⟨rfl, rfl⟩


/- loop.example/g00332/spec.TakeLock -/
def k_c_sTakeLock : XCode :=
  .seq (.ops [.op (some 5) (.box (.t 0)),
     .op (some 10) (.alloc [.nils 4, .nils 2]),
     .op (some 11) (.mov (.k (.int .i64 0)))])
  (.keep [1, 2, 3, 4, 5, 10] (.seq (.seq (.ops [.op (some 12) (.loadN 2 (.t 5)),
      .call (some 13) 32 [.t 12],
      .op (some 14) (.not (.t 13))])
   (.keep [1, 2, 3, 4, 5, 10, 14] (.cond (.t 14)
    (.seq (.ops [.op (some 15) (.build [.nils 4, .nils 2] []),
        .op none (.store 2 (.t 10) (.t 15)),
        .op (some 11) (.mov (.k (.int .i64 1)))])
     (.keep [10, 11] (.ret)))
    (.skip))))
  (.keep [1, 2, 3, 4, 5, 10] (.seq (.seq (.ops [.op (some 16) (.mov (.t 1)),
      .op (some 17) (.mov (.t 2)),
      .op (some 18) (.mov (.t 3)),
      .op (some 19) (.mov (.t 4)),
      .call (some 20) 50 [.t 16, .t 17, .t 18, .t 19],
      .op (some 21) (.not (.t 20))])
   (.keep [1, 2, 3, 4, 5, 10, 21] (.cond (.t 21)
    (.seq (.ops [.op (some 22) (.build [.nils 4, .nils 2] []),
        .op none (.store 2 (.t 10) (.t 22)),
        .op (some 11) (.mov (.k (.int .i64 4)))])
     (.keep [10, 11] (.ret)))
    (.skip))))
  (.keep [1, 2, 3, 4, 5, 10] (.seq (.ops [.op (some 23) (.loadN 2 (.t 5)),
     .op (some 24) (.mov (.t 1)),
     .op (some 25) (.mov (.t 2)),
     .op (some 26) (.mov (.t 3)),
     .op (some 27) (.mov (.t 4)),
     .call (some 28) 51 [.t 23, .t 24, .t 25, .t 26, .t 27],
     .op (some 29) (.ext (.t 28) 0),
     .op (some 30) (.ext (.t 28) 1),
     .op none (.store 2 (.t 10) (.t 29)),
     .op (some 11) (.mov (.t 30))])
  (.keep [10, 11] (.ret))))))))
theorem k_c_sTakeLock_fits : fitsF Try.prog 20 ⟨31, k_c_sTakeLock, [.cN 10 2, .t 11]⟩ = true := by kernel_rfl
theorem c_sTakeLock {l : GLocks} {x : GLock} (hw0 : l.Held.length ≤ 1048576) (hw1 : l.Waits.length ≤ 1048576) (hl : wfL GLock.wf l.Held) : Con Try.prog noMv 20 [l.av, int x.Tx, int x.Table, int x.Row, int x.Mode] [] (fun r h => r = .tup [(takeLock l x).1.avO 0 1, int (takeLock l x).2] ∧ h = (takeLock l x).1.hO 0 1) := by
  refine con_of2 k_c_sTakeLock_fits rfl fun C hP hmv => ?_
  unfold k_c_sTakeLock
  refine cx_seq ?_
  refine cx_ops ?_
  refine ax_e (e_box rfl rfl (by decide) rfl rfl rfl) ?_
  refine ax_e (e_alloc (by decide) rfl rfl) ?_
  refine ax_q (q_mov rfl) ?_
  refine ax_nil ?_
  refine cx_keep rfl rfl ?_
  refine cx_seq ?_
  refine cx_seq ?_
  refine cx_ops ?_
  first | refine ax_q (q_ldN rfl rfl rfl) ?_ | refine ax_q (q_loadN_ip rfl (Nat.le_refl _)) ?_ | refine ax_q (q_loadN_ip rfl (by decide)) ?_ | refine ax_q (q_loadN_rptr rfl rfl (by assumption) (by decide)) ?_ | refine ax_q (q_loadN_rptr rfl rfl (mapAt (by first | assumption | omega)) (by decide)) ?_
  first | refine ax_call rfl (vc_pure0 (c_sLocksOK  ?_ ?_ ?_) hP rfl rfl ?_) | refine ax_call rfl (vc_lend0 (c_sLocksOK  ?_ ?_ ?_) hP (by repeat (first | exact lal_id _ rfl | exact LAL.nil | refine LAL.cons ?_ ?_ | exact la_id _ rfl | exact LA.lend (lend_whole rfl (by first | (simp; done) | (rw [List.length_map]; rfl))) | refine LA.agg ?_ | refine LA.fn ?_ | refine LA.lend ?_ | exact Lend.d _ | exact Lend.zs _ | exact lend_whole rfl (by first | (simp; done) | (rw [List.length_map]; rfl)) | refine Lend.ptr rfl ?_ | refine Lend.fn ?_ | exact LendL.nil | refine LendL.cons ?_ ?_)) rfl rfl ?_)
  · first | assumption | omega | (simp; done) | (simp; omega)
  · first | assumption | omega | (simp; done) | (simp; omega)
  · first | assumption | omega | (simp; done) | (simp; omega)
  refine ax_q (q_not rfl) ?_
  refine ax_nil ?_
  refine cx_keep rfl rfl ?_
  refine cx_cond rfl (fun h0 => ?_) (fun h0 => ?_)
  · have h0 := bT h0
    refine cx_seq ?_
    refine cx_ops ?_
    refine ax_q (q_build rfl) ?_
    refine ax_e (e_st rfl rfl rfl rfl rfl rfl rfl) ?_
    refine ax_q (q_mov rfl) ?_
    refine ax_nil ?_
    refine cx_keep rfl rfl ?_
    have e : takeLock l x = (.zero, 1) := by unfold takeLock; rw [if_pos h0]
    refine cx_wk (wk_virt 900 4 rfl rfl rfl) ?_
    refine cx_wk (wk_zsb 10 900 0 rfl rfl rfl) ?_
    refine cx_wk (wk_virt 901 2 rfl rfl rfl) ?_
    refine cx_wk (wk_zsb 10 901 1 rfl rfl rfl) ?_
    refine cx_ret (retN (fun e => bif Nat.beq e 901 then 1 else 0) [900, 901] rfl rfl rfl rfl rfl ?_)
    rw [e]; exact ⟨rfl, rfl⟩
  · have h0 := bF h0
    refine cx_skip ?_
    refine cx_keep rfl rfl ?_
    refine cx_seq ?_
    refine cx_seq ?_
    refine cx_ops ?_
    refine ax_q (q_mov rfl) ?_
    refine ax_q (q_mov rfl) ?_
    refine ax_q (q_mov rfl) ?_
    refine ax_q (q_mov rfl) ?_
    first | refine ax_call rfl (vc_pure0 (c_l06Ask (a := x) ) hP rfl rfl ?_) | refine ax_call rfl (vc_lend0 (c_l06Ask (a := x) ) hP (by repeat (first | exact lal_id _ rfl | exact LAL.nil | refine LAL.cons ?_ ?_ | exact la_id _ rfl | exact LA.lend (lend_whole rfl (by first | (simp; done) | (rw [List.length_map]; rfl))) | refine LA.agg ?_ | refine LA.fn ?_ | refine LA.lend ?_ | exact Lend.d _ | exact Lend.zs _ | exact lend_whole rfl (by first | (simp; done) | (rw [List.length_map]; rfl)) | refine Lend.ptr rfl ?_ | refine Lend.fn ?_ | exact LendL.nil | refine LendL.cons ?_ ?_)) rfl rfl ?_)
    refine ax_q (q_not rfl) ?_
    refine ax_nil ?_
    refine cx_keep rfl rfl ?_
    refine cx_cond rfl (fun h1 => ?_) (fun h1 => ?_)
    · have h1 := bT h1
      refine cx_seq ?_
      refine cx_ops ?_
      refine ax_q (q_build rfl) ?_
      refine ax_e (e_st rfl rfl rfl rfl rfl rfl rfl) ?_
      refine ax_q (q_mov rfl) ?_
      refine ax_nil ?_
      refine cx_keep rfl rfl ?_
      have e : takeLock l x = (.zero, 4) := by unfold takeLock; rw [if_neg (by rw [h0]; simp), if_pos h1]
      refine cx_wk (wk_virt 900 4 rfl rfl rfl) ?_
      refine cx_wk (wk_zsb 10 900 0 rfl rfl rfl) ?_
      refine cx_wk (wk_virt 901 2 rfl rfl rfl) ?_
      refine cx_wk (wk_zsb 10 901 1 rfl rfl rfl) ?_
      refine cx_ret (retN (fun e => bif Nat.beq e 901 then 1 else 0) [900, 901] rfl rfl rfl rfl rfl ?_)
      rw [e]; exact ⟨rfl, rfl⟩
    · have h1 := bF h1
      refine cx_skip ?_
      refine cx_keep rfl rfl ?_
      refine cx_seq ?_
      refine cx_ops ?_
      first | refine ax_q (q_ldN rfl rfl rfl) ?_ | refine ax_q (q_loadN_ip rfl (Nat.le_refl _)) ?_ | refine ax_q (q_loadN_ip rfl (by decide)) ?_ | refine ax_q (q_loadN_rptr rfl rfl (by assumption) (by decide)) ?_ | refine ax_q (q_loadN_rptr rfl rfl (mapAt (by first | assumption | omega)) (by decide)) ?_
      refine ax_q (q_mov rfl) ?_
      refine ax_q (q_mov rfl) ?_
      refine ax_q (q_mov rfl) ?_
      refine ax_q (q_mov rfl) ?_
      first | refine ax_call rfl (vc_pure (c_l06Take (x := x) ?_ ?_) hP rfl ?_) | refine ax_call rfl (vc_lend (c_l06Take (x := x) ?_ ?_) hP (by repeat (first | exact lal_id _ rfl | exact LAL.nil | refine LAL.cons ?_ ?_ | exact la_id _ rfl | exact LA.lend (lend_whole rfl (by first | (simp; done) | (rw [List.length_map]; rfl))) | refine LA.agg ?_ | refine LA.fn ?_ | refine LA.lend ?_ | exact Lend.d _ | exact Lend.zs _ | exact lend_whole rfl (by first | (simp; done) | (rw [List.length_map]; rfl)) | refine Lend.ptr rfl ?_ | refine Lend.fn ?_ | exact LendL.nil | refine LendL.cons ?_ ?_)) ?_)
      · first | assumption | omega | (simp; done) | (simp; omega)
      · first | assumption | omega | (simp; done) | (simp; omega)
      rintro r h ⟨rfl, rfl⟩
      refine ⟨fun i => 28 + 200 * i, [0, 1], ⟨rfl, rfl, rfl, rfl, rfl, (by first | exact (fun h => absurd h Bool.false_ne_true) | exact (fun _ => ⟨rfl, (noisl_of (by repeat (first | exact trivial | refine ⟨noisl_map (fun _ => rfl), ?_⟩ | refine ⟨?_, ?_⟩)))⟩))⟩, ?_⟩
      skip
      refine ax_q (q_ext rfl rfl) ?_
      refine ax_q (q_ext rfl rfl) ?_
      refine ax_e (e_st rfl rfl rfl rfl rfl rfl rfl) ?_
      refine ax_q (q_mov rfl) ?_
      refine ax_nil ?_
      refine cx_keep rfl rfl ?_
      refine cx_ret (retN (fun e => bif Nat.beq e 228 then 1 else 0) [28, 228] rfl rfl rfl rfl rfl ?_)
      rw [show takeLock l x = takeL l x from by unfold takeLock; rw [if_neg (by rw [h0]; simp), if_neg (by rw [h1]; simp)]]; exact ⟨rfl, rfl⟩


/- loop.example/g00332/impl.WaitsRound -/
def k_c_WaitsRound : XCode :=
  .seq (.ops [.op (some 2) (.box (.t 0)),
     .op (some 4) (.mov (.k (.bool false))),
     .op (some 5) (.mov (.k (.int .i64 0)))])
  (.keep [1, 2] (.seq (.block 0 (.seq (.ops [.op (some 7) (.loadN 2 (.t 2)),
       .call (some 8) 24 [.t 7],
       .op (some 9) (.not (.t 8)),
       .op (some 6) (.mov (.t 9))])
    (.keep [1, 2, 6] (.cond (.t 6)
     (.seq (.ops [.op (some 4) (.mov (.k (.bool false))),
         .op (some 5) (.mov (.k (.int .i64 1)))])
      (.keep [4, 5] (.ret)))
     (.seq (.ops [.op (some 11) (.mov (.t 1)),
         .call (some 12) 29 [.t 11],
         .op (some 13) (.not (.t 12)),
         .op (some 10) (.mov (.t 13))])
      (.keep [1, 2, 10] (.cond (.t 10)
       (.seq (.ops [.op (some 4) (.mov (.k (.bool false))),
           .op (some 5) (.mov (.k (.int .i64 4)))])
        (.keep [4, 5] (.ret)))
       (.skip))))))))
  (.keep [1, 2] (.seq (.ops [.op (some 14) (.loadN 2 (.t 2)),
     .op (some 15) (.mov (.t 1)),
     .op (some 16) (.mov (.t 1)),
     .call (some 17) 52 [.t 14, .t 15, .t 16],
     .op (some 4) (.mov (.t 17)),
     .op (some 5) (.mov (.k (.int .i64 0)))])
  (.keep [4, 5] (.ret))))))
theorem k_c_WaitsRound_fits : fitsF Try.prog 21 ⟨18, k_c_WaitsRound, [.t 4, .t 5]⟩ = true := by kernel_rfl
theorem c_WaitsRound {l : GLocks} {tx : Int} (hw0 : l.Held.length ≤ 1048576) (hw1 : l.Waits.length ≤ 1048576) : Con Try.prog noMv 21 [l.av, int tx] [] (fun r h => r = .tup [bool (roundL l tx).1, int (roundL l tx).2] ∧ h = []) := by
  refine con_of2 k_c_WaitsRound_fits rfl fun C hP hmv => ?_
  unfold k_c_WaitsRound
  refine cx_seq ?_
  refine cx_ops ?_
  refine ax_e (e_box rfl rfl (by decide) rfl rfl rfl) ?_
  refine ax_q (q_mov rfl) ?_
  refine ax_q (q_mov rfl) ?_
  refine ax_nil ?_
  refine cx_keep rfl rfl ?_
  refine cx_seq ?_
  refine cx_block ?_
  refine cx_seq ?_
  refine cx_ops ?_
  first | refine ax_q (q_ldN rfl rfl rfl) ?_ | refine ax_q (q_loadN_ip rfl (Nat.le_refl _)) ?_ | refine ax_q (q_loadN_ip rfl (by decide)) ?_ | refine ax_q (q_loadN_rptr rfl rfl (by assumption) (by decide)) ?_ | refine ax_q (q_loadN_rptr rfl rfl (mapAt (by first | assumption | omega)) (by decide)) ?_
  first | refine ax_call rfl (vc_pure0 (c_LocksOK  ?_ ?_) hP rfl rfl ?_) | refine ax_call rfl (vc_lend0 (c_LocksOK  ?_ ?_) hP (by repeat (first | exact lal_id _ rfl | exact LAL.nil | refine LAL.cons ?_ ?_ | exact la_id _ rfl | exact LA.lend (lend_whole rfl (by first | (simp; done) | (rw [List.length_map]; rfl))) | refine LA.agg ?_ | refine LA.fn ?_ | refine LA.lend ?_ | exact Lend.d _ | exact Lend.zs _ | exact lend_whole rfl (by first | (simp; done) | (rw [List.length_map]; rfl)) | refine Lend.ptr rfl ?_ | refine Lend.fn ?_ | exact LendL.nil | refine LendL.cons ?_ ?_)) rfl rfl ?_)
  · first | assumption | omega | (simp; done) | (simp; omega)
  · first | assumption | omega | (simp; done) | (simp; omega)
  refine ax_q (q_not rfl) ?_
  refine ax_q (q_mov rfl) ?_
  refine ax_nil ?_
  refine cx_keep rfl rfl ?_
  refine cx_cond rfl (fun h0 => ?_) (fun h0 => ?_)
  · have h0 := bT h0
    refine cx_seq ?_
    refine cx_ops ?_
    refine ax_q (q_mov rfl) ?_
    refine ax_q (q_mov rfl) ?_
    refine ax_nil ?_
    refine cx_keep rfl rfl ?_
    refine cx_ret (ret0 rfl rfl ?_)
    exact ⟨by rw [roundL_1 h0]; rfl, rfl⟩
  · have h0 := bF h0
    refine cx_seq ?_
    refine cx_ops ?_
    refine ax_q (q_mov rfl) ?_
    first | refine ax_call rfl (vc_pure0 (c_isTx  ) hP rfl rfl ?_) | refine ax_call rfl (vc_lend0 (c_isTx  ) hP (by repeat (first | exact lal_id _ rfl | exact LAL.nil | refine LAL.cons ?_ ?_ | exact la_id _ rfl | exact LA.lend (lend_whole rfl (by first | (simp; done) | (rw [List.length_map]; rfl))) | refine LA.agg ?_ | refine LA.fn ?_ | refine LA.lend ?_ | exact Lend.d _ | exact Lend.zs _ | exact lend_whole rfl (by first | (simp; done) | (rw [List.length_map]; rfl)) | refine Lend.ptr rfl ?_ | refine Lend.fn ?_ | exact LendL.nil | refine LendL.cons ?_ ?_)) rfl rfl ?_)
    refine ax_q (q_not rfl) ?_
    refine ax_q (q_mov rfl) ?_
    refine ax_nil ?_
    refine cx_keep rfl rfl ?_
    refine cx_cond rfl (fun h1 => ?_) (fun h1 => ?_)
    · have h1 := bT h1
      refine cx_seq ?_
      refine cx_ops ?_
      refine ax_q (q_mov rfl) ?_
      refine ax_q (q_mov rfl) ?_
      refine ax_nil ?_
      refine cx_keep rfl rfl ?_
      refine cx_ret (ret0 rfl rfl ?_)
      exact ⟨by rw [roundL_2 h0 h1]; rfl, rfl⟩
    · have h1 := bF h1
      refine cx_skip ?_
      refine cx_keep rfl rfl ?_
      refine cx_seq ?_
      refine cx_ops ?_
      first | refine ax_q (q_ldN rfl rfl rfl) ?_ | refine ax_q (q_loadN_ip rfl (Nat.le_refl _)) ?_ | refine ax_q (q_loadN_ip rfl (by decide)) ?_ | refine ax_q (q_loadN_rptr rfl rfl (by assumption) (by decide)) ?_ | refine ax_q (q_loadN_rptr rfl rfl (mapAt (by first | assumption | omega)) (by decide)) ?_
      refine ax_q (q_mov rfl) ?_
      refine ax_q (q_mov rfl) ?_
      first | refine ax_call rfl (vc_pure0 (c_leads  ?_ ?_) hP rfl rfl ?_) | refine ax_call rfl (vc_lend0 (c_leads  ?_ ?_) hP (by repeat (first | exact lal_id _ rfl | exact LAL.nil | refine LAL.cons ?_ ?_ | exact la_id _ rfl | exact LA.lend (lend_whole rfl (by first | (simp; done) | (rw [List.length_map]; rfl))) | refine LA.agg ?_ | refine LA.fn ?_ | refine LA.lend ?_ | exact Lend.d _ | exact Lend.zs _ | exact lend_whole rfl (by first | (simp; done) | (rw [List.length_map]; rfl)) | refine Lend.ptr rfl ?_ | refine Lend.fn ?_ | exact LendL.nil | refine LendL.cons ?_ ?_)) rfl rfl ?_)
      · first | assumption | omega | (simp; done) | (simp; omega)
      · first | assumption | omega | (simp; done) | (simp; omega)
      refine ax_q (q_mov rfl) ?_
      refine ax_q (q_mov rfl) ?_
      refine ax_nil ?_
      refine cx_keep rfl rfl ?_
      refine cx_ret (ret0 rfl rfl ?_)
      exact ⟨by rw [roundL_3 h0 h1]; rfl, rfl⟩


/- loop.example/g00332/impl.HoldsLock -/
def k_c_HoldsLock : XCode :=
  .seq (.ops [.op (some 5) (.box (.t 0)),
     .op (some 10) (.mov (.k (.bool false))),
     .op (some 11) (.mov (.k (.int .i64 0)))])
  (.keep [1, 2, 3, 4, 5] (.seq (.ops [.op (some 13) (.mov (.t 1)),
     .op (some 14) (.mov (.t 2)),
     .op (some 15) (.mov (.t 3)),
     .op (some 16) (.mov (.t 4)),
     .op (some 17) (.build [.int .i64 0, .int .i64 0, .int .i64 0, .int .i64 0] [(0, 1, .t 13), (1, 1, .t 14), (2, 1, .t 15), (3, 1, .t 16)]),
     .op (some 12) (.alloc [.int .i64 0, .int .i64 0, .int .i64 0, .int .i64 0]),
     .op none (.store 4 (.t 12) (.t 17))])
  (.keep [5, 12] (.seq (.block 0 (.seq (.ops [.op (some 19) (.loadN 2 (.t 5)),
       .call (some 20) 24 [.t 19],
       .op (some 21) (.not (.t 20)),
       .op (some 18) (.mov (.t 21))])
    (.keep [5, 12, 18] (.cond (.t 18)
     (.seq (.ops [.op (some 10) (.mov (.k (.bool false))),
         .op (some 11) (.mov (.k (.int .i64 1)))])
      (.keep [10, 11] (.ret)))
     (.seq (.ops [.op (some 23) (.loadN 4 (.t 12)),
         .call (some 24) 48 [.t 23],
         .op (some 25) (.not (.t 24)),
         .op (some 22) (.mov (.t 25))])
      (.keep [5, 12, 22] (.cond (.t 22)
       (.seq (.ops [.op (some 10) (.mov (.k (.bool false))),
           .op (some 11) (.mov (.k (.int .i64 4)))])
        (.keep [10, 11] (.ret)))
       (.skip))))))))
  (.keep [5, 12] (.seq (.ops [.op (some 26) (.loadN 2 (.t 5)),
     .op (some 27) (.loadN 4 (.t 12)),
     .call (some 28) 53 [.t 26, .t 27],
     .op (some 10) (.mov (.t 28)),
     .op (some 11) (.mov (.k (.int .i64 0)))])
  (.keep [10, 11] (.ret))))))))
theorem k_c_HoldsLock_fits : fitsF Try.prog 22 ⟨29, k_c_HoldsLock, [.t 10, .t 11]⟩ = true := by kernel_rfl
theorem c_HoldsLock {l : GLocks} {x : GLock} (hw0 : l.Held.length ≤ 1048576) (hw1 : l.Waits.length ≤ 1048576) : Con Try.prog noMv 22 [l.av, int x.Tx, int x.Table, int x.Row, int x.Mode] [] (fun r h => r = .tup [bool (holdsLock l x).1, int (holdsLock l x).2] ∧ h = []) := by
  refine con_of2 k_c_HoldsLock_fits rfl fun C hP hmv => ?_
  unfold k_c_HoldsLock
  refine cx_seq ?_
  refine cx_ops ?_
  refine ax_e (e_box rfl rfl (by decide) rfl rfl rfl) ?_
  refine ax_q (q_mov rfl) ?_
  refine ax_q (q_mov rfl) ?_
  refine ax_nil ?_
  refine cx_keep rfl rfl ?_
  refine cx_seq ?_
  refine cx_ops ?_
  refine ax_q (q_mov rfl) ?_
  refine ax_q (q_mov rfl) ?_
  refine ax_q (q_mov rfl) ?_
  refine ax_q (q_mov rfl) ?_
  refine ax_q (q_build rfl) ?_
  refine ax_e (e_alloc (by decide) rfl rfl) ?_
  refine ax_e (e_st rfl rfl rfl rfl rfl rfl rfl) ?_
  refine ax_nil ?_
  refine cx_keep rfl rfl ?_
  refine cx_seq ?_
  refine cx_block ?_
  refine cx_seq ?_
  refine cx_ops ?_
  first | refine ax_q (q_ldN rfl rfl rfl) ?_ | refine ax_q (q_loadN_ip rfl (Nat.le_refl _)) ?_ | refine ax_q (q_loadN_ip rfl (by decide)) ?_ | refine ax_q (q_loadN_rptr rfl rfl (by assumption) (by decide)) ?_ | refine ax_q (q_loadN_rptr rfl rfl (mapAt (by first | assumption | omega)) (by decide)) ?_
  first | refine ax_call rfl (vc_pure0 (c_LocksOK  ?_ ?_) hP rfl rfl ?_) | refine ax_call rfl (vc_lend0 (c_LocksOK  ?_ ?_) hP (by repeat (first | exact lal_id _ rfl | exact LAL.nil | refine LAL.cons ?_ ?_ | exact la_id _ rfl | exact LA.lend (lend_whole rfl (by first | (simp; done) | (rw [List.length_map]; rfl))) | refine LA.agg ?_ | refine LA.fn ?_ | refine LA.lend ?_ | exact Lend.d _ | exact Lend.zs _ | exact lend_whole rfl (by first | (simp; done) | (rw [List.length_map]; rfl)) | refine Lend.ptr rfl ?_ | refine Lend.fn ?_ | exact LendL.nil | refine LendL.cons ?_ ?_)) rfl rfl ?_)
  · first | assumption | omega | (simp; done) | (simp; omega)
  · first | assumption | omega | (simp; done) | (simp; omega)
  refine ax_q (q_not rfl) ?_
  refine ax_q (q_mov rfl) ?_
  refine ax_nil ?_
  refine cx_keep rfl rfl ?_
  refine cx_cond rfl (fun h0 => ?_) (fun h0 => ?_)
  · have h0 := bT h0
    refine cx_seq ?_
    refine cx_ops ?_
    refine ax_q (q_mov rfl) ?_
    refine ax_q (q_mov rfl) ?_
    refine ax_nil ?_
    refine cx_keep rfl rfl ?_
    refine cx_ret (ret0 rfl rfl ?_)
    exact ⟨by rw [holdsLock_1 h0]; rfl, rfl⟩
  · have h0 := bF h0
    refine cx_seq ?_
    refine cx_ops ?_
    first | refine ax_q (q_ldN rfl rfl rfl) ?_ | refine ax_q (q_loadN_ip rfl (Nat.le_refl _)) ?_ | refine ax_q (q_loadN_ip rfl (by decide)) ?_ | refine ax_q (q_loadN_rptr rfl rfl (by assumption) (by decide)) ?_ | refine ax_q (q_loadN_rptr rfl rfl (mapAt (by first | assumption | omega)) (by decide)) ?_
    first | refine ax_call rfl (vc_pure0 (c_lockOK (a := x) ) hP rfl rfl ?_) | refine ax_call rfl (vc_lend0 (c_lockOK (a := x) ) hP (by repeat (first | exact lal_id _ rfl | exact LAL.nil | refine LAL.cons ?_ ?_ | exact la_id _ rfl | exact LA.lend (lend_whole rfl (by first | (simp; done) | (rw [List.length_map]; rfl))) | refine LA.agg ?_ | refine LA.fn ?_ | refine LA.lend ?_ | exact Lend.d _ | exact Lend.zs _ | exact lend_whole rfl (by first | (simp; done) | (rw [List.length_map]; rfl)) | refine Lend.ptr rfl ?_ | refine Lend.fn ?_ | exact LendL.nil | refine LendL.cons ?_ ?_)) rfl rfl ?_)
    refine ax_q (q_not rfl) ?_
    refine ax_q (q_mov rfl) ?_
    refine ax_nil ?_
    refine cx_keep rfl rfl ?_
    refine cx_cond rfl (fun h1 => ?_) (fun h1 => ?_)
    · have h1 := bT h1
      refine cx_seq ?_
      refine cx_ops ?_
      refine ax_q (q_mov rfl) ?_
      refine ax_q (q_mov rfl) ?_
      refine ax_nil ?_
      refine cx_keep rfl rfl ?_
      refine cx_ret (ret0 rfl rfl ?_)
      exact ⟨by rw [holdsLock_2 h0 h1]; rfl, rfl⟩
    · have h1 := bF h1
      refine cx_skip ?_
      refine cx_keep rfl rfl ?_
      refine cx_seq ?_
      refine cx_ops ?_
      first | refine ax_q (q_ldN rfl rfl rfl) ?_ | refine ax_q (q_loadN_ip rfl (Nat.le_refl _)) ?_ | refine ax_q (q_loadN_ip rfl (by decide)) ?_ | refine ax_q (q_loadN_rptr rfl rfl (by assumption) (by decide)) ?_ | refine ax_q (q_loadN_rptr rfl rfl (mapAt (by first | assumption | omega)) (by decide)) ?_
      first | refine ax_q (q_ldN rfl rfl rfl) ?_ | refine ax_q (q_loadN_ip rfl (Nat.le_refl _)) ?_ | refine ax_q (q_loadN_ip rfl (by decide)) ?_ | refine ax_q (q_loadN_rptr rfl rfl (by assumption) (by decide)) ?_ | refine ax_q (q_loadN_rptr rfl rfl (mapAt (by first | assumption | omega)) (by decide)) ?_
      first | refine ax_call rfl (vc_pure0 (c_has (x := x) ?_ ?_) hP rfl rfl ?_) | refine ax_call rfl (vc_lend0 (c_has (x := x) ?_ ?_) hP (by repeat (first | exact lal_id _ rfl | exact LAL.nil | refine LAL.cons ?_ ?_ | exact la_id _ rfl | exact LA.lend (lend_whole rfl (by first | (simp; done) | (rw [List.length_map]; rfl))) | refine LA.agg ?_ | refine LA.fn ?_ | refine LA.lend ?_ | exact Lend.d _ | exact Lend.zs _ | exact lend_whole rfl (by first | (simp; done) | (rw [List.length_map]; rfl)) | refine Lend.ptr rfl ?_ | refine Lend.fn ?_ | exact LendL.nil | refine LendL.cons ?_ ?_)) rfl rfl ?_)
      · first | assumption | omega | (simp; done) | (simp; omega)
      · first | assumption | omega | (simp; done) | (simp; omega)
      refine ax_q (q_mov rfl) ?_
      refine ax_q (q_mov rfl) ?_
      refine ax_nil ?_
      refine cx_keep rfl rfl ?_
      refine cx_ret (ret0 rfl rfl ?_)
      exact ⟨by rw [holdsLock_3 h0 h1]; rfl, rfl⟩

end Go.Proofs.Ytljbgclkdfeegaa
