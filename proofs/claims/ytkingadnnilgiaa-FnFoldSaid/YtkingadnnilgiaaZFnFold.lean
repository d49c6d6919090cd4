/- The law FnFold of the given program returns true for all arguments, and its arguments read behind the call as they read before: the statement FnFoldSaid, with no condition. -/
import Derived.Test.YtkingadnnilgiaaW0
import Derived.Test.YtkingadnnilgiaaRows
namespace Go.Proofs.Ytkingadnnilgiaa
open Go Go.AM Go.ChangeShapes Go.RowKit
set_option linter.unusedVariables false
set_option linter.unusedSimpArgs false
namespace fnFold
set_option maxRecDepth 10000
/- loop.example/g00332/laws.FnFold -/
def k_c_FnFold : XCode :=
 .seq (.ops [.op (some 4) (.mov (.k (.bool false)))])
 (.keep [0, 1] (.seq (.seq (.ops [.op (some 16) (.mov (.t 0)),
   .op (some 17) (.lenS (.t 16)),
   .op (some 18) (.bin .gtr (.t 17) (.k (.int .i64 1048576))),
   .op (some 19) (.mov (.t 18)),
   .andor 23 false 3 19 [.op (some 20) (.mov (.t 1)), .op (some 21) (.lenS (.t 20)), .op (some 22) (.bin .gtr (.t 21) (.k (.int .i64 1048576)))] (.t 22)])
  (.keep [0, 1, 23] (.cond (.t 23)
  (.seq (.ops [.op (some 4) (.mov (.k (.bool true)))])
   (.keep [4] (.ret)))
  (.skip))))
 (.keep [0, 1] (.seq (.ops [.op (some 24) (.mov (.t 0)),
   .call (some 25) 7 [.t 24],
   .op (some 5) (.mov (.t 25))])
 (.keep [1, 5] (.seq (.ops [.op (some 26) (.mov (.t 1)),
   .call (some 27) 8 [.t 26, .k (.int .i64 0), .k (.int .i64 2)],
   .op (some 28) (.bin .add (.k (.int .i64 1)) (.t 27)),
   .op (some 6) (.mov (.t 28))])
 (.keep [5, 6] (.seq (.ops [.op (some 30) (.mov (.t 5)),
   .op (some 31) (.mov (.t 6)),
   .call (some 32) 9 [.t 30, .t 31],
   .op (some 29) (.mov (.t 32)),
   .op (some 33) (.ext (.t 29) 0),
   .op (some 34) (.ext (.t 29) 1),
   .op (some 7) (.mov (.t 33)),
   .op (some 8) (.mov (.t 34))])
 (.keep [5, 6, 7, 8] (.seq (.ops [.op (some 36) (.mov (.t 5)),
   .op (some 37) (.mov (.t 6)),
   .call (some 38) 10 [.t 36, .t 37],
   .op (some 35) (.mov (.t 38)),
   .op (some 39) (.ext (.t 35) 0),
   .op (some 40) (.ext (.t 35) 1),
   .op (some 9) (.mov (.t 39)),
   .op (some 10) (.mov (.t 40))])
 (.keep [5, 6, 7, 8, 9] (.seq (.seq (.ops [.op (some 41) (.mov (.t 8)),
   .op (some 42) (.bin .neq (.t 41) (.k (.int .i64 0))),
   .op (some 43) (.mov (.t 42)),
   .andor 48 false 2 43 [.op (some 44) (.mov (.t 7)), .op (some 45) (.mov (.t 9)), .call (some 46) 11 [.t 44, .t 45], .op (some 47) (.not (.t 46))] (.t 47)])
  (.keep [5, 6, 7, 48] (.cond (.t 48)
  (.seq (.ops [.op (some 4) (.mov (.k (.bool false)))])
   (.keep [4] (.ret)))
  (.skip))))
 (.keep [5, 6, 7] (.seq (.seq (.ops [.op (some 11) (.mov (.k (.int .i64 0)))])
  (.keep [5, 6, 7, 11] (.block 0 (.loop (.seq (.seq (.ops [.op (some 49) (.mov (.t 11)),
     .op (some 50) (.bin .lss (.t 49) (.k (.int .i64 6)))])
   (.keep [5, 6, 7, 11, 50] (.cond (.t 50)
    (.skip)
    (.exit 0))))
   (.keep [5, 6, 7, 11] (.seq (.block 1 (.seq (.ops [.op (some 12) (.mov (.k (.int .i64 (-1))))])
    (.keep [5, 6, 7, 11, 12] (.seq (.seq (.ops [.op (some 13) (.mov (.k (.int .i64 0)))])
    (.keep [5, 6, 7, 11, 12, 13] (.block 2 (.loop (.seq (.seq (.ops [.op (some 53) (.mov (.t 13)),
       .op (some 54) (.mov (.t 5)),
       .op (some 55) (.lenS (.t 54)),
       .op (some 56) (.bin .lss (.t 53) (.t 55))])
      (.keep [5, 6, 7, 11, 12, 13, 56] (.cond (.t 56)
      (.skip)
      (.exit 2))))
     (.keep [5, 6, 7, 11, 12, 13] (.seq (.block 3 (.seq (.ops [.op (some 59) (.mov (.t 5)),
        .op (some 60) (.mov (.t 13)),
        .op (some 61) (.iadr 10 (.t 59) (.t 60)),
        .op (some 62) (.fadr (.t 61) 1),
        .op (some 63) (.load1 (.t 62)),
        .op (some 64) (.mov (.t 6)),
        .op (some 65) (.bin .eql (.t 63) (.t 64)),
        .op (some 66) (.mov (.t 65)),
        .andor 75 true 7 66 [.op (some 67) (.mov (.t 5)), .op (some 68) (.mov (.t 13)), .op (some 69) (.iadr 10 (.t 67) (.t 68)), .op (some 70) (.fadr (.t 69) 2), .op (some 71) (.fadr (.t 70) 0), .op (some 72) (.load1 (.t 71)), .op (some 73) (.mov (.t 11)), .op (some 74) (.bin .eql (.t 72) (.t 73))] (.t 74)])
      (.keep [5, 6, 7, 11, 12, 13, 75] (.cond (.t 75)
       (.ops [.op (some 76) (.mov (.t 13)),
        .op (some 12) (.mov (.t 76))])
       (.skip)))))
     (.keep [5, 6, 7, 11, 12, 13] (.ops [.op (some 57) (.mov (.t 13)),
      .op (some 58) (.bin .add (.t 57) (.k (.int .i64 1))),
      .op (some 13) (.mov (.t 58))])))))))))
    (.keep [5, 6, 7, 11, 12] (.seq (.ops [.op (some 14) (.mov (.k (.bool false)))])
    (.keep [5, 6, 7, 11, 12, 14] (.seq (.seq (.ops [.op (some 15) (.mov (.k (.int .i64 0)))])
    (.keep [5, 6, 7, 11, 12, 14, 15] (.block 4 (.loop (.seq (.seq (.ops [.op (some 77) (.mov (.t 15)),
       .op (some 78) (.mov (.t 7)),
       .op (some 79) (.lenS (.t 78)),
       .op (some 80) (.bin .lss (.t 77) (.t 79))])
      (.keep [5, 6, 7, 11, 12, 14, 15, 80] (.cond (.t 80)
      (.skip)
      (.exit 4))))
     (.keep [5, 6, 7, 11, 12, 14, 15] (.seq (.block 5 (.seq (.ops [.op (some 83) (.mov (.t 7)),
        .op (some 84) (.mov (.t 15)),
        .op (some 85) (.iadr 7 (.t 83) (.t 84)),
        .op (some 86) (.fadr (.t 85) 0),
        .op (some 87) (.load1 (.t 86)),
        .op (some 88) (.mov (.t 11)),
        .op (some 89) (.bin .eql (.t 87) (.t 88))])
      (.keep [5, 6, 7, 11, 12, 14, 15, 89] (.cond (.t 89)
       (.seq (.ops [.op (some 14) (.mov (.k (.bool true)))])
       (.keep [5, 6, 7, 11, 12, 14, 15] (.seq (.draw [.op (some 90) (.mov (.t 12)),
         .op (some 91) (.bin .lss (.t 90) (.k (.int .i64 0))),
         .op (some 92) (.mov (.t 91)),
         .andor 103 false 2 92 [.op (some 93) (.mov (.t 7)), .op (some 94) (.mov (.t 15)), .op (some 95) (.iadr 7 (.t 93) (.t 94)), .op (some 96) (.loadN 7 (.t 95)), .op (some 97) (.mov (.t 5)), .op (some 98) (.mov (.t 12)), .op (some 99) (.iadr 10 (.t 97) (.t 98)), .op (some 100) (.fadr (.t 99) 2), .op (some 101) (.loadN 7 (.t 100)), .op (some 102) (.eqs true [0, 0, 0, 2, 0, 0, 2] (.t 96) (.t 101))] (.t 102)])
       (.keep [5, 6, 7, 11, 12, 14, 15, 103] (.cond (.t 103)
        (.seq (.ops [.op (some 4) (.mov (.k (.bool false)))])
        (.keep [4] (.ret)))
        (.skip))))))
       (.skip)))))
     (.keep [5, 6, 7, 11, 12, 14, 15] (.ops [.op (some 81) (.mov (.t 15)),
      .op (some 82) (.bin .add (.t 81) (.k (.int .i64 1))),
      .op (some 15) (.mov (.t 82))])))))))))
    (.keep [5, 6, 7, 11, 12, 14] (.seq (.ops [.op (some 104) (.mov (.t 14)),
     .op (some 105) (.mov (.t 12)),
     .op (some 106) (.bin .geq (.t 105) (.k (.int .i64 0))),
     .op (some 107) (.mov (.t 106)),
     .andor 114 true 3 107 [.op (some 108) (.mov (.t 5)), .op (some 109) (.mov (.t 12)), .op (some 110) (.iadr 10 (.t 108) (.t 109)), .op (some 111) (.fadr (.t 110) 9), .op (some 112) (.load1 (.t 111)), .op (some 113) (.not (.t 112))] (.t 113),
     .op (some 115) (.eqb true (.t 104) (.t 114))])
    (.keep [5, 6, 7, 11, 115] (.cond (.t 115)
    (.seq (.ops [.op (some 4) (.mov (.k (.bool false)))])
     (.keep [4] (.ret)))
    (.skip)))))))))))))
   (.keep [5, 6, 7, 11] (.ops [.op (some 51) (.mov (.t 11)),
    .op (some 52) (.bin .add (.t 51) (.k (.int .i64 1))),
    .op (some 11) (.mov (.t 52))])))))))))
 (.keep [] (.seq (.ops [.op (some 4) (.mov (.k (.bool true)))])
 (.keep [4] (.ret))))))))))))))))))
theorem k_c_FnFold_fits : fitsF Try.prog 3 ⟨116, k_c_FnFold, [.t 4]⟩ = true := by kernel_rfl
set_option maxHeartbeats 8000000 in
theorem c_FnFold {code more : Str} (w0 : wfL (fun _ => True) code) (w1 : wfL (fun _ => True) more) : Con Try.prog noMv 3 [.d (.sl 1 (code.map byteRow)), .d (.sl 1 (more.map byteRow))] [] (fun r h => r = bool true ∧ h = []) := by
 refine con_of2 k_c_FnFold_fits rfl fun C hP hmv => ?_
 unfold k_c_FnFold
 refine cx_seq ?_
 refine cx_ops ?_
 refine ax_q (q_mov rfl) ?_
 refine ax_nil ?_
 refine cx_keep rfl rfl ?_
 refine cx_seq ?_
 refine cx_seq ?_
 refine cx_ops ?_
 refine ax_q (q_mov rfl) ?_
 first | refine ax_q (q_lenS_map rfl) ?_ | refine ax_q (q_lenS_osl rfl) ?_ | refine ax_q (q_lenS_zs rfl) ?_ | refine ax_q (q_lenS rfl) ?_
 refine ax_q (q_ibin rfl rfl rfl) ?_
 refine ax_q (q_mov rfl) ?_
 apply ax_or rfl rfl
 ·
  intro g
  have g := dF g
  refine ax_q (q_mov rfl) ?_
  first | refine ax_q (q_lenS_map rfl) ?_ | refine ax_q (q_lenS_osl rfl) ?_ | refine ax_q (q_lenS_zs rfl) ?_ | refine ax_q (q_lenS rfl) ?_
  refine ax_q (q_ibin rfl rfl rfl) ?_
  exact ax_nil ⟨rfl, by repeat (first | exact trivial | refine ⟨rfl, ?_⟩ | refine ⟨?_, ?_⟩)⟩
 refine ax_nil ?_
 refine cx_keep rfl rfl ?_
 refine cx_cond rfl (fun h0 => ?_) (fun h0 => ?_)
 ·
  have h0 := (fun h => (or_T h).imp dT dT) h0
  refine cx_seq ?_
  refine cx_ops ?_
  refine ax_q (q_mov rfl) ?_
  refine ax_nil ?_
  refine cx_keep rfl rfl ?_
  refine cx_ret (ret0 rfl rfl ?_)
  exact ⟨rfl, rfl⟩
 ·
  have h0 := (fun h => And.intro (dF (or_F h).1) (dF (or_F h).2)) h0
  have hlc : code.length ≤ 1048576 := by omega
  have hlm : more.length ≤ 1048576 := by omega
  refine cx_skip ?_
  refine cx_keep rfl rfl ?_
  refine cx_seq ?_
  refine cx_ops ?_
  refine ax_q (q_mov rfl) ?_
  first | refine ax_call rfl (vc_pure (c_ChangesOf  ?_) hP rfl ?_) | refine ax_call rfl (vc_lend (c_ChangesOf  ?_) hP (by repeat (first | exact lal_id _ rfl | exact LAL.nil | refine LAL.cons ?_ ?_ | exact la_id _ rfl | exact LA.lend (lend_whole rfl (by first | (simp; done) | (rw [List.length_map]; rfl))) | refine LA.agg ?_ | refine LA.fn ?_ | refine LA.lend ?_ | exact Lend.d _ | exact Lend.zs _ | exact lend_whole rfl (by first | (simp; done) | (rw [List.length_map]; rfl)) | refine Lend.ptr rfl ?_ | refine Lend.fn ?_ | exact LendL.nil | refine LendL.cons ?_ ?_)) ?_)
  ·
   first | assumption | omega | (simp; done) | (simp; omega)
  rintro r h ⟨l, hl, hb, rfl, rfl⟩
  refine ⟨fun i => 25 + 200 * i, [0], ⟨rfl, rfl, rfl, rfl, rfl, (by first | exact (fun h => absurd h Bool.false_ne_true) | exact (fun _ => ⟨rfl, (noisl_of ⟨noisl_map (fun _ => rfl), trivial⟩)⟩))⟩, ?_⟩
  skip
  refine ax_q (q_mov rfl) ?_
  refine ax_nil ?_
  refine cx_keep rfl rfl ?_
  refine cx_seq ?_
  refine cx_ops ?_
  refine ax_q (q_mov rfl) ?_
  obtain ⟨hchs, hw, hv⟩ := chs_of hl hb
  have hat := @atF_bounds more 0 2 (by omega)
  obtain ⟨t, ht⟩ : ∃ t, t = 1 + atF more 0 2 := ⟨_, rfl⟩
  have hfl := @fdF_len l t
  have hfd := fdF_3 (l := l) (t := t) (by omega) hchs (inR_iff.2 (by omega))
  have hfl2 := (@foldF_ok l t l.length).2
  first | refine ax_call rfl (vc_pure0 (c_at  ?_ ?_ ?_) hP rfl rfl ?_) | refine ax_call rfl (vc_lend0 (c_at  ?_ ?_ ?_) hP (by repeat (first | exact lal_id _ rfl | exact LAL.nil | refine LAL.cons ?_ ?_ | exact la_id _ rfl | exact LA.lend (lend_whole rfl (by first | (simp; done) | (rw [List.length_map]; rfl))) | refine LA.agg ?_ | refine LA.fn ?_ | refine LA.lend ?_ | exact Lend.d _ | exact Lend.zs _ | exact lend_whole rfl (by first | (simp; done) | (rw [List.length_map]; rfl)) | refine Lend.ptr rfl ?_ | refine Lend.fn ?_ | exact LendL.nil | refine LendL.cons ?_ ?_)) rfl rfl ?_)
  ·
   first | assumption | omega | (simp; done) | (simp; omega)
  ·
   first | assumption | omega | (simp; done) | (simp; omega)
  ·
   first | assumption | omega | (simp; done) | (simp; omega)
  refine ax_qe (r' := int t) (q_add rfl rfl (by omega)) (by rw [ht]) ?_
  refine ax_q (q_mov rfl) ?_
  refine ax_nil ?_
  refine cx_keep rfl rfl ?_
  refine cx_seq ?_
  refine cx_ops ?_
  refine ax_q (q_mov rfl) ?_
  refine ax_q (q_mov rfl) ?_
  first | refine ax_call rfl (vc_pure (c_FoldChanges (l := l) (t := t) ?_ ?_) hP rfl ?_) | refine ax_call rfl (vc_lend (c_FoldChanges (l := l) (t := t) ?_ ?_) hP (by repeat (first | exact lal_id _ rfl | exact LAL.nil | refine LAL.cons ?_ ?_ | exact la_id _ rfl | exact LA.lend (lend_whole rfl (by first | (simp; done) | (rw [List.length_map]; rfl))) | refine LA.agg ?_ | refine LA.fn ?_ | refine LA.lend ?_ | exact Lend.d _ | exact Lend.zs _ | exact lend_whole rfl (by first | (simp; done) | (rw [List.length_map]; rfl)) | refine Lend.ptr rfl ?_ | refine Lend.fn ?_ | exact LendL.nil | refine LendL.cons ?_ ?_)) ?_)
  ·
   first | assumption | omega | (simp; done) | (simp; omega)
  ·
   first | assumption | omega | (simp; done) | (simp; omega)
  rintro r h ⟨rfl, rfl⟩
  refine ⟨fun i => 32 + 200 * i, [0], ⟨rfl, rfl, rfl, rfl, rfl, (by first | exact (fun h => absurd h Bool.false_ne_true) | exact (fun _ => ⟨rfl, (noisl_of (by repeat (first | exact trivial | refine ⟨noisl_map (fun _ => rfl), ?_⟩ | refine ⟨?_, ?_⟩)))⟩))⟩, ?_⟩
  skip
  refine ax_q (q_mov rfl) ?_
  refine ax_q (q_ext rfl rfl) ?_
  refine ax_q (q_ext rfl rfl) ?_
  refine ax_q (q_mov rfl) ?_
  refine ax_q (q_mov rfl) ?_
  refine ax_nil ?_
  refine cx_keep rfl rfl ?_
  refine cx_seq ?_
  refine cx_ops ?_
  refine ax_q (q_mov rfl) ?_
  refine ax_q (q_mov rfl) ?_
  first | refine ax_call rfl (vc_pure (c_sFoldChanges (l := l) (t := t) ?_ ?_) hP rfl ?_) | refine ax_call rfl (vc_lend (c_sFoldChanges (l := l) (t := t) ?_ ?_) hP (by repeat (first | exact lal_id _ rfl | exact LAL.nil | refine LAL.cons ?_ ?_ | exact la_id _ rfl | exact LA.lend (lend_whole rfl (by first | (simp; done) | (rw [List.length_map]; rfl))) | refine LA.agg ?_ | refine LA.fn ?_ | refine LA.lend ?_ | exact Lend.d _ | exact Lend.zs _ | exact lend_whole rfl (by first | (simp; done) | (rw [List.length_map]; rfl)) | refine Lend.ptr rfl ?_ | refine Lend.fn ?_ | exact LendL.nil | refine LendL.cons ?_ ?_)) ?_)
  ·
   first | assumption | omega | (simp; done) | (simp; omega)
  ·
   first | assumption | omega | (simp; done) | (simp; omega)
  rintro r h ⟨rfl, rfl⟩
  refine ⟨fun i => 38 + 200 * i, [0], ⟨rfl, rfl, rfl, rfl, rfl, (by first | exact (fun h => absurd h Bool.false_ne_true) | exact (fun _ => ⟨rfl, (noisl_of (by repeat (first | exact trivial | refine ⟨noisl_map (fun _ => rfl), ?_⟩ | refine ⟨?_, ?_⟩)))⟩))⟩, ?_⟩
  skip
  refine ax_q (q_mov rfl) ?_
  refine ax_q (q_ext rfl rfl) ?_
  refine ax_q (q_ext rfl rfl) ?_
  refine ax_q (q_mov rfl) ?_
  refine ax_q (q_mov rfl) ?_
  refine ax_nil ?_
  refine cx_keep rfl rfl ?_
  refine cx_seq ?_
  refine cx_seq ?_
  refine cx_ops ?_
  refine ax_q (q_mov rfl) ?_
  refine ax_q (q_ibin rfl rfl rfl) ?_
  refine ax_q (q_mov rfl) ?_
  apply ax_or rfl rfl
  ·
   intro g
   have g := nF g
   refine ax_q (q_mov rfl) ?_
   refine ax_q (q_mov rfl) ?_
   first | refine ax_call rfl (vc_pure0 (c_sameRows (xs := (fdF l t).1) (ys := (fdF l t).1) ?_ ?_) hP rfl rfl ?_) | refine ax_call rfl (vc_lend0 (c_sameRows (xs := (fdF l t).1) (ys := (fdF l t).1) ?_ ?_) hP (by repeat (first | exact lal_id _ rfl | exact LAL.nil | refine LAL.cons ?_ ?_ | exact la_id _ rfl | exact LA.lend (lend_whole rfl (by first | (simp; done) | (rw [List.length_map]; rfl))) | refine LA.agg ?_ | refine LA.fn ?_ | refine LA.lend ?_ | exact Lend.d _ | exact Lend.zs _ | exact lend_whole rfl (by first | (simp; done) | (rw [List.length_map]; rfl)) | refine Lend.ptr rfl ?_ | refine Lend.fn ?_ | exact LendL.nil | refine LendL.cons ?_ ?_)) rfl rfl ?_)
   ·
    first | assumption | omega | (simp; done) | (simp; omega)
   ·
    first | assumption | omega | (simp; done) | (simp; omega)
   refine ax_q (q_not rfl) ?_
   exact ax_nil ⟨rfl, by repeat (first | exact trivial | refine ⟨rfl, ?_⟩ | refine ⟨?_, ?_⟩)⟩
  refine ax_nil ?_
  refine cx_keep rfl rfl ?_
  refine cx_cond rfl (fun h1 => ?_) (fun h1 => ?_)
  ·
   have h1 := (fun h => (or_T h).imp nT bT) h1
   exfalso
   rcases h1 with h | h
   ·
    rw [hfd] at h; exact h rfl
   ·
    rw [eqb_rfl] at h; cases h
  ·
   have h1 := (fun h => And.intro (nF (or_F h).1) (bF (or_F h).2)) h1
   rw [hfd]
   dsimp only
   refine cx_skip ?_
   refine cx_keep rfl rfl ?_
   refine cx_seq ?_
   refine cx_seq ?_
   refine cx_ops ?_
   refine ax_q (q_mov rfl) ?_
   refine ax_nil ?_
   refine cx_keep rfl rfl ?_
   refine cx_block ?_
   refine cx_loopU (fun n k => k ≤ 6 ∧ n = 6 - k) (fun k : Nat => [(11, int k)]) (fun _ => [(25, .rows 10 (l.map GChange.row)), (32, .rows 7 ((foldF l t l.length).map GRow.row))]) ⟨_, 0, ⟨Nat.zero_le _, rfl⟩, by repeat (first | exact trivial | refine ⟨rfl, ?_⟩ | refine ⟨?_, ?_⟩)⟩ ?_
   rintro n k ⟨hk, rfl⟩
   refine cx_seq ?_
   refine cx_seq ?_
   refine cx_ops ?_
   refine ax_q (q_mov rfl) ?_
   refine ax_q (q_ibin rfl rfl rfl) ?_
   refine ax_nil ?_
   refine cx_keep rfl rfl ?_
   refine cx_cond rfl (fun h2 => ?_) (fun h2 => ?_)
   ·
    have h2 := dT h2
    have hlb := @lastF_b l t (k : Int) l.length
    refine cx_skip ?_
    refine cx_keep rfl rfl ?_
    refine cx_seq ?_
    refine cx_block ?_
    refine cx_seq ?_
    refine cx_ops ?_
    refine ax_q (q_mov rfl) ?_
    refine ax_nil ?_
    refine cx_keep rfl rfl ?_
    refine cx_seq ?_
    refine cx_seq ?_
    refine cx_ops ?_
    refine ax_q (q_mov rfl) ?_
    refine ax_nil ?_
    refine cx_keep rfl rfl ?_
    refine cx_block ?_
    refine cx_loopU (fun n j => j ≤ l.length ∧ n = l.length - j) (fun j : Nat => [(13, int j), (12, int (lastF l t (k : Int) j))]) (fun _ => [(25, .rows 10 (l.map GChange.row)), (32, .rows 7 ((foldF l t l.length).map GRow.row))]) ⟨_, 0, ⟨Nat.zero_le _, rfl⟩, by repeat (first | exact trivial | refine ⟨rfl, ?_⟩ | refine ⟨?_, ?_⟩)⟩ ?_
    rintro n j ⟨hj, rfl⟩
    refine cx_seq ?_
    refine cx_seq ?_
    refine cx_ops ?_
    refine ax_q (q_mov rfl) ?_
    refine ax_q (q_mov rfl) ?_
    first | refine ax_q (q_lenS_map rfl) ?_ | refine ax_q (q_lenS_osl rfl) ?_ | refine ax_q (q_lenS_zs rfl) ?_ | refine ax_q (q_lenS rfl) ?_
    refine ax_q (q_ibin rfl rfl rfl) ?_
    refine ax_nil ?_
    refine cx_keep rfl rfl ?_
    refine cx_cond rfl (fun h3 => ?_) (fun h3 => ?_)
    ·
     have h3 := dT h3
     have h3x : j < l.length := by omega
     refine cx_skip ?_
     refine cx_keep rfl rfl ?_
     refine cx_seq ?_
     refine cx_block ?_
     refine cx_seq ?_
     refine cx_ops ?_
     refine ax_q (q_mov rfl) ?_
     refine ax_q (q_mov rfl) ?_
     first | refine ax_q (q_ix rfl rfl (by assumption)) ?_ | refine ax_q (q_ix rfl rfl (mapAt (by first | assumption | omega))) ?_ | refine ax_q (q_ixo rfl rfl (by first | assumption | omega)) ?_ | refine ax_q (q_ixI rfl rfl (by omega) (mapAt (by first | assumption | omega))) ?_ | refine ax_q (q_ixoI rfl rfl (by omega) (by omega)) ?_
     first | refine ax_q (q_fadr_ptr rfl) ?_ | refine ax_q (q_fadr_rptr rfl) ?_ | refine ax_q (q_fadr_ip rfl) ?_
     first | refine ax_q (q_load1_ptr rfl rfl rfl) ?_ | refine ax_q (q_load1_ip rfl) ?_ | refine ax_q (q_load1_rptr rfl rfl rfl rfl) ?_ | refine ax_q (q_load1_rptr rfl rfl (by assumption) rfl) ?_ | refine ax_q (q_load1_rptr rfl rfl (mapAt (by first | assumption | omega)) rfl) ?_
     refine ax_q (q_mov rfl) ?_
     refine ax_q (q_ibin rfl rfl rfl) ?_
     refine ax_q (q_mov rfl) ?_
     apply ax_and rfl rfl
     ·
      intro g
      have g := dT g
      refine ax_q (q_mov rfl) ?_
      refine ax_q (q_mov rfl) ?_
      first | refine ax_q (q_ix rfl rfl (by assumption)) ?_ | refine ax_q (q_ix rfl rfl (mapAt (by first | assumption | omega))) ?_ | refine ax_q (q_ixo rfl rfl (by first | assumption | omega)) ?_ | refine ax_q (q_ixI rfl rfl (by omega) (mapAt (by first | assumption | omega))) ?_ | refine ax_q (q_ixoI rfl rfl (by omega) (by omega)) ?_
      first | refine ax_q (q_fadr_ptr rfl) ?_ | refine ax_q (q_fadr_rptr rfl) ?_ | refine ax_q (q_fadr_ip rfl) ?_
      first | refine ax_q (q_fadr_ptr rfl) ?_ | refine ax_q (q_fadr_rptr rfl) ?_ | refine ax_q (q_fadr_ip rfl) ?_
      first | refine ax_q (q_load1_ptr rfl rfl rfl) ?_ | refine ax_q (q_load1_ip rfl) ?_ | refine ax_q (q_load1_rptr rfl rfl rfl rfl) ?_ | refine ax_q (q_load1_rptr rfl rfl (by assumption) rfl) ?_ | refine ax_q (q_load1_rptr rfl rfl (mapAt (by first | assumption | omega)) rfl) ?_
      refine ax_q (q_mov rfl) ?_
      refine ax_q (q_ibin rfl rfl rfl) ?_
      exact ax_nil ⟨rfl, by repeat (first | exact trivial | refine ⟨rfl, ?_⟩ | refine ⟨?_, ?_⟩)⟩
     refine ax_nil ?_
     refine cx_keep rfl rfl ?_
     refine cx_cond rfl (fun h4 => ?_) (fun h4 => ?_)
     ·
      have h4 := (fun h => And.intro (dT (and_T h).1) (dT (and_T h).2)) h4
      refine cx_ops ?_
      refine ax_q (q_mov rfl) ?_
      refine ax_q (q_mov rfl) ?_
      refine ax_nil ?_
      refine cx_keep rfl rfl ?_
      refine cx_ops ?_
      refine ax_q (q_mov rfl) ?_
      refine ax_qe (r' := int ((j + 1 : Nat) : Int)) (q_ibin rfl rfl rfl) (by rw [wi (by omega) (by omega)]; rfl) ?_
      refine ax_q (q_mov rfl) ?_
      refine ax_nil ?_
      exact ⟨_, j + 1, by omega, ⟨by omega, rfl⟩, by rw [lastF_succ h3x, if_pos h4]; exact (by repeat (first | exact trivial | refine ⟨rfl, ?_⟩ | refine ⟨?_, ?_⟩))⟩
     ·
      have h4 := (fun h => (and_F h).imp dF dF) h4
      refine cx_skip ?_
      refine cx_keep rfl rfl ?_
      refine cx_ops ?_
      refine ax_q (q_mov rfl) ?_
      refine ax_qe (r' := int ((j + 1 : Nat) : Int)) (q_ibin rfl rfl rfl) (by rw [wi (by omega) (by omega)]; rfl) ?_
      refine ax_q (q_mov rfl) ?_
      refine ax_nil ?_
      exact ⟨_, j + 1, by omega, ⟨by omega, rfl⟩, by rw [lastF_succ h3x, if_neg (by omega)]; exact (by repeat (first | exact trivial | refine ⟨rfl, ?_⟩ | refine ⟨?_, ?_⟩))⟩
    ·
     have h3 := dF h3
     have h3x : j = l.length := by omega
     subst h3x
     refine cx_exit rfl ?_
     refine cx_keep rfl rfl ?_
     refine cx_seq ?_
     refine cx_ops ?_
     refine ax_q (q_mov rfl) ?_
     refine ax_nil ?_
     refine cx_keep rfl rfl ?_
     refine cx_seq ?_
     refine cx_seq ?_
     refine cx_ops ?_
     refine ax_q (q_mov rfl) ?_
     refine ax_nil ?_
     refine cx_keep rfl rfl ?_
     refine cx_block ?_
     refine cx_loopU (fun n j => j ≤ (foldF l t l.length).length ∧ n = (foldF l t l.length).length - j) (fun j : Nat => [(15, int j), (14, bool (foundF (foldF l t l.length) k j))]) (fun _ => [(25, .rows 10 (l.map GChange.row)), (32, .rows 7 ((foldF l t l.length).map GRow.row))]) ⟨_, 0, ⟨Nat.zero_le _, rfl⟩, by repeat (first | exact trivial | refine ⟨rfl, ?_⟩ | refine ⟨?_, ?_⟩)⟩ ?_
     rintro n j ⟨hj, rfl⟩
     refine cx_seq ?_
     refine cx_seq ?_
     refine cx_ops ?_
     refine ax_q (q_mov rfl) ?_
     refine ax_q (q_mov rfl) ?_
     first | refine ax_q (q_lenS_map rfl) ?_ | refine ax_q (q_lenS_osl rfl) ?_ | refine ax_q (q_lenS_zs rfl) ?_ | refine ax_q (q_lenS rfl) ?_
     refine ax_q (q_ibin rfl rfl rfl) ?_
     refine ax_nil ?_
     refine cx_keep rfl rfl ?_
     refine cx_cond rfl (fun h5 => ?_) (fun h5 => ?_)
     ·
      have h5 := dT h5
      have h5x : j < (foldF l t l.length).length := by omega
      refine cx_skip ?_
      refine cx_keep rfl rfl ?_
      refine cx_seq ?_
      refine cx_block ?_
      refine cx_seq ?_
      refine cx_ops ?_
      refine ax_q (q_mov rfl) ?_
      refine ax_q (q_mov rfl) ?_
      first | refine ax_q (q_ix rfl rfl (by assumption)) ?_ | refine ax_q (q_ix rfl rfl (mapAt (by first | assumption | omega))) ?_ | refine ax_q (q_ixo rfl rfl (by first | assumption | omega)) ?_ | refine ax_q (q_ixI rfl rfl (by omega) (mapAt (by first | assumption | omega))) ?_ | refine ax_q (q_ixoI rfl rfl (by omega) (by omega)) ?_
      first | refine ax_q (q_fadr_ptr rfl) ?_ | refine ax_q (q_fadr_rptr rfl) ?_ | refine ax_q (q_fadr_ip rfl) ?_
      first | refine ax_q (q_load1_ptr rfl rfl rfl) ?_ | refine ax_q (q_load1_ip rfl) ?_ | refine ax_q (q_load1_rptr rfl rfl rfl rfl) ?_ | refine ax_q (q_load1_rptr rfl rfl (by assumption) rfl) ?_ | refine ax_q (q_load1_rptr rfl rfl (mapAt (by first | assumption | omega)) rfl) ?_
      refine ax_q (q_mov rfl) ?_
      refine ax_q (q_ibin rfl rfl rfl) ?_
      refine ax_nil ?_
      refine cx_keep rfl rfl ?_
      refine cx_cond rfl (fun h6 => ?_) (fun h6 => ?_)
      ·
       have h6 := dT h6
       obtain ⟨r1, r2⟩ := row_last h5x
       rw [h6] at r1 r2
       refine cx_seq ?_
       refine cx_ops ?_
       refine ax_q (q_mov rfl) ?_
       refine ax_nil ?_
       refine cx_keep rfl rfl ?_
       refine cx_seq ?_
       refine cx_draw ?_
       refine ax_q (q_mov rfl) ?_
       refine ax_q (q_ibin rfl rfl rfl) ?_
       refine ax_q (q_mov rfl) ?_
       apply ax_or rfl rfl
       ·
        intro g
        have g := dF g
        refine ax_q (q_mov rfl) ?_
        refine ax_q (q_mov rfl) ?_
        first | refine ax_q (q_ix rfl rfl (by assumption)) ?_ | refine ax_q (q_ix rfl rfl (mapAt (by first | assumption | omega))) ?_ | refine ax_q (q_ixo rfl rfl (by first | assumption | omega)) ?_ | refine ax_q (q_ixI rfl rfl (by omega) (mapAt (by first | assumption | omega))) ?_ | refine ax_q (q_ixoI rfl rfl (by omega) (by omega)) ?_
        first | refine ax_q (q_ldN rfl rfl rfl) ?_ | refine ax_q (q_loadN_ip rfl (Nat.le_refl _)) ?_ | refine ax_q (q_loadN_ip rfl (by decide)) ?_ | refine ax_q (q_loadN_rptr rfl rfl (by assumption) (by decide)) ?_ | refine ax_q (q_loadN_rptr rfl rfl (mapAt (by first | assumption | omega)) (by decide)) ?_
        refine ax_q (q_mov rfl) ?_
        refine ax_q (q_mov rfl) ?_
        refine ax_q (q_ixoI rfl rfl (by omega) (by omega)) ?_
        first | refine ax_q (q_fadr_ptr rfl) ?_ | refine ax_q (q_fadr_rptr rfl) ?_ | refine ax_q (q_fadr_ip rfl) ?_
        refine ax_q (q_loadN_rptr rfl rfl (chD (by omega)) (by decide)) ?_
        refine ax_qe (r' := bool (!eqb (foldF l t l.length)[j] (lastC l t (k : Int) l.length).Row)) (GRow.q_eqs (a := (foldF l t l.length)[j]) (b := (lastC l t (k : Int) l.length).Row) rfl rfl) (rfl) ?_
        exact ax_nil ⟨rfl, by repeat (first | exact trivial | refine ⟨rfl, ?_⟩ | refine ⟨?_, ?_⟩)⟩
       refine ax_nil ?_
       refine cx_keep rfl rfl ?_
       refine cx_cond rfl (fun h7 => ?_) (fun h7 => ?_)
       ·
        have h7 := or_T h7
        exfalso
        rcases h7 with h | h
        ·
         have := of_decide_eq_true h; omega
        ·
         rw [r2, eqb_rfl] at h; cases h
       ·
        skip
        refine cx_skip ?_
        refine cx_keep rfl rfl ?_
        refine cx_ops ?_
        refine ax_q (q_mov rfl) ?_
        refine ax_qe (r' := int ((j + 1 : Nat) : Int)) (q_ibin rfl rfl rfl) (by rw [wi (by omega) (by omega)]; rfl) ?_
        refine ax_q (q_mov rfl) ?_
        refine ax_nil ?_
        exact ⟨_, j + 1, by omega, ⟨by omega, rfl⟩, by rw [foundF_succ h5x, decide_eq_true h6, Bool.or_true]; exact (by repeat (first | exact trivial | refine ⟨rfl, ?_⟩ | refine ⟨?_, ?_⟩))⟩
      ·
       have h6 := dF h6
       refine cx_skip ?_
       refine cx_keep rfl rfl ?_
       refine cx_ops ?_
       refine ax_q (q_mov rfl) ?_
       refine ax_qe (r' := int ((j + 1 : Nat) : Int)) (q_ibin rfl rfl rfl) (by rw [wi (by omega) (by omega)]; rfl) ?_
       refine ax_q (q_mov rfl) ?_
       refine ax_nil ?_
       exact ⟨_, j + 1, by omega, ⟨by omega, rfl⟩, by rw [foundF_succ h5x, decide_eq_false h6, Bool.or_false]; exact (by repeat (first | exact trivial | refine ⟨rfl, ?_⟩ | refine ⟨?_, ?_⟩))⟩
     ·
      have h5 := dF h5
      have h5x : j = (foldF l t l.length).length := by omega
      subst h5x
      refine cx_exit rfl ?_
      refine cx_keep rfl rfl ?_
      refine cx_seq ?_
      refine cx_ops ?_
      refine ax_q (q_mov rfl) ?_
      refine ax_q (q_mov rfl) ?_
      refine ax_q (q_ibin rfl rfl rfl) ?_
      refine ax_q (q_mov rfl) ?_
      apply ax_and rfl rfl
      ·
       intro g
       have g := dT g
       refine ax_q (q_mov rfl) ?_
       refine ax_q (q_mov rfl) ?_
       refine ax_q (q_ixoI rfl rfl (by omega) (by omega)) ?_
       first | refine ax_q (q_fadr_ptr rfl) ?_ | refine ax_q (q_fadr_rptr rfl) ?_ | refine ax_q (q_fadr_ip rfl) ?_
       refine ax_q (q_load1_rptr rfl rfl (chD (by omega)) rfl) ?_
       refine ax_q (q_not rfl) ?_
       exact ax_nil ⟨rfl, by repeat (first | exact trivial | refine ⟨rfl, ?_⟩ | refine ⟨?_, ?_⟩)⟩
      refine ax_q (q_eqb rfl rfl) ?_
      refine ax_nil ?_
      refine cx_keep rfl rfl ?_
      refine cx_cond rfl (fun h8 => ?_) (fun h8 => ?_)
      ·
       have h8 := bneT h8
       exact absurd found_last h8
      ·
       have h8 := bneF h8
       refine cx_skip ?_
       refine cx_keep rfl rfl ?_
       refine cx_ops ?_
       refine ax_q (q_mov rfl) ?_
       refine ax_qe (r' := int ((k + 1 : Nat) : Int)) (q_ibin rfl rfl rfl) (by rw [wi (by omega) (by omega)]; rfl) ?_
       refine ax_q (q_mov rfl) ?_
       refine ax_nil ?_
       exact ⟨_, k + 1, by omega, ⟨by omega, rfl⟩, by repeat (first | exact trivial | refine ⟨rfl, ?_⟩ | refine ⟨?_, ?_⟩)⟩
   ·
    have h2 := dF h2
    refine cx_exit rfl ?_
    refine cx_keep rfl rfl ?_
    refine cx_seq ?_
    refine cx_ops ?_
    refine ax_q (q_mov rfl) ?_
    refine ax_nil ?_
    refine cx_keep rfl rfl ?_
    refine cx_ret (ret0 rfl rfl ?_)
    exact ⟨rfl, rfl⟩

theorem own : ownKnob Try.prog.godebug = none := by kernel_rfl
theorem laid : laidOutB Try.prog = true := by kernel_rfl
theorem closedTs : closedT Try.prog [5, 22] = true := by kernel_rfl
theorem con (rows : List (List D)) (h : HasAll Try.prog Try.f3.params.toList rows) : Con Try.prog noMv 3 (argsAV Try.prog Try.f3.params.toList rows) [] (fun r h => r = AM.bool true ∧ h = []) := by
  rw [Try.params3] at h ⊢
  obtain ⟨d0, r0, rfl, h0, h⟩ := h
  obtain ⟨d1, r1, rfl, h1, h⟩ := h
  obtain rfl := h
  obtain ⟨a0, rfl, w0⟩ := (dec_slice (sz := 1) Try.underlying22 (by kernel_rfl) (dec_byte Try.underlying5)) h0
  obtain ⟨a1, rfl, w1⟩ := (dec_slice (sz := 1) Try.underlying22 (by kernel_rfl) (dec_byte Try.underlying5)) h1
  have e : argsAV Try.prog [22, 22] [[.sl 1 (a0.map byteRow)], [.sl 1 (a1.map byteRow)]] = [.d (.sl 1 (a0.map byteRow)), .d (.sl 1 (a1.map byteRow))] := by
    first | (simp only [argsAV, argAV, Try.underlying22]; done) | (simp only [argsAV, argAV, Try.underlying22]; rfl)
  show Con Try.prog noMv 3 (argsAV Try.prog [22, 22] [[.sl 1 (a0.map byteRow)], [.sl 1 (a1.map byteRow)]]) [] _
  rw [e]
  exact c_FnFold w0 w1
set_option maxRecDepth 100000 in
theorem lifted (os : Os) (started : os.Started) (H : Type) (enc : TypeId × Value → H) :
    ReturnsInHanded {} Try.checked os 3 .any (Rows.fnFoldSpec.pre6 enc Try.prog Try.f3 Rows.fnFoldRow.domain false) (Rows.fnFoldSpec.post enc Try.prog Try.f3 false true false false) := by
  refine returnsInHanded_of_change (C := Try.checked) own started (by kernel_rfl) Try.func3
    (ChangeSpec.witness6 (enc := enc) (C := Try.checked) false ⟨#[], #[.slice none 0 0, .slice none 0 0], []⟩ 8 (by kernel_rfl) (by kernel_rfl) (by kernel_rfl) (by kernel_rfl)) ?_
  intro W base args ds gs before hval hW hcnd _
  refine law_contract closedTs laid (by kernel_rfl) rfl rfl Try.underlying4 con (fun hl => ?_) hval hW
  match ds, hl with
  | [x0, x1], _ => rfl
theorem over : Rows.fnFoldRow.holds Try.pinned (OpenSpec.ofChange Rows.fnFoldSpec) :=
  OpenClaim.holds_of_wide 3 Try.f3 rfl rfl rfl rfl rfl rfl rfl ⟨rfl, rfl, rfl, rfl, rfl⟩ rfl rfl rfl rfl rfl (by kernel_rfl) Try.func3 (by kernel_rfl)
    (of_decide_eq_true (by kernel_rfl)) (by unfold Func.isWrapper; first | (rw [if_pos (by decide +kernel)]; kernel_rfl) | (rw [if_neg (by decide +kernel)]; exact ⟨rfl, rfl⟩))
    (fun os started H enc _ => lifted os started H enc)
theorem proved : Rows.FnFoldSaid := over
end fnFold
end Go.Proofs.Ytkingadnnilgiaa
#print axioms Go.Proofs.Ytkingadnnilgiaa.fnFold.proved
