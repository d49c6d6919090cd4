/- The law FnExactRunCode of the given program returns true for all arguments, and its arguments read behind the call as they read before: the statement FnExactRunCodeSaid, with no condition. -/
import Derived.Test.YtalnddcijlkklaaW2
import Derived.Test.YtalnddcijlkklaaRows
namespace Go.Proofs.Ytalnddcijlkklaa
open Go Go.AM Go.ChangeShapes Go.RowKit
set_option linter.unusedVariables false
set_option linter.unusedSimpArgs false
namespace fnExactRunCode
set_option maxRecDepth 10000
/- loop.example/g00332/laws.FnExactRunCode -/
def k_c_FnExactRunCode : XCode :=
  .seq (.ops [.op (some 3) (.box (.t 1)),
     .op (some 4) (.mov (.k (.bool false)))])
  (.keep [0, 3] (.seq (.ops [.op (some 5) (.mov (.k (.int .i64 1048576)))])
  (.keep [0, 3, 5] (.seq (.ops [.op (some 11) (.mov (.t 0)),
     .op (some 12) (.mov (.t 5)),
     .call (some 13) 10 [.t 11, .t 12],
     .op (some 5) (.mov (.t 13))])
  (.keep [0, 3, 5] (.seq (.seq (.ops [.op (some 14) (.mov (.t 5)),
      .op (some 15) (.bin .lss (.t 14) (.k (.int .i64 0)))])
   (.keep [0, 3, 5, 15] (.cond (.t 15)
    (.seq (.ops [.op (some 4) (.mov (.k (.bool true)))])
     (.keep [4] (.ret)))
    (.skip))))
  (.keep [0, 3, 5] (.seq (.ops [.op (some 16) (.loadN 7 (.t 3)),
     .op (some 17) (.mov (.t 5)),
     .call (some 18) 30 [.t 16, .t 17],
     .op (some 5) (.mov (.t 18))])
  (.keep [0, 3, 5] (.seq (.seq (.ops [.op (some 19) (.mov (.t 5)),
      .op (some 20) (.bin .lss (.t 19) (.k (.int .i64 0)))])
   (.keep [0, 3, 20] (.cond (.t 20)
    (.seq (.ops [.op (some 4) (.mov (.k (.bool true)))])
     (.keep [4] (.ret)))
    (.skip))))
  (.keep [0, 3] (.seq (.drawE [[], [0], [], [0, 1, 2], [0, 1, 2, 3], [0, 1, 2, 3, 4], [0, 1, 2, 3, 4, 5], [0, 1, 2, 3, 4, 5], [], [0, 1, 2, 3, 4, 5, 6, 8], [0, 1, 2, 3, 4, 5, 6, 7, 8, 9]] [.op (some 22) (.mov (.t 0)),
     .call (some 23) 12 [.t 22],
     .op (some 24) (.loadN 7 (.t 3)),
     .call (some 25) 32 [.t 24],
     .call (some 26) 35 [.t 23, .t 25],
     .op (some 21) (.mov (.t 26)),
     .op (some 27) (.ext (.t 21) 0),
     .op (some 28) (.ext (.t 21) 1),
     .op (some 6) (.alloc [.int .i64 0, .int .i64 0, .str []]),
     .op none (.store 3 (.t 6) (.t 27))]
    [.op (some 7) (.mov (.t 28))])
  (.keep [0, 3, 6, 7] (.seq (.ops [.op (some 29) (.mov (.t 0)),
     .call (some 30) 12 [.t 29],
     .op (some 8) (.mov (.t 30))])
  (.keep [0, 3, 6, 7, 8] (.seq (.ops [.op (some 32) (.mov (.t 8)),
     .op (some 33) (.loadN 7 (.t 3)),
     .call (some 34) 32 [.t 33],
     .call (some 35) 36 [.t 32, .t 34],
     .op (some 31) (.mov (.t 35)),
     .op (some 36) (.ext (.t 31) 0),
     .op (some 37) (.ext (.t 31) 1),
     .op (some 9) (.alloc [.int .i64 0, .int .i64 0, .str []]),
     .op none (.store 3 (.t 9) (.t 36)),
     .op (some 10) (.mov (.t 37))])
  (.keep [0, 6, 7, 8, 9, 10] (.seq (.seq (.ops [.op (some 38) (.loadN 3 (.t 9)),
      .op (some 39) (.loadN 3 (.t 6)),
      .call (some 40) 34 [.t 38, .t 39],
      .op (some 41) (.not (.t 40)),
      .op (some 42) (.mov (.t 41)),
      .andor 46 false 4 42 [.op (some 43) (.mov (.t 10)), .op (some 44) (.mov (.t 7)), .op (some 45) (.bin .neq (.t 43) (.t 44))] (.t 45)])
   (.keep [0, 8, 46] (.cond (.t 46)
    (.seq (.ops [.op (some 4) (.mov (.k (.bool false)))])
     (.keep [4] (.ret)))
    (.skip))))
  (.keep [0, 8] (.seq (.seq (.ops [.op (some 47) (.mov (.t 8)),
      .op (some 48) (.mov (.t 0)),
      .call (some 49) 12 [.t 48],
      .call (some 50) 14 [.t 47, .t 49],
      .op (some 51) (.not (.t 50))])
   (.keep [51] (.cond (.t 51)
    (.seq (.ops [.op (some 4) (.mov (.k (.bool false)))])
     (.keep [4] (.ret)))
    (.skip))))
  (.keep [] (.seq (.ops [.op (some 4) (.mov (.k (.bool true)))])
  (.keep [4] (.ret))))))))))))))))))))))))
theorem k_c_FnExactRunCode_fits : fitsF Try.prog 8 ⟨52, k_c_FnExactRunCode, [.t 4]⟩ = true := by kernel_rfl
theorem c_FnExactRunCode {l : List GIns} {w : GRow} (wl : wfL GIns.wf l) (ww : w.wf) : Con Try.prog noMv 8 [.d (.sl 5 (l.map GIns.row)), w.av] [] (fun r h => r = bool true ∧ h = []) := by
  refine con_of2 k_c_FnExactRunCode_fits rfl fun C hP hmv => ?_
  unfold k_c_FnExactRunCode
  refine cx_seq ?_
  refine cx_ops ?_
  refine ax_e (e_box rfl rfl (by decide) rfl rfl rfl) ?_
  refine ax_q (q_mov rfl) ?_
  refine ax_nil ?_
  refine cx_keep rfl rfl ?_
  refine cx_seq ?_
  refine cx_ops ?_
  refine ax_q (q_mov rfl) ?_
  refine ax_nil ?_
  refine cx_keep rfl rfl ?_
  refine cx_seq ?_
  refine cx_ops ?_
  refine ax_q (q_mov rfl) ?_
  refine ax_q (q_mov rfl) ?_
  have sp0 := szF_spec (1048576) (szL GIns.sz l)
  refine ax_call rfl (vc_pure0 (c_szInsS (by omega) (by omega) wl) hP rfl rfl ?_)
  refine ax_q (q_mov rfl) ?_
  refine ax_nil ?_
  refine cx_keep rfl rfl ?_
  refine cx_seq ?_
  refine cx_seq ?_
  refine cx_ops ?_
  refine ax_q (q_mov rfl) ?_
  refine ax_q (q_ibin rfl rfl rfl) ?_
  refine ax_nil ?_
  refine cx_keep rfl rfl ?_
  refine cx_cond rfl (fun h0 => ?_) (fun h0 => ?_)
  · have h0 := dT h0
    refine cx_seq ?_
    refine cx_ops ?_
    refine ax_q (q_mov rfl) ?_
    refine ax_nil ?_
    refine cx_keep rfl rfl ?_
    refine cx_ret (ret0 rfl rfl ?_)
    exact ⟨rfl, rfl⟩
  · have h0 := dF h0
    have ll0 : l.length ≤ 1048576 := by
      have := @szL_len _ GIns.sz (l)
      omega
    refine cx_skip ?_
    refine cx_keep rfl rfl ?_
    refine cx_seq ?_
    refine cx_ops ?_
    first | refine ax_q (q_ldN rfl rfl rfl) ?_ | refine ax_q (q_loadN_ip rfl (Nat.le_refl _)) ?_ | refine ax_q (q_loadN_ip rfl (by decide)) ?_ | refine ax_q (q_loadN_rptr rfl rfl (by assumption) (by decide)) ?_ | refine ax_q (q_loadN_rptr rfl rfl (mapAt (by first | assumption | omega)) (by decide)) ?_
    refine ax_q (q_mov rfl) ?_
    have sp1 := szF_spec (szF (1048576) (szL GIns.sz l)) (GRow.sz w)
    refine ax_call rfl (vc_pure0 (c_szRow (by omega) (by omega) ww) hP rfl rfl ?_)
    refine ax_q (q_mov rfl) ?_
    refine ax_nil ?_
    refine cx_keep rfl rfl ?_
    refine cx_seq ?_
    refine cx_seq ?_
    refine cx_ops ?_
    refine ax_q (q_mov rfl) ?_
    refine ax_q (q_ibin rfl rfl rfl) ?_
    refine ax_nil ?_
    refine cx_keep rfl rfl ?_
    refine cx_cond rfl (fun h1 => ?_) (fun h1 => ?_)
    · have h1 := dT h1
      refine cx_seq ?_
      refine cx_ops ?_
      refine ax_q (q_mov rfl) ?_
      refine ax_nil ?_
      refine cx_keep rfl rfl ?_
      refine cx_ret (ret0 rfl rfl ?_)
      exact ⟨rfl, rfl⟩
    · have h1 := dF h1
      skip
      have hw := ins_sz (l := l) (n := 1048576) (by omega)
      have hv := hw.2
      have hw := hw.1
      have hrz : w.sz = w.N.T.length + w.Name.T.length := rfl
      have hr1 : w.N.T.length ≤ 1048576 := by omega
      have hr2 : w.Name.T.length ≤ 1048576 := by omega
      refine cx_skip ?_
      refine cx_keep rfl rfl ?_
      refine cx_seq ?_
      refine cx_drawL 9 5000 (fun _ => false) (fun _ => true) [] ([(6, .box [.d (.int .i64 (rcF l w).1.Kind), .d (.int .i64 (rcF l w).1.N), .d (.str (rcF l w).1.T)])]) [[0], [22], [3], [24], [23, 25], [26], [21], [21], [], [6, 27]] [[], [], [], [], [], [], [], [6], [], [6]] rfl ?_
      first | refine ⟨_, .inr ⟨rfl, _, rfl, .inl rfl, loc_q (q_mov rfl)⟩, ?_⟩
      first | refine ⟨_, .inr ⟨rfl, _, rfl, .inl rfl, loc_call (fun i => 23 + 200 * i) false rfl (c_toInsS  (by first | assumption | omega | (simp; done) | (simp; omega))) hP (.inr ⟨rfl, rfl, rfl⟩) rfl rfl (fun h => by cases h)⟩, ?_⟩ | refine ⟨_, .inr ⟨rfl, _, rfl, .inl rfl, loc_call (fun i => 23 + 200 * i) true rfl (c_toInsS  (by first | assumption | omega | (simp; done) | (simp; omega))) hP (.inl ⟨rfl, (by repeat (first | exact lal_id _ rfl | exact LAL.nil | refine LAL.cons ?_ ?_ | exact la_id _ rfl | exact LA.lend (lend_whole rfl (by first | (simp; done) | (rw [List.length_map]; rfl))) | refine LA.agg ?_ | refine LA.fn ?_ | refine LA.lend ?_ | exact Lend.d _ | exact Lend.zs _ | exact lend_whole rfl (by first | (simp; done) | (rw [List.length_map]; rfl)) | refine Lend.ptr rfl ?_ | refine Lend.fn ?_ | exact LendL.nil | refine LendL.cons ?_ ?_))⟩) rfl rfl (fun _ => ⟨rfl, noisl_of (by repeat (first | exact trivial | refine ⟨noisl_map (fun _ => rfl), ?_⟩ | refine ⟨?_, ?_⟩))⟩)⟩, ?_⟩
      first | refine ⟨_, .inr ⟨rfl, _, rfl, .inl rfl, loc_q (q_ldN rfl rfl rfl)⟩, ?_⟩ | refine ⟨_, .inr ⟨rfl, _, rfl, .inl rfl, loc_q (q_loadN_ip rfl (Nat.le_refl _))⟩, ?_⟩ | refine ⟨_, .inr ⟨rfl, _, rfl, .inl rfl, loc_q (q_loadN_ip rfl (by decide))⟩, ?_⟩ | refine ⟨_, .inr ⟨rfl, _, rfl, .inl rfl, loc_q (q_loadN_rptr rfl rfl (by assumption) (by decide))⟩, ?_⟩ | refine ⟨_, .inr ⟨rfl, _, rfl, .inl rfl, loc_q (q_loadN_rptr rfl rfl (mapAt (by first | assumption | omega)) (by decide))⟩, ?_⟩
      first | refine ⟨_, .inr ⟨rfl, _, rfl, .inl rfl, loc_call (fun i => 25 + 200 * i) false rfl (c_toRow  ) hP (.inr ⟨rfl, rfl, rfl⟩) rfl rfl (fun h => by cases h)⟩, ?_⟩ | refine ⟨_, .inr ⟨rfl, _, rfl, .inl rfl, loc_call (fun i => 25 + 200 * i) true rfl (c_toRow  ) hP (.inl ⟨rfl, (by repeat (first | exact lal_id _ rfl | exact LAL.nil | refine LAL.cons ?_ ?_ | exact la_id _ rfl | exact LA.lend (lend_whole rfl (by first | (simp; done) | (rw [List.length_map]; rfl))) | refine LA.agg ?_ | refine LA.fn ?_ | refine LA.lend ?_ | exact Lend.d _ | exact Lend.zs _ | exact lend_whole rfl (by first | (simp; done) | (rw [List.length_map]; rfl)) | refine Lend.ptr rfl ?_ | refine Lend.fn ?_ | exact LendL.nil | refine LendL.cons ?_ ?_))⟩) rfl rfl (fun _ => ⟨rfl, noisl_of (by repeat (first | exact trivial | refine ⟨noisl_map (fun _ => rfl), ?_⟩ | refine ⟨?_, ?_⟩))⟩)⟩, ?_⟩
      first | refine ⟨_, .inr ⟨rfl, _, rfl, .inl rfl, loc_call (fun i => 26 + 200 * i) false rfl (c_sRunCode (l := l) (w := w) (by first | assumption | omega | (simp; done) | (simp; omega)) (by first | assumption | omega | (simp; done) | (simp; omega)) (by first | assumption | omega | (simp; done) | (simp; omega)) (by first | assumption | omega | (simp; done) | (simp; omega))) hP (.inr ⟨rfl, rfl, rfl⟩) rfl rfl (fun h => by cases h)⟩, ?_⟩ | refine ⟨_, .inr ⟨rfl, _, rfl, .inl rfl, loc_call (fun i => 26 + 200 * i) true rfl (c_sRunCode (l := l) (w := w) (by first | assumption | omega | (simp; done) | (simp; omega)) (by first | assumption | omega | (simp; done) | (simp; omega)) (by first | assumption | omega | (simp; done) | (simp; omega)) (by first | assumption | omega | (simp; done) | (simp; omega))) hP (.inl ⟨rfl, (by repeat (first | exact lal_id _ rfl | exact LAL.nil | refine LAL.cons ?_ ?_ | exact la_id _ rfl | exact LA.lend (lend_whole rfl (by first | (simp; done) | (rw [List.length_map]; rfl))) | refine LA.agg ?_ | refine LA.fn ?_ | refine LA.lend ?_ | exact Lend.d _ | exact Lend.zs _ | exact lend_whole rfl (by first | (simp; done) | (rw [List.length_map]; rfl)) | refine Lend.ptr rfl ?_ | refine Lend.fn ?_ | exact LendL.nil | refine LendL.cons ?_ ?_))⟩) rfl rfl (fun _ => ⟨rfl, noisl_of (by repeat (first | exact trivial | refine ⟨noisl_map (fun _ => rfl), ?_⟩ | refine ⟨?_, ?_⟩))⟩)⟩, ?_⟩
      first | refine ⟨_, .inr ⟨rfl, _, rfl, .inl rfl, loc_q (q_mov rfl)⟩, ?_⟩
      first | refine ⟨_, .inr ⟨rfl, _, rfl, .inl rfl, loc_q (q_ext rfl rfl)⟩, ?_⟩
      first | refine ⟨_, .inr ⟨rfl, _, rfl, .inr ⟨rfl, rfl, .inr rfl, rfl, rfl⟩, loc_q (q_ext rfl rfl)⟩, ?_⟩
      first | refine ⟨_, .inr ⟨rfl, _, rfl, .inl rfl, loc_alloc⟩, ?_⟩
      refine ⟨⟨5000, .dead, []⟩, .inl ⟨rfl, rfl, rfl, locl_st rfl rfl rfl rfl rfl rfl rfl⟩, ?_⟩
      refine ⟨rfl, ?_⟩
      refine ax_q (q_mov rfl) ?_
      refine ax_nil ?_
      refine cx_keep rfl rfl ?_
      refine cx_seq ?_
      refine cx_ops ?_
      refine ax_q (q_mov rfl) ?_
      first | refine ax_call rfl (vc_pure (c_toInsS  ?_) hP rfl ?_) | refine ax_call rfl (vc_lend (c_toInsS  ?_) hP (by repeat (first | exact lal_id _ rfl | exact LAL.nil | refine LAL.cons ?_ ?_ | exact la_id _ rfl | exact LA.lend (lend_whole rfl (by first | (simp; done) | (rw [List.length_map]; rfl))) | refine LA.agg ?_ | refine LA.fn ?_ | refine LA.lend ?_ | exact Lend.d _ | exact Lend.zs _ | exact lend_whole rfl (by first | (simp; done) | (rw [List.length_map]; rfl)) | refine Lend.ptr rfl ?_ | refine Lend.fn ?_ | exact LendL.nil | refine LendL.cons ?_ ?_)) ?_)
      · first | assumption | omega | (simp; done) | (simp; omega)
      rintro r h ⟨rfl, rfl⟩
      refine ⟨fun i => 30 + 200 * i, [0], ⟨rfl, rfl, rfl, rfl, rfl, (by first | exact (fun h => absurd h Bool.false_ne_true) | exact (fun _ => ⟨rfl, (noisl_of (by repeat (first | exact trivial | refine ⟨noisl_map (fun _ => rfl), ?_⟩ | refine ⟨?_, ?_⟩)))⟩))⟩, ?_⟩
      skip
      refine ax_q (q_mov rfl) ?_
      refine ax_nil ?_
      refine cx_keep rfl rfl ?_
      refine cx_seq ?_
      refine cx_ops ?_
      refine ax_q (q_mov rfl) ?_
      first | refine ax_q (q_ldN rfl rfl rfl) ?_ | refine ax_q (q_loadN_ip rfl (Nat.le_refl _)) ?_ | refine ax_q (q_loadN_ip rfl (by decide)) ?_ | refine ax_q (q_loadN_rptr rfl rfl (by assumption) (by decide)) ?_ | refine ax_q (q_loadN_rptr rfl rfl (mapAt (by first | assumption | omega)) (by decide)) ?_
      first | refine ax_call rfl (vc_pure0 (c_toRow  ) hP rfl rfl ?_) | refine ax_call rfl (vc_lend0 (c_toRow  ) hP (by repeat (first | exact lal_id _ rfl | exact LAL.nil | refine LAL.cons ?_ ?_ | exact la_id _ rfl | exact LA.lend (lend_whole rfl (by first | (simp; done) | (rw [List.length_map]; rfl))) | refine LA.agg ?_ | refine LA.fn ?_ | refine LA.lend ?_ | exact Lend.d _ | exact Lend.zs _ | exact lend_whole rfl (by first | (simp; done) | (rw [List.length_map]; rfl)) | refine Lend.ptr rfl ?_ | refine Lend.fn ?_ | exact LendL.nil | refine LendL.cons ?_ ?_)) rfl rfl ?_)
      first | refine ax_call rfl (vc_pure0 (c_RunCode (l := l) (w := w) ?_ ?_ ?_ ?_) hP rfl rfl ?_) | refine ax_call rfl (vc_lend0 (c_RunCode (l := l) (w := w) ?_ ?_ ?_ ?_) hP (by repeat (first | exact lal_id _ rfl | exact LAL.nil | refine LAL.cons ?_ ?_ | exact la_id _ rfl | exact LA.lend (lend_whole rfl (by first | (simp; done) | (rw [List.length_map]; rfl))) | refine LA.agg ?_ | refine LA.fn ?_ | refine LA.lend ?_ | exact Lend.d _ | exact Lend.zs _ | exact lend_whole rfl (by first | (simp; done) | (rw [List.length_map]; rfl)) | refine Lend.ptr rfl ?_ | refine Lend.fn ?_ | exact LendL.nil | refine LendL.cons ?_ ?_)) rfl rfl ?_)
      · first | assumption | omega | (simp; done) | (simp; omega)
      · first | assumption | omega | (simp; done) | (simp; omega)
      · first | assumption | omega | (simp; done) | (simp; omega)
      · first | assumption | omega | (simp; done) | (simp; omega)
      refine ax_q (q_mov rfl) ?_
      refine ax_q (q_ext rfl rfl) ?_
      refine ax_q (q_ext rfl rfl) ?_
      refine ax_e (e_alloc (by decide) rfl rfl) ?_
      refine ax_e (e_st rfl rfl rfl rfl rfl rfl rfl) ?_
      refine ax_q (q_mov rfl) ?_
      refine ax_nil ?_
      refine cx_keep rfl rfl ?_
      refine cx_seq ?_
      refine cx_seq ?_
      refine cx_ops ?_
      first | refine ax_q (q_ldN rfl rfl rfl) ?_ | refine ax_q (q_loadN_ip rfl (Nat.le_refl _)) ?_ | refine ax_q (q_loadN_ip rfl (by decide)) ?_ | refine ax_q (q_loadN_rptr rfl rfl (by assumption) (by decide)) ?_ | refine ax_q (q_loadN_rptr rfl rfl (mapAt (by first | assumption | omega)) (by decide)) ?_
      first | refine ax_q (q_ldN rfl rfl rfl) ?_ | refine ax_q (q_loadN_ip rfl (Nat.le_refl _)) ?_ | refine ax_q (q_loadN_ip rfl (by decide)) ?_ | refine ax_q (q_loadN_rptr rfl rfl (by assumption) (by decide)) ?_ | refine ax_q (q_loadN_rptr rfl rfl (mapAt (by first | assumption | omega)) (by decide)) ?_
      first | refine ax_call rfl (vc_pure0 (c_eqValue  ) hP rfl rfl ?_) | refine ax_call rfl (vc_lend0 (c_eqValue  ) hP (by repeat (first | exact lal_id _ rfl | exact LAL.nil | refine LAL.cons ?_ ?_ | exact la_id _ rfl | exact LA.lend (lend_whole rfl (by first | (simp; done) | (rw [List.length_map]; rfl))) | refine LA.agg ?_ | refine LA.fn ?_ | refine LA.lend ?_ | exact Lend.d _ | exact Lend.zs _ | exact lend_whole rfl (by first | (simp; done) | (rw [List.length_map]; rfl)) | refine Lend.ptr rfl ?_ | refine Lend.fn ?_ | exact LendL.nil | refine LendL.cons ?_ ?_)) rfl rfl ?_)
      refine ax_q (q_not rfl) ?_
      refine ax_q (q_mov rfl) ?_
      apply ax_or rfl rfl
      · intro g
        have g := bF g
        refine ax_q (q_mov rfl) ?_
        refine ax_q (q_mov rfl) ?_
        refine ax_q (q_ibin rfl rfl rfl) ?_
        exact ax_nil ⟨rfl, by repeat (first | exact trivial | refine ⟨rfl, ?_⟩ | refine ⟨?_, ?_⟩)⟩
      refine ax_nil ?_
      refine cx_keep rfl rfl ?_
      refine cx_cond rfl (fun h2 => ?_) (fun h2 => ?_)
      · have h2 := (fun h => (or_T h).imp bT nT) h2
        first | exact absurd rfl h2 | (exfalso; omega) | exact absurd h2 (by simp [eqb_rfl] <;> omega)
      · have h2 := (fun h => And.intro (bF (or_F h).1) (nF (or_F h).2)) h2
        refine cx_skip ?_
        refine cx_keep rfl rfl ?_
        refine cx_seq ?_
        refine cx_seq ?_
        refine cx_ops ?_
        refine ax_q (q_mov rfl) ?_
        refine ax_q (q_mov rfl) ?_
        first | refine ax_call rfl (vc_pure (c_toInsS  ?_) hP rfl ?_) | refine ax_call rfl (vc_lend (c_toInsS  ?_) hP (by repeat (first | exact lal_id _ rfl | exact LAL.nil | refine LAL.cons ?_ ?_ | exact la_id _ rfl | exact LA.lend (lend_whole rfl (by first | (simp; done) | (rw [List.length_map]; rfl))) | refine LA.agg ?_ | refine LA.fn ?_ | refine LA.lend ?_ | exact Lend.d _ | exact Lend.zs _ | exact lend_whole rfl (by first | (simp; done) | (rw [List.length_map]; rfl)) | refine Lend.ptr rfl ?_ | refine Lend.fn ?_ | exact LendL.nil | refine LendL.cons ?_ ?_)) ?_)
        · first | assumption | omega | (simp; done) | (simp; omega)
        rintro r h ⟨rfl, rfl⟩
        refine ⟨fun i => 49 + 200 * i, [0], ⟨rfl, rfl, rfl, rfl, rfl, (by first | exact (fun h => absurd h Bool.false_ne_true) | exact (fun _ => ⟨rfl, (noisl_of (by repeat (first | exact trivial | refine ⟨noisl_map (fun _ => rfl), ?_⟩ | refine ⟨?_, ?_⟩)))⟩))⟩, ?_⟩
        skip
        first | refine ax_call rfl (vc_pure0 (c_eqInsS  ?_) hP rfl rfl ?_) | refine ax_call rfl (vc_lend0 (c_eqInsS  ?_) hP (by repeat (first | exact lal_id _ rfl | exact LAL.nil | refine LAL.cons ?_ ?_ | exact la_id _ rfl | exact LA.lend (lend_whole rfl (by first | (simp; done) | (rw [List.length_map]; rfl))) | refine LA.agg ?_ | refine LA.fn ?_ | refine LA.lend ?_ | exact Lend.d _ | exact Lend.zs _ | exact lend_whole rfl (by first | (simp; done) | (rw [List.length_map]; rfl)) | refine Lend.ptr rfl ?_ | refine Lend.fn ?_ | exact LendL.nil | refine LendL.cons ?_ ?_)) rfl rfl ?_)
        · first | assumption | omega | (simp; done) | (simp; omega)
        refine ax_q (q_not rfl) ?_
        refine ax_nil ?_
        refine cx_keep rfl rfl ?_
        refine cx_cond rfl (fun h3 => ?_) (fun h3 => ?_)
        · have h3 := bT h3
          first | exact absurd rfl h3 | (exfalso; omega) | exact absurd h3 (by simp [eqb_rfl] <;> omega)
        · have h3 := bF h3
          refine cx_skip ?_
          refine cx_keep rfl rfl ?_
          refine cx_seq ?_
          refine cx_ops ?_
          refine ax_q (q_mov rfl) ?_
          refine ax_nil ?_
          refine cx_keep rfl rfl ?_
          refine cx_ret (ret0 rfl rfl ?_)
          exact ⟨rfl, rfl⟩

theorem own : ownKnob Try.prog.godebug = none := by kernel_rfl
theorem laid : laidOutB Try.prog = true := by kernel_rfl
theorem closedTs : closedT Try.prog [3, 9, 22, 32, 34, 75] = true := by kernel_rfl
theorem con (rows : List (List D)) (h : HasAll Try.prog Try.f8.params.toList rows) : Con Try.prog noMv 8 (argsAV Try.prog Try.f8.params.toList rows) [] (fun r h => r = AM.bool true ∧ h = []) := by
  rw [Try.params8] at h ⊢
  obtain ⟨d0, r0, rfl, h0, h⟩ := h
  obtain ⟨d1, r1, rfl, h1, h⟩ := h
  obtain rfl := h
  obtain ⟨a0, rfl, w0⟩ := (dec_slice (sz := 5) Try.underlying22 (by kernel_rfl) (GIns.dec Try.underlying75 rfl (dec_int Try.underlying3) (dec_int Try.underlying3) (GValue.dec Try.underlying32 rfl (dec_int Try.underlying3) (dec_int Try.underlying3) (dec_str Try.underlying9)))) h0
  obtain ⟨a1, rfl, w1⟩ := (GRow.dec Try.underlying34 rfl (dec_int Try.underlying3) (GValue.dec Try.underlying32 rfl (dec_int Try.underlying3) (dec_int Try.underlying3) (dec_str Try.underlying9)) (GValue.dec Try.underlying32 rfl (dec_int Try.underlying3) (dec_int Try.underlying3) (dec_str Try.underlying9))) h1
  have e : argsAV Try.prog [22, 34] [[.sl 5 (a0.map GIns.row)], GRow.row a1] = [.d (.sl 5 (a0.map GIns.row)), a1.av] := by
    first | (simp only [argsAV, argAV, Try.underlying22, Try.underlying34]; done) | (simp only [argsAV, argAV, Try.underlying22, Try.underlying34]; rfl)
  show Con Try.prog noMv 8 (argsAV Try.prog [22, 34] [[.sl 5 (a0.map GIns.row)], GRow.row a1]) [] _
  rw [e]
  exact c_FnExactRunCode w0 w1
set_option maxRecDepth 100000 in
theorem lifted (os : Os) (started : os.Started) (H : Type) (enc : TypeId × Value → H) :
    ReturnsInHanded {} Try.checked os 8 .any (Rows.fnExactRunCodeSpec.pre6 enc Try.prog Try.f8 Rows.fnExactRunCodeRow.domain false) (Rows.fnExactRunCodeSpec.post enc Try.prog Try.f8 false true false false) := by
  refine returnsInHanded_of_change (C := Try.checked) own started (by kernel_rfl) Try.func8
    (ChangeSpec.witness6 (enc := enc) (C := Try.checked) false ⟨#[], #[.slice none 0 0, .agg #[.int .i64 0, .int .i64 0, .int .i64 0, .string ⟨#[]⟩, .int .i64 0, .int .i64 0, .string ⟨#[]⟩]], []⟩ 8 (by kernel_rfl) (by kernel_rfl) (by kernel_rfl) (by kernel_rfl)) ?_
  intro W base args ds gs before hval hW hcnd _
  refine law_contract closedTs laid (by kernel_rfl) rfl rfl Try.underlying4 con (fun hl => ?_) hval hW
  match ds, hl with
  | [x0, x1], _ => rfl
theorem over : Rows.fnExactRunCodeRow.holds Try.pinned (OpenSpec.ofChange Rows.fnExactRunCodeSpec) :=
  OpenClaim.holds_of_wide 8 Try.f8 rfl rfl rfl rfl rfl rfl rfl ⟨rfl, rfl, rfl, rfl, rfl⟩ rfl rfl rfl rfl rfl (by kernel_rfl) Try.func8 (by kernel_rfl)
    (of_decide_eq_true (by kernel_rfl)) (by unfold Func.isWrapper; first | (rw [if_pos (by decide +kernel)]; kernel_rfl) | (rw [if_neg (by decide +kernel)]; exact ⟨rfl, rfl⟩))
    (fun os started H enc _ => lifted os started H enc)
theorem proved : Rows.FnExactRunCodeSaid := over
end fnExactRunCode
end Go.Proofs.Ytalnddcijlkklaa
#print axioms Go.Proofs.Ytalnddcijlkklaa.fnExactRunCode.proved
