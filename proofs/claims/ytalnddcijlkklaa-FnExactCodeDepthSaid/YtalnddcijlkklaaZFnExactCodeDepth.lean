/- The law FnExactCodeDepth of the given program returns true for all arguments, and its arguments read behind the call as they read before: the statement FnExactCodeDepthSaid, with no condition. -/
import Derived.Test.YtalnddcijlkklaaW1
import Derived.Test.YtalnddcijlkklaaRows
namespace Go.Proofs.Ytalnddcijlkklaa
open Go Go.AM Go.ChangeShapes Go.RowKit
set_option linter.unusedVariables false
set_option linter.unusedSimpArgs false
namespace fnExactCodeDepth
set_option maxRecDepth 10000
/- loop.example/g00332/laws.FnExactCodeDepth -/
def k_c_FnExactCodeDepth : XCode :=
  .seq (.ops [.op (some 2) (.mov (.k (.bool false)))])
  (.keep [0] (.seq (.ops [.op (some 3) (.mov (.k (.int .i64 1048576)))])
  (.keep [0, 3] (.seq (.ops [.op (some 9) (.mov (.t 0)),
     .op (some 10) (.mov (.t 3)),
     .call (some 11) 10 [.t 9, .t 10],
     .op (some 3) (.mov (.t 11))])
  (.keep [0, 3] (.seq (.seq (.ops [.op (some 12) (.mov (.t 3)),
      .op (some 13) (.bin .lss (.t 12) (.k (.int .i64 0)))])
   (.keep [0, 13] (.cond (.t 13)
    (.seq (.ops [.op (some 2) (.mov (.k (.bool true)))])
     (.keep [2] (.ret)))
    (.skip))))
  (.keep [0] (.seq (.ops [.op (some 15) (.mov (.t 0)),
     .call (some 16) 12 [.t 15],
     .call (some 17) 15 [.t 16],
     .op (some 14) (.mov (.t 17)),
     .op (some 18) (.ext (.t 14) 0),
     .op (some 19) (.ext (.t 14) 1),
     .op (some 4) (.mov (.t 18)),
     .op (some 5) (.mov (.t 19))])
  (.keep [0, 4, 5] (.seq (.ops [.op (some 20) (.mov (.t 0)),
     .call (some 21) 12 [.t 20],
     .op (some 6) (.mov (.t 21))])
  (.keep [0, 4, 5, 6] (.seq (.ops [.op (some 23) (.mov (.t 6)),
     .call (some 24) 16 [.t 23],
     .op (some 22) (.mov (.t 24)),
     .op (some 25) (.ext (.t 22) 0),
     .op (some 26) (.ext (.t 22) 1),
     .op (some 7) (.mov (.t 25)),
     .op (some 8) (.mov (.t 26))])
  (.keep [0, 4, 5, 6, 7, 8] (.seq (.seq (.ops [.op (some 27) (.mov (.t 7)),
      .op (some 28) (.mov (.t 4)),
      .op (some 29) (.bin .neq (.t 27) (.t 28)),
      .op (some 30) (.mov (.t 29)),
      .andor 34 false 3 30 [.op (some 31) (.mov (.t 8)), .op (some 32) (.mov (.t 5)), .op (some 33) (.bin .neq (.t 31) (.t 32))] (.t 33)])
   (.keep [0, 6, 34] (.cond (.t 34)
    (.seq (.ops [.op (some 2) (.mov (.k (.bool false)))])
     (.keep [2] (.ret)))
    (.skip))))
  (.keep [0, 6] (.seq (.seq (.ops [.op (some 35) (.mov (.t 6)),
      .op (some 36) (.mov (.t 0)),
      .call (some 37) 12 [.t 36],
      .call (some 38) 14 [.t 35, .t 37],
      .op (some 39) (.not (.t 38))])
   (.keep [39] (.cond (.t 39)
    (.seq (.ops [.op (some 2) (.mov (.k (.bool false)))])
     (.keep [2] (.ret)))
    (.skip))))
  (.keep [] (.seq (.ops [.op (some 2) (.mov (.k (.bool true)))])
  (.keep [2] (.ret))))))))))))))))))))
theorem k_c_FnExactCodeDepth_fits : fitsF Try.prog 4 ⟨40, k_c_FnExactCodeDepth, [.t 2]⟩ = true := by kernel_rfl
theorem c_FnExactCodeDepth {l : List GIns} (wl : wfL GIns.wf l) : Con Try.prog noMv 4 [.d (.sl 5 (l.map GIns.row))] [] (fun r h => r = bool true ∧ h = []) := by
  refine con_of2 k_c_FnExactCodeDepth_fits rfl fun C hP hmv => ?_
  unfold k_c_FnExactCodeDepth
  refine cx_seq ?_
  refine cx_ops ?_
  refine ax_q (q_mov rfl) ?_
  refine ax_nil ?_
  refine cx_keep rfl rfl ?_
  refine cx_seq ?_
  refine cx_ops ?_
  refine ax_q (q_mov rfl) ?_
  refine ax_nil ?_
  refine cx_keep rfl rfl ?_
  refine cx_seq ?_
  refine cx_ops ?_
  refine ax_q (q_mov rfl) ?_
  refine ax_q (q_mov rfl) ?_
  have sp0 := szF_spec (1048576) (szL GIns.sz l)
  refine ax_call rfl (vc_pure0 (c_szInsS (by omega) (by omega) wl) hP rfl rfl ?_)
  refine ax_q (q_mov rfl) ?_
  refine ax_nil ?_
  refine cx_keep rfl rfl ?_
  refine cx_seq ?_
  refine cx_seq ?_
  refine cx_ops ?_
  refine ax_q (q_mov rfl) ?_
  refine ax_q (q_ibin rfl rfl rfl) ?_
  refine ax_nil ?_
  refine cx_keep rfl rfl ?_
  refine cx_cond rfl (fun h0 => ?_) (fun h0 => ?_)
  · have h0 := dT h0
    refine cx_seq ?_
    refine cx_ops ?_
    refine ax_q (q_mov rfl) ?_
    refine ax_nil ?_
    refine cx_keep rfl rfl ?_
    refine cx_ret (ret0 rfl rfl ?_)
    exact ⟨rfl, rfl⟩
  · have h0 := dF h0
    have ll0 : l.length ≤ 1048576 := by
      have := @szL_len _ GIns.sz (l)
      omega
    have hw := ins_sz (l := l) (n := 1048576) (by omega)
    have hv := hw.2
    have hw := hw.1
    refine cx_skip ?_
    refine cx_keep rfl rfl ?_
    refine cx_seq ?_
    refine cx_ops ?_
    refine ax_q (q_mov rfl) ?_
    first | refine ax_call rfl (vc_pure (c_toInsS  ?_) hP rfl ?_) | refine ax_call rfl (vc_lend (c_toInsS  ?_) hP (by repeat (first | exact lal_id _ rfl | exact LAL.nil | refine LAL.cons ?_ ?_ | exact la_id _ rfl | exact LA.lend (lend_whole rfl (by first | (simp; done) | (rw [List.length_map]; rfl))) | refine LA.agg ?_ | refine LA.fn ?_ | refine LA.lend ?_ | exact Lend.d _ | exact Lend.zs _ | exact lend_whole rfl (by first | (simp; done) | (rw [List.length_map]; rfl)) | refine Lend.ptr rfl ?_ | refine Lend.fn ?_ | exact LendL.nil | refine LendL.cons ?_ ?_)) ?_)
    · first | assumption | omega | (simp; done) | (simp; omega)
    rintro r h ⟨rfl, rfl⟩
    refine ⟨fun i => 16 + 200 * i, [0], ⟨rfl, rfl, rfl, rfl, rfl, (by first | exact (fun h => absurd h Bool.false_ne_true) | exact (fun _ => ⟨rfl, (noisl_of (by repeat (first | exact trivial | refine ⟨noisl_map (fun _ => rfl), ?_⟩ | refine ⟨?_, ?_⟩)))⟩))⟩, ?_⟩
    skip
    first | refine ax_call rfl (vc_pure0 (c_sCodeDepth  ?_ ?_) hP rfl rfl ?_) | refine ax_call rfl (vc_lend0 (c_sCodeDepth  ?_ ?_) hP (by repeat (first | exact lal_id _ rfl | exact LAL.nil | refine LAL.cons ?_ ?_ | exact la_id _ rfl | exact LA.lend (lend_whole rfl (by first | (simp; done) | (rw [List.length_map]; rfl))) | refine LA.agg ?_ | refine LA.fn ?_ | refine LA.lend ?_ | exact Lend.d _ | exact Lend.zs _ | exact lend_whole rfl (by first | (simp; done) | (rw [List.length_map]; rfl)) | refine Lend.ptr rfl ?_ | refine Lend.fn ?_ | exact LendL.nil | refine LendL.cons ?_ ?_)) rfl rfl ?_)
    · first | assumption | omega | (simp; done) | (simp; omega)
    · first | assumption | omega | (simp; done) | (simp; omega)
    refine ax_q (q_mov rfl) ?_
    refine ax_q (q_ext rfl rfl) ?_
    refine ax_q (q_ext rfl rfl) ?_
    refine ax_q (q_mov rfl) ?_
    refine ax_q (q_mov rfl) ?_
    refine ax_nil ?_
    refine cx_keep rfl rfl ?_
    refine cx_seq ?_
    refine cx_ops ?_
    refine ax_q (q_mov rfl) ?_
    first | refine ax_call rfl (vc_pure (c_toInsS  ?_) hP rfl ?_) | refine ax_call rfl (vc_lend (c_toInsS  ?_) hP (by repeat (first | exact lal_id _ rfl | exact LAL.nil | refine LAL.cons ?_ ?_ | exact la_id _ rfl | exact LA.lend (lend_whole rfl (by first | (simp; done) | (rw [List.length_map]; rfl))) | refine LA.agg ?_ | refine LA.fn ?_ | refine LA.lend ?_ | exact Lend.d _ | exact Lend.zs _ | exact lend_whole rfl (by first | (simp; done) | (rw [List.length_map]; rfl)) | refine Lend.ptr rfl ?_ | refine Lend.fn ?_ | exact LendL.nil | refine LendL.cons ?_ ?_)) ?_)
    · first | assumption | omega | (simp; done) | (simp; omega)
    rintro r h ⟨rfl, rfl⟩
    refine ⟨fun i => 21 + 200 * i, [0], ⟨rfl, rfl, rfl, rfl, rfl, (by first | exact (fun h => absurd h Bool.false_ne_true) | exact (fun _ => ⟨rfl, (noisl_of (by repeat (first | exact trivial | refine ⟨noisl_map (fun _ => rfl), ?_⟩ | refine ⟨?_, ?_⟩)))⟩))⟩, ?_⟩
    skip
    refine ax_q (q_mov rfl) ?_
    refine ax_nil ?_
    refine cx_keep rfl rfl ?_
    refine cx_seq ?_
    refine cx_ops ?_
    refine ax_q (q_mov rfl) ?_
    first | refine ax_call rfl (vc_pure0 (c_CodeDepth  ?_ ?_) hP rfl rfl ?_) | refine ax_call rfl (vc_lend0 (c_CodeDepth  ?_ ?_) hP (by repeat (first | exact lal_id _ rfl | exact LAL.nil | refine LAL.cons ?_ ?_ | exact la_id _ rfl | exact LA.lend (lend_whole rfl (by first | (simp; done) | (rw [List.length_map]; rfl))) | refine LA.agg ?_ | refine LA.fn ?_ | refine LA.lend ?_ | exact Lend.d _ | exact Lend.zs _ | exact lend_whole rfl (by first | (simp; done) | (rw [List.length_map]; rfl)) | refine Lend.ptr rfl ?_ | refine Lend.fn ?_ | exact LendL.nil | refine LendL.cons ?_ ?_)) rfl rfl ?_)
    · first | assumption | omega | (simp; done) | (simp; omega)
    · first | assumption | omega | (simp; done) | (simp; omega)
    refine ax_q (q_mov rfl) ?_
    refine ax_q (q_ext rfl rfl) ?_
    refine ax_q (q_ext rfl rfl) ?_
    refine ax_q (q_mov rfl) ?_
    refine ax_q (q_mov rfl) ?_
    refine ax_nil ?_
    refine cx_keep rfl rfl ?_
    refine cx_seq ?_
    refine cx_seq ?_
    refine cx_ops ?_
    refine ax_q (q_mov rfl) ?_
    refine ax_q (q_mov rfl) ?_
    refine ax_q (q_ibin rfl rfl rfl) ?_
    refine ax_q (q_mov rfl) ?_
    apply ax_or rfl rfl
    · intro g
      have g := nF g
      refine ax_q (q_mov rfl) ?_
      refine ax_q (q_mov rfl) ?_
      refine ax_q (q_ibin rfl rfl rfl) ?_
      exact ax_nil ⟨rfl, by repeat (first | exact trivial | refine ⟨rfl, ?_⟩ | refine ⟨?_, ?_⟩)⟩
    refine ax_nil ?_
    refine cx_keep rfl rfl ?_
    refine cx_cond rfl (fun h1 => ?_) (fun h1 => ?_)
    · have h1 := (fun h => (or_T h).imp nT nT) h1
      first | exact absurd rfl h1 | (exfalso; omega) | exact absurd h1 (by simp [eqb_rfl] <;> omega)
    · have h1 := (fun h => And.intro (nF (or_F h).1) (nF (or_F h).2)) h1
      refine cx_skip ?_
      refine cx_keep rfl rfl ?_
      refine cx_seq ?_
      refine cx_seq ?_
      refine cx_ops ?_
      refine ax_q (q_mov rfl) ?_
      refine ax_q (q_mov rfl) ?_
      first | refine ax_call rfl (vc_pure (c_toInsS  ?_) hP rfl ?_) | refine ax_call rfl (vc_lend (c_toInsS  ?_) hP (by repeat (first | exact lal_id _ rfl | exact LAL.nil | refine LAL.cons ?_ ?_ | exact la_id _ rfl | exact LA.lend (lend_whole rfl (by first | (simp; done) | (rw [List.length_map]; rfl))) | refine LA.agg ?_ | refine LA.fn ?_ | refine LA.lend ?_ | exact Lend.d _ | exact Lend.zs _ | exact lend_whole rfl (by first | (simp; done) | (rw [List.length_map]; rfl)) | refine Lend.ptr rfl ?_ | refine Lend.fn ?_ | exact LendL.nil | refine LendL.cons ?_ ?_)) ?_)
      · first | assumption | omega | (simp; done) | (simp; omega)
      rintro r h ⟨rfl, rfl⟩
      refine ⟨fun i => 37 + 200 * i, [0], ⟨rfl, rfl, rfl, rfl, rfl, (by first | exact (fun h => absurd h Bool.false_ne_true) | exact (fun _ => ⟨rfl, (noisl_of (by repeat (first | exact trivial | refine ⟨noisl_map (fun _ => rfl), ?_⟩ | refine ⟨?_, ?_⟩)))⟩))⟩, ?_⟩
      skip
      first | refine ax_call rfl (vc_pure0 (c_eqInsS  ?_) hP rfl rfl ?_) | refine ax_call rfl (vc_lend0 (c_eqInsS  ?_) hP (by repeat (first | exact lal_id _ rfl | exact LAL.nil | refine LAL.cons ?_ ?_ | exact la_id _ rfl | exact LA.lend (lend_whole rfl (by first | (simp; done) | (rw [List.length_map]; rfl))) | refine LA.agg ?_ | refine LA.fn ?_ | refine LA.lend ?_ | exact Lend.d _ | exact Lend.zs _ | exact lend_whole rfl (by first | (simp; done) | (rw [List.length_map]; rfl)) | refine Lend.ptr rfl ?_ | refine Lend.fn ?_ | exact LendL.nil | refine LendL.cons ?_ ?_)) rfl rfl ?_)
      · first | assumption | omega | (simp; done) | (simp; omega)
      refine ax_q (q_not rfl) ?_
      refine ax_nil ?_
      refine cx_keep rfl rfl ?_
      refine cx_cond rfl (fun h2 => ?_) (fun h2 => ?_)
      · have h2 := bT h2
        first | exact absurd rfl h2 | (exfalso; omega) | exact absurd h2 (by simp [eqb_rfl] <;> omega)
      · have h2 := bF h2
        refine cx_skip ?_
        refine cx_keep rfl rfl ?_
        refine cx_seq ?_
        refine cx_ops ?_
        refine ax_q (q_mov rfl) ?_
        refine ax_nil ?_
        refine cx_keep rfl rfl ?_
        refine cx_ret (ret0 rfl rfl ?_)
        exact ⟨rfl, rfl⟩

theorem own : ownKnob Try.prog.godebug = none := by kernel_rfl
theorem laid : laidOutB Try.prog = true := by kernel_rfl
theorem closedTs : closedT Try.prog [3, 9, 22, 32, 75] = true := by kernel_rfl
theorem con (rows : List (List D)) (h : HasAll Try.prog Try.f4.params.toList rows) : Con Try.prog noMv 4 (argsAV Try.prog Try.f4.params.toList rows) [] (fun r h => r = AM.bool true ∧ h = []) := by
  rw [Try.params4] at h ⊢
  obtain ⟨d0, r0, rfl, h0, h⟩ := h
  obtain rfl := h
  obtain ⟨a0, rfl, w0⟩ := (dec_slice (sz := 5) Try.underlying22 (by kernel_rfl) (GIns.dec Try.underlying75 rfl (dec_int Try.underlying3) (dec_int Try.underlying3) (GValue.dec Try.underlying32 rfl (dec_int Try.underlying3) (dec_int Try.underlying3) (dec_str Try.underlying9)))) h0
  have e : argsAV Try.prog [22] [[.sl 5 (a0.map GIns.row)]] = [.d (.sl 5 (a0.map GIns.row))] := by
    first | (simp only [argsAV, argAV, Try.underlying22]; done) | (simp only [argsAV, argAV, Try.underlying22]; rfl)
  show Con Try.prog noMv 4 (argsAV Try.prog [22] [[.sl 5 (a0.map GIns.row)]]) [] _
  rw [e]
  exact c_FnExactCodeDepth w0
set_option maxRecDepth 100000 in
theorem lifted (os : Os) (started : os.Started) (H : Type) (enc : TypeId × Value → H) :
    ReturnsInHanded {} Try.checked os 4 .any (Rows.fnExactCodeDepthSpec.pre6 enc Try.prog Try.f4 Rows.fnExactCodeDepthRow.domain false) (Rows.fnExactCodeDepthSpec.post enc Try.prog Try.f4 false true false false) := by
  refine returnsInHanded_of_change (C := Try.checked) own started (by kernel_rfl) Try.func4
    (ChangeSpec.witness6 (enc := enc) (C := Try.checked) false ⟨#[], #[.slice none 0 0], []⟩ 8 (by kernel_rfl) (by kernel_rfl) (by kernel_rfl) (by kernel_rfl)) ?_
  intro W base args ds gs before hval hW hcnd _
  refine law_contract closedTs laid (by kernel_rfl) rfl rfl Try.underlying4 con (fun hl => ?_) hval hW
  match ds, hl with
  | [x0], _ => rfl
theorem over : Rows.fnExactCodeDepthRow.holds Try.pinned (OpenSpec.ofChange Rows.fnExactCodeDepthSpec) :=
  OpenClaim.holds_of_wide 4 Try.f4 rfl rfl rfl rfl rfl rfl rfl ⟨rfl, rfl, rfl, rfl, rfl⟩ rfl rfl rfl rfl rfl (by kernel_rfl) Try.func4 (by kernel_rfl)
    (of_decide_eq_true (by kernel_rfl)) (by unfold Func.isWrapper; first | (rw [if_pos (by decide +kernel)]; kernel_rfl) | (rw [if_neg (by decide +kernel)]; exact ⟨rfl, rfl⟩))
    (fun os started H enc _ => lifted os started H enc)
theorem proved : Rows.FnExactCodeDepthSaid := over
end fnExactCodeDepth
end Go.Proofs.Ytalnddcijlkklaa
#print axioms Go.Proofs.Ytalnddcijlkklaa.fnExactCodeDepth.proved
