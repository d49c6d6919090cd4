/- The law FnExactNewWorld of the given program returns true for all arguments, and its arguments read behind the call as they read before: the statement FnExactNewWorldSaid, with no condition. -/
import Derived.Test.YtbanegjijhmojaaW1
import Derived.Test.YtbanegjijhmojaaRows
namespace Go.Proofs.Ytbanegjijhmojaa
open Go Go.AM Go.ChangeShapes Go.RowKit
set_option linter.unusedVariables false
set_option linter.unusedSimpArgs false
namespace fnExactNewWorld
set_option maxRecDepth 10000
/- loop.example/g00332/laws.FnExactNewWorld -/
def k_c_FnExactNewWorld : XCode :=
 .seq (.ops [.op (some 0) (.mov (.k (.bool false)))])
 (.keep [] (.seq (.ops [.call (some 6) 10 [],
   .op (some 1) (.alloc [.nils 1, .nils 2, .bool false, .nils 1, .int .i64 0, .nils 10, .int .i64 0, .nils 5, .int .i64 0, .bool false, .nils 2, .nils 4, .nils 2, .int .i64 0, .nils 1, .nils 10, .nils 10, .nils 10, .bool false]),
   .op none (.store 19 (.t 1) (.t 6))])
 (.keep [1] (.seq (.ops [.call (some 7) 11 [],
   .op (some 2) (.alloc [.nils 1, .nils 2, .bool false, .nils 1, .int .i64 0, .nils 10, .int .i64 0, .nils 5, .int .i64 0, .bool false, .nils 2, .nils 4, .nils 2, .int .i64 0, .nils 1, .nils 10, .nils 10, .nils 10, .bool false]),
   .op none (.store 19 (.t 2) (.t 7))])
 (.keep [1, 2] (.seq (.seq (.ops [.op (some 8) (.loadN 19 (.t 2)),
   .op (some 9) (.loadN 19 (.t 1)),
   .call (some 10) 12 [.t 8, .t 9],
   .op (some 11) (.not (.t 10))])
  (.keep [1, 2, 11] (.cond (.t 11)
  (.seq (.ops [.op (some 0) (.mov (.k (.bool false)))])
   (.keep [0] (.ret)))
  (.skip))))
 (.keep [1, 2] (.seq (.ops [.op (some 3) (.mov (.k (.int .i64 1)))])
 (.keep [1, 2, 3] (.seq (.ops [.op (some 12) (.loadN 19 (.t 2)),
   .op (some 13) (.mov (.t 3)),
   .call (some 14) 13 [.t 12, .t 13],
   .op (some 3) (.mov (.t 14))])
 (.keep [1, 2, 3] (.seq (.ops [.op (some 4) (.mov (.k (.int .i64 1)))])
 (.keep [1, 2, 3, 4] (.seq (.ops [.op (some 15) (.loadN 19 (.t 2)),
   .op (some 16) (.mov (.t 4)),
   .call (some 17) 14 [.t 15, .t 16],
   .op (some 4) (.mov (.t 17))])
 (.keep [1, 2, 3, 4] (.seq (.seq (.ops [.op (some 18) (.mov (.t 4)),
   .op (some 19) (.bin .lss (.t 18) (.k (.int .i64 0)))])
  (.keep [1, 2, 3, 4, 19] (.cond (.t 19)
  (.seq (.ops [.op (some 0) (.mov (.k (.bool false)))])
   (.keep [0] (.ret)))
  (.skip))))
 (.keep [1, 2, 3, 4] (.seq (.seq (.ops [.op (some 20) (.mov (.t 4)),
   .op (some 21) (.mov (.t 3)),
   .op (some 22) (.bin .neq (.t 20) (.t 21))])
  (.keep [1, 2, 3, 22] (.cond (.t 22)
  (.seq (.ops [.op (some 0) (.mov (.k (.bool false)))])
   (.keep [0] (.ret)))
  (.skip))))
 (.keep [1, 2, 3] (.seq (.ops [.call (some 23) 11 [],
   .op (some 5) (.alloc [.nils 1, .nils 2, .bool false, .nils 1, .int .i64 0, .nils 10, .int .i64 0, .nils 5, .int .i64 0, .bool false, .nils 2, .nils 4, .nils 2, .int .i64 0, .nils 1, .nils 10, .nils 10, .nils 10, .bool false]),
   .op none (.store 19 (.t 5) (.t 23))])
 (.keep [1, 2, 3, 5] (.seq (.seq (.ops [.op (some 24) (.loadN 19 (.t 5)),
   .op (some 25) (.loadN 19 (.t 1)),
   .call (some 26) 12 [.t 24, .t 25],
   .op (some 27) (.not (.t 26))])
  (.keep [2, 3, 27] (.cond (.t 27)
  (.seq (.ops [.op (some 0) (.mov (.k (.bool false)))])
   (.keep [0] (.ret)))
  (.skip))))
 (.keep [2, 3] (.seq (.ops [.op (some 4) (.mov (.k (.int .i64 1)))])
 (.keep [2, 3, 4] (.seq (.ops [.op (some 28) (.loadN 19 (.t 2)),
   .op (some 29) (.mov (.t 4)),
   .call (some 30) 14 [.t 28, .t 29],
   .op (some 4) (.mov (.t 30))])
 (.keep [3, 4] (.seq (.seq (.ops [.op (some 31) (.mov (.t 4)),
   .op (some 32) (.bin .lss (.t 31) (.k (.int .i64 0)))])
  (.keep [3, 4, 32] (.cond (.t 32)
  (.seq (.ops [.op (some 0) (.mov (.k (.bool false)))])
   (.keep [0] (.ret)))
  (.skip))))
 (.keep [3, 4] (.seq (.seq (.ops [.op (some 33) (.mov (.t 4)),
   .op (some 34) (.mov (.t 3)),
   .op (some 35) (.bin .neq (.t 33) (.t 34))])
  (.keep [35] (.cond (.t 35)
  (.seq (.ops [.op (some 0) (.mov (.k (.bool false)))])
   (.keep [0] (.ret)))
  (.skip))))
 (.keep [] (.seq (.ops [.op (some 0) (.mov (.k (.bool true)))])
 (.keep [0] (.ret))))))))))))))))))))))))))))))))))
theorem k_c_FnExactNewWorld_fits : fitsF Try.prog 4 ⟨36, k_c_FnExactNewWorld, [.t 0]⟩ = true := by kernel_rfl
theorem c_FnExactNewWorld  : Con Try.prog noMv 4 [] [] (fun r h => r = bool true ∧ h = []) := by
 refine con_of2 k_c_FnExactNewWorld_fits rfl fun C hP hmv => ?_
 unfold k_c_FnExactNewWorld
 refine cx_seq ?_
 refine cx_ops ?_
 refine ax_q (q_mov rfl) ?_
 refine ax_nil ?_
 refine cx_keep rfl rfl ?_
 refine cx_seq ?_
 refine cx_ops ?_
 first | refine ax_call rfl (vc_pure0 (c_sNewWorld  ) hP rfl rfl ?_) | refine ax_call rfl (vc_lend0 (c_sNewWorld  ) hP (by repeat (first | exact lal_id _ rfl | exact LAL.nil | refine LAL.cons ?_ ?_ | exact la_id _ rfl | exact LA.lend (lend_whole rfl (by first | (simp; done) | (rw [List.length_map]; rfl))) | refine LA.agg ?_ | refine LA.fn ?_ | refine LA.lend ?_ | exact Lend.d _ | exact Lend.zs _ | exact lend_whole rfl (by first | (simp; done) | (rw [List.length_map]; rfl)) | refine Lend.ptr rfl ?_ | refine Lend.fn ?_ | exact LendL.nil | refine LendL.cons ?_ ?_)) rfl rfl ?_)
 refine ax_e (e_alloc (by decide) rfl rfl) ?_
 refine ax_e (e_st rfl rfl rfl rfl rfl rfl rfl) ?_
 refine ax_nil ?_
 refine cx_keep rfl rfl ?_
 refine cx_seq ?_
 refine cx_ops ?_
 first | refine ax_call rfl (vc_pure (c_NewWorld  ) hP rfl ?_) | refine ax_call rfl (vc_lend (c_NewWorld  ) hP (by repeat (first | exact lal_id _ rfl | exact LAL.nil | refine LAL.cons ?_ ?_ | exact la_id _ rfl | exact LA.lend (lend_whole rfl (by first | (simp; done) | (rw [List.length_map]; rfl))) | refine LA.agg ?_ | refine LA.fn ?_ | refine LA.lend ?_ | exact Lend.d _ | exact Lend.zs _ | exact lend_whole rfl (by first | (simp; done) | (rw [List.length_map]; rfl)) | refine Lend.ptr rfl ?_ | refine Lend.fn ?_ | exact LendL.nil | refine LendL.cons ?_ ?_)) ?_)
 rintro r h ⟨rfl, rfl⟩
 refine ⟨fun i => 7 + 200 * i, [0, 1], ⟨rfl, rfl, rfl, rfl, rfl, (by first | exact (fun h => absurd h Bool.false_ne_true) | exact (fun _ => ⟨rfl, (noisl_of (by repeat (first | exact trivial | refine ⟨noisl_map (fun _ => rfl), ?_⟩ | refine ⟨?_, ?_⟩)))⟩))⟩, ?_⟩
 skip
 refine ax_e (e_alloc (by decide) rfl rfl) ?_
 refine ax_e (e_st rfl rfl rfl rfl rfl rfl rfl) ?_
 refine ax_nil ?_
 refine cx_keep rfl rfl ?_
 refine cx_seq ?_
 refine cx_seq ?_
 refine cx_ops ?_
 refine ax_q (q_ldN rfl rfl rfl) ?_
 refine ax_q (q_ldN rfl rfl rfl) ?_
 first | refine ax_call rfl (vc_pure0 (c_eqWorld (a := wWo S0 [0, 0, 0]) (b := wWo S0 [0, 0, 0]) ?_ ?_ ?_ ?_ ?_) hP rfl rfl ?_) | refine ax_call rfl (vc_lend0 (c_eqWorld (a := wWo S0 [0, 0, 0]) (b := wWo S0 [0, 0, 0]) ?_ ?_ ?_ ?_ ?_) hP (by repeat (first | exact lal_id _ rfl | exact LAL.nil | refine LAL.cons ?_ ?_ | exact la_id _ rfl | exact LA.lend (lend_whole rfl (by first | (simp; done) | (rw [List.length_map]; rfl))) | refine LA.agg ?_ | refine LA.fn ?_ | refine LA.lend ?_ | exact Lend.d _ | exact Lend.zs _ | exact lend_whole rfl (by first | (simp; done) | (rw [List.length_map]; rfl)) | refine Lend.ptr rfl ?_ | refine Lend.fn ?_ | exact LendL.nil | refine LendL.cons ?_ ?_)) rfl rfl ?_)
 ·
  exact enB0
 ·
  decide
 ·
  decide
 ·
  decide
 ·
  decide
 refine ax_q (q_not rfl) ?_
 refine ax_nil ?_
 refine cx_keep rfl rfl ?_
 refine cx_cond rfl (fun h0 => ?_) (fun h0 => ?_)
 ·
  have h0 := bT h0
  exact absurd h0 (by simp [eqb_rfl])
 ·
  have h0 := bF h0
  refine cx_skip ?_
  refine cx_keep rfl rfl ?_
  refine cx_seq ?_
  refine cx_ops ?_
  refine ax_q (q_mov rfl) ?_
  refine ax_nil ?_
  refine cx_keep rfl rfl ?_
  refine cx_seq ?_
  refine cx_ops ?_
  refine ax_q (q_ldN rfl rfl rfl) ?_
  refine ax_q (q_mov rfl) ?_
  refine ax_call rfl (vcall_own (c_markWorld (xs := S0) (ys := [0, 0, 0]) (k0 := 1) (by rw [S0_len]; decide)) hP hmv false (fun e => bif Nat.beq e 1000 then 7 else 207) [1000, 1001] ⟨rfl, rfl, rfl, rfl, ⟨rfl, rfl, trivial⟩, rfl, rfl, rfl⟩ (.pass rfl rfl (.pass rfl rfl .nil)) ?_)
  rintro r h ⟨rfl, rfl⟩
  refine ⟨fun e => bif Nat.beq e 1000 then 7 else 207, [], ⟨rfl, rfl, rfl, rfl, (mem2 rfl rfl), rfl, rfl, fun h => absurd h Bool.false_ne_true⟩, ?_⟩
  refine ax_q (q_mov rfl) ?_
  refine ax_nil ?_
  refine cx_keep rfl rfl ?_
  refine cx_seq ?_
  refine cx_ops ?_
  refine ax_q (q_mov rfl) ?_
  refine ax_nil ?_
  refine cx_keep rfl rfl ?_
  refine cx_seq ?_
  refine cx_ops ?_
  refine ax_q (q_ldN rfl rfl rfl) ?_
  refine ax_q (q_mov rfl) ?_
  refine ax_call rfl (vc_lend0 (c_heldWorld (xs := S0) (ys := [0, 0, 0]) (k0 := 1) (by rw [S0_len]; decide)) hP (by repeat (first | exact lal_id _ rfl | exact LAL.nil | refine LAL.cons ?_ ?_ | exact la_id _ rfl | exact LA.lend (lend_whole rfl (by first | (simp; done) | (rw [List.length_map]; rfl))) | refine LA.agg ?_ | refine LA.fn ?_ | refine LA.lend ?_ | exact Lend.d _ | exact Lend.zs _ | exact lend_whole rfl (by first | (simp; done) | (rw [List.length_map]; rfl)) | refine Lend.ptr rfl ?_ | refine Lend.fn ?_ | exact LendL.nil | refine LendL.cons ?_ ?_)) rfl rfl ?_)
  refine ax_q (q_mov rfl) ?_
  refine ax_nil ?_
  refine cx_keep rfl rfl ?_
  refine cx_seq ?_
  refine cx_seq ?_
  refine cx_ops ?_
  refine ax_q (q_mov rfl) ?_
  refine ax_q (q_ibin rfl rfl rfl) ?_
  refine ax_nil ?_
  refine cx_keep rfl rfl ?_
  refine cx_cond rfl (fun h1 => ?_) (fun h1 => ?_)
  ·
   have h1 := dT h1
   exact absurd h1 (by omega)
  ·
   have h1 := dF h1
   refine cx_skip ?_
   refine cx_keep rfl rfl ?_
   refine cx_seq ?_
   refine cx_seq ?_
   refine cx_ops ?_
   refine ax_q (q_mov rfl) ?_
   refine ax_q (q_mov rfl) ?_
   refine ax_q (q_ibin rfl rfl rfl) ?_
   refine ax_nil ?_
   refine cx_keep rfl rfl ?_
   refine cx_cond rfl (fun h2 => ?_) (fun h2 => ?_)
   ·
    have h2 := nT h2
    exact absurd rfl h2
   ·
    have h2 := nF h2
    refine cx_skip ?_
    refine cx_keep rfl rfl ?_
    refine cx_seq ?_
    refine cx_ops ?_
    first | refine ax_call rfl (vc_pure (c_NewWorld  ) hP rfl ?_) | refine ax_call rfl (vc_lend (c_NewWorld  ) hP (by repeat (first | exact lal_id _ rfl | exact LAL.nil | refine LAL.cons ?_ ?_ | exact la_id _ rfl | exact LA.lend (lend_whole rfl (by first | (simp; done) | (rw [List.length_map]; rfl))) | refine LA.agg ?_ | refine LA.fn ?_ | refine LA.lend ?_ | exact Lend.d _ | exact Lend.zs _ | exact lend_whole rfl (by first | (simp; done) | (rw [List.length_map]; rfl)) | refine Lend.ptr rfl ?_ | refine Lend.fn ?_ | exact LendL.nil | refine LendL.cons ?_ ?_)) ?_)
    rintro r h ⟨rfl, rfl⟩
    refine ⟨fun i => 23 + 200 * i, [0, 1], ⟨rfl, rfl, rfl, rfl, rfl, (by first | exact (fun h => absurd h Bool.false_ne_true) | exact (fun _ => ⟨rfl, (noisl_of (by repeat (first | exact trivial | refine ⟨noisl_map (fun _ => rfl), ?_⟩ | refine ⟨?_, ?_⟩)))⟩))⟩, ?_⟩
    skip
    refine ax_e (e_alloc (by decide) rfl rfl) ?_
    refine ax_e (e_st rfl rfl rfl rfl rfl rfl rfl) ?_
    refine ax_nil ?_
    refine cx_keep rfl rfl ?_
    refine cx_seq ?_
    refine cx_seq ?_
    refine cx_ops ?_
    refine ax_q (q_ldN rfl rfl rfl) ?_
    refine ax_q (q_ldN rfl rfl rfl) ?_
    first | refine ax_call rfl (vc_pure0 (c_eqWorld (a := wWo S0 [0, 0, 0]) (b := wWo S0 [0, 0, 0]) ?_ ?_ ?_ ?_ ?_) hP rfl rfl ?_) | refine ax_call rfl (vc_lend0 (c_eqWorld (a := wWo S0 [0, 0, 0]) (b := wWo S0 [0, 0, 0]) ?_ ?_ ?_ ?_ ?_) hP (by repeat (first | exact lal_id _ rfl | exact LAL.nil | refine LAL.cons ?_ ?_ | exact la_id _ rfl | exact LA.lend (lend_whole rfl (by first | (simp; done) | (rw [List.length_map]; rfl))) | refine LA.agg ?_ | refine LA.fn ?_ | refine LA.lend ?_ | exact Lend.d _ | exact Lend.zs _ | exact lend_whole rfl (by first | (simp; done) | (rw [List.length_map]; rfl)) | refine Lend.ptr rfl ?_ | refine Lend.fn ?_ | exact LendL.nil | refine LendL.cons ?_ ?_)) rfl rfl ?_)
    ·
     exact enB0
    ·
     decide
    ·
     decide
    ·
     decide
    ·
     decide
    refine ax_q (q_not rfl) ?_
    refine ax_nil ?_
    refine cx_keep rfl rfl ?_
    refine cx_cond rfl (fun h3 => ?_) (fun h3 => ?_)
    ·
     have h3 := bT h3
     exact absurd h3 (by simp [eqb_rfl])
    ·
     have h3 := bF h3
     refine cx_skip ?_
     refine cx_keep rfl rfl ?_
     refine cx_seq ?_
     refine cx_ops ?_
     refine ax_q (q_mov rfl) ?_
     refine ax_nil ?_
     refine cx_keep rfl rfl ?_
     refine cx_seq ?_
     refine cx_ops ?_
     refine ax_q (q_ldN rfl rfl rfl) ?_
     refine ax_q (q_mov rfl) ?_
     refine ax_call rfl (vc_lend0 (c_heldWorld (xs := S0) (ys := [0, 0, 0]) (k0 := 1) (by rw [S0_len]; decide)) hP (by repeat (first | exact lal_id _ rfl | exact LAL.nil | refine LAL.cons ?_ ?_ | exact la_id _ rfl | exact LA.lend (lend_whole rfl (by first | (simp; done) | (rw [List.length_map]; rfl))) | refine LA.agg ?_ | refine LA.fn ?_ | refine LA.lend ?_ | exact Lend.d _ | exact Lend.zs _ | exact lend_whole rfl (by first | (simp; done) | (rw [List.length_map]; rfl)) | refine Lend.ptr rfl ?_ | refine Lend.fn ?_ | exact LendL.nil | refine LendL.cons ?_ ?_)) rfl rfl ?_)
     refine ax_q (q_mov rfl) ?_
     refine ax_nil ?_
     refine cx_keep rfl rfl ?_
     refine cx_seq ?_
     refine cx_seq ?_
     refine cx_ops ?_
     refine ax_q (q_mov rfl) ?_
     refine ax_q (q_ibin rfl rfl rfl) ?_
     refine ax_nil ?_
     refine cx_keep rfl rfl ?_
     refine cx_cond rfl (fun h4 => ?_) (fun h4 => ?_)
     ·
      have h4 := dT h4
      exact absurd h4 (by omega)
     ·
      have h4 := dF h4
      refine cx_skip ?_
      refine cx_keep rfl rfl ?_
      refine cx_seq ?_
      refine cx_seq ?_
      refine cx_ops ?_
      refine ax_q (q_mov rfl) ?_
      refine ax_q (q_mov rfl) ?_
      refine ax_q (q_ibin rfl rfl rfl) ?_
      refine ax_nil ?_
      refine cx_keep rfl rfl ?_
      refine cx_cond rfl (fun h5 => ?_) (fun h5 => ?_)
      ·
       have h5 := nT h5
       exact absurd rfl h5
      ·
       have h5 := nF h5
       refine cx_skip ?_
       refine cx_keep rfl rfl ?_
       refine cx_seq ?_
       refine cx_ops ?_
       refine ax_q (q_mov rfl) ?_
       refine ax_nil ?_
       refine cx_keep rfl rfl ?_
       refine cx_ret (ret0 rfl rfl ?_)
       exact ⟨rfl, rfl⟩

theorem own : ownKnob Try.prog.godebug = none := by kernel_rfl
theorem laid : laidOutB Try.prog = true := by kernel_rfl
theorem closedTs : closedT Try.prog [] = true := by kernel_rfl
theorem con (rows : List (List D)) (h : HasAll Try.prog Try.f4.params.toList rows) : Con Try.prog noMv 4 (argsAV Try.prog Try.f4.params.toList rows) [] (fun r h => r = AM.bool true ∧ h = []) := by
  rw [Try.params4] at h ⊢
  obtain rfl := h
  have e : argsAV Try.prog [] [] = [] := by
    first | (simp only [argsAV, argAV, ]; done) | (simp only [argsAV, argAV, ]; rfl)
  show Con Try.prog noMv 4 (argsAV Try.prog [] []) [] _
  rw [e]
  exact c_FnExactNewWorld
set_option maxRecDepth 100000 in
theorem lifted (os : Os) (started : os.Started) (H : Type) (enc : TypeId × Value → H) :
    ReturnsInHanded {} Try.checked os 4 .any (Rows.fnExactNewWorldSpec.pre6 enc Try.prog Try.f4 Rows.fnExactNewWorldRow.domain false) (Rows.fnExactNewWorldSpec.post enc Try.prog Try.f4 false true false false) := by
  refine returnsInHanded_of_change (C := Try.checked) own started (by kernel_rfl) Try.func4
    (ChangeSpec.witness6 (enc := enc) (C := Try.checked) false ⟨#[], #[], []⟩ 8 (by kernel_rfl) (by kernel_rfl) (by kernel_rfl) (by kernel_rfl)) ?_
  intro W base args ds gs before hval hW hcnd _
  refine law_contract closedTs laid (by kernel_rfl) rfl rfl Try.underlying4 con (fun hl => ?_) hval hW
  match ds, hl with
  | [], _ => rfl
theorem over : Rows.fnExactNewWorldRow.holds Try.pinned (OpenSpec.ofChange Rows.fnExactNewWorldSpec) :=
  OpenClaim.holds_of_wide 4 Try.f4 rfl rfl rfl rfl rfl rfl rfl ⟨rfl, rfl, rfl, rfl, rfl⟩ rfl rfl rfl rfl rfl (by kernel_rfl) Try.func4 (by kernel_rfl)
    (of_decide_eq_true (by kernel_rfl)) (by unfold Func.isWrapper; first | (rw [if_pos (by decide +kernel)]; kernel_rfl) | (rw [if_neg (by decide +kernel)]; exact ⟨rfl, rfl⟩))
    (fun os started H enc _ => lifted os started H enc)
theorem proved : Rows.FnExactNewWorldSaid := over
end fnExactNewWorld
end Go.Proofs.Ytbanegjijhmojaa
#print axioms Go.Proofs.Ytbanegjijhmojaa.fnExactNewWorld.proved
