/- The law FnExactStoreOK of the given program returns true for all arguments, and its arguments read behind the call as they read before: the statement FnExactStoreOKSaid, with no condition. -/
import Derived.Test.YtbanegjijhmojaaW2
import Derived.Test.YtbanegjijhmojaaRows
namespace Go.Proofs.Ytbanegjijhmojaa
open Go Go.AM Go.ChangeShapes Go.RowKit
set_option linter.unusedVariables false
set_option linter.unusedSimpArgs false
namespace fnExactStoreOK
set_option maxRecDepth 10000
/- loop.example/g00332/laws.FnExactStoreOK -/
def k_c_FnExactStoreOK : XCode :=
 .seq (.ops [.op (some 1) (.box (.t 0)),
   .op (some 2) (.mov (.k (.bool false)))])
 (.keep [1] (.seq (.ops [.op (some 3) (.mov (.k (.int .i64 1048576)))])
 (.keep [1, 3] (.seq (.ops [.op (some 7) (.loadN 9 (.t 1)),
   .op (some 8) (.mov (.t 3)),
   .call (some 9) 5 [.t 7, .t 8],
   .op (some 3) (.mov (.t 9))])
 (.keep [1, 3] (.seq (.seq (.ops [.op (some 10) (.mov (.t 3)),
   .op (some 11) (.bin .lss (.t 10) (.k (.int .i64 0)))])
  (.keep [1, 11] (.cond (.t 11)
  (.seq (.ops [.op (some 2) (.mov (.k (.bool true)))])
   (.keep [2] (.ret)))
  (.skip))))
 (.keep [1] (.seq (.ops [.op (some 12) (.loadN 9 (.t 1)),
   .call (some 13) 7 [.t 12],
   .call (some 14) 6 [.t 13],
   .op (some 4) (.mov (.t 14))])
 (.keep [1, 4] (.seq (.ops [.op (some 15) (.loadN 9 (.t 1)),
   .call (some 16) 7 [.t 15],
   .op (some 5) (.alloc [.nils 1, .nils 2, .bool false, .nils 1, .int .i64 0, .nils 10, .int .i64 0, .nils 5, .int .i64 0]),
   .op none (.store 9 (.t 5) (.t 16))])
 (.keep [1, 4, 5] (.seq (.ops [.op (some 17) (.loadN 9 (.t 5)),
   .call (some 18) 8 [.t 17],
   .op (some 6) (.mov (.t 18))])
 (.keep [1, 4, 5, 6] (.seq (.seq (.ops [.op (some 19) (.mov (.t 6)),
   .op (some 20) (.mov (.t 4)),
   .op (some 21) (.eqb true (.t 19) (.t 20))])
  (.keep [1, 5, 21] (.cond (.t 21)
  (.seq (.ops [.op (some 2) (.mov (.k (.bool false)))])
   (.keep [2] (.ret)))
  (.skip))))
 (.keep [1, 5] (.seq (.seq (.drawE [[], [], [1], [0, 1, 2], [0, 1, 2, 3]] [.op (some 22) (.loadN 9 (.t 5)),
   .op (some 23) (.loadN 9 (.t 1)),
   .call (some 24) 7 [.t 23]]
   [.call (some 25) 9 [.t 22, .t 24],
   .op (some 26) (.not (.t 25))])
  (.keep [26] (.cond (.t 26)
  (.seq (.ops [.op (some 2) (.mov (.k (.bool false)))])
   (.keep [2] (.ret)))
  (.skip))))
 (.keep [] (.seq (.ops [.op (some 2) (.mov (.k (.bool true)))])
 (.keep [2] (.ret))))))))))))))))))))
theorem k_c_FnExactStoreOK_fits : fitsF Try.prog 3 ⟨27, k_c_FnExactStoreOK, [.t 2]⟩ = true := by kernel_rfl
theorem c_FnExactStoreOK {s : GStore} (ws : s.wf) : Con Try.prog noMv 3 [s.av] [] (fun r h => r = bool true ∧ h = []) := by
 refine con_of2 k_c_FnExactStoreOK_fits rfl fun C hP hmv => ?_
 unfold k_c_FnExactStoreOK
 refine cx_seq ?_
 refine cx_ops ?_
 refine ax_e (e_box rfl rfl (by decide) rfl rfl rfl) ?_
 refine ax_q (q_mov rfl) ?_
 refine ax_nil ?_
 refine cx_keep rfl rfl ?_
 refine cx_seq ?_
 refine cx_ops ?_
 refine ax_q (q_mov rfl) ?_
 refine ax_nil ?_
 refine cx_keep rfl rfl ?_
 refine cx_seq ?_
 refine cx_ops ?_
 refine ax_q (q_ldN rfl rfl rfl) ?_
 refine ax_q (q_mov rfl) ?_
 have sp0 := szF_spec (1048576) (GStore.sz s)
 refine ax_call rfl (vc_pure0 (c_szStore (by omega) (by omega) ws) hP rfl rfl ?_)
 refine ax_q (q_mov rfl) ?_
 refine ax_nil ?_
 refine cx_keep rfl rfl ?_
 refine cx_seq ?_
 refine cx_seq ?_
 refine cx_ops ?_
 refine ax_q (q_mov rfl) ?_
 refine ax_q (q_ibin rfl rfl rfl) ?_
 refine ax_nil ?_
 refine cx_keep rfl rfl ?_
 refine cx_cond rfl (fun h0 => ?_) (fun h0 => ?_)
 ·
  have h0 := dT h0
  refine cx_seq ?_
  refine cx_ops ?_
  refine ax_q (q_mov rfl) ?_
  refine ax_nil ?_
  refine cx_keep rfl rfl ?_
  refine cx_ret (ret0 rfl rfl ?_)
  exact ⟨rfl, rfl⟩
 ·
  have h0 := dF h0
  have ⟨ls0, ls1, ls2, ls3, ls4⟩ : s.Disk.Sectors.length ≤ 1048576 ∧ s.Disk.Cache.length ≤ 1048576 ∧ s.Disk.Keep.length ≤ 1048576 ∧ s.Log.length ≤ 1048576 ∧ s.Frames.length ≤ 1048576 := by
   have : GStore.sz s = GDisk.sz s.Disk + szL GLogRecord.sz s.Log + szL GFrame.sz s.Frames := rfl
   have : GDisk.sz s.Disk = szL List.length s.Disk.Sectors + szL GPending.sz s.Disk.Cache + szL (fun _ => 0) s.Disk.Keep := rfl
   have := @szL_len _ List.length (s.Disk.Sectors)
   have := @szL_len _ GPending.sz (s.Disk.Cache)
   have := @szL_len _ (fun _ => 0) (s.Disk.Keep)
   have := @szL_len _ GLogRecord.sz (s.Log)
   have := @szL_len _ GFrame.sz (s.Frames)
   omega
  have hb := stB_of (s := s) ws (by omega)
  refine cx_skip ?_
  refine cx_keep rfl rfl ?_
  refine cx_seq ?_
  refine cx_ops ?_
  refine ax_q (q_ldN rfl rfl rfl) ?_
  first | refine ax_call rfl (vc_pure0 (c_toStore  ?_) hP rfl rfl ?_) | refine ax_call rfl (vc_lend0 (c_toStore  ?_) hP (by repeat (first | exact lal_id _ rfl | exact LAL.nil | refine LAL.cons ?_ ?_ | exact la_id _ rfl | exact LA.lend (lend_whole rfl (by first | (simp; done) | (rw [List.length_map]; rfl))) | refine LA.agg ?_ | refine LA.fn ?_ | refine LA.lend ?_ | exact Lend.d _ | exact Lend.zs _ | exact lend_whole rfl (by first | (simp; done) | (rw [List.length_map]; rfl)) | refine Lend.ptr rfl ?_ | refine Lend.fn ?_ | exact LendL.nil | refine LendL.cons ?_ ?_)) rfl rfl ?_)
  ·
   first | assumption | omega | (simp; done) | (simp; omega)
  first | refine ax_call rfl (vc_pure0 (c_sStoreOK  ?_) hP rfl rfl ?_) | refine ax_call rfl (vc_lend0 (c_sStoreOK  ?_) hP (by repeat (first | exact lal_id _ rfl | exact LAL.nil | refine LAL.cons ?_ ?_ | exact la_id _ rfl | exact LA.lend (lend_whole rfl (by first | (simp; done) | (rw [List.length_map]; rfl))) | refine LA.agg ?_ | refine LA.fn ?_ | refine LA.lend ?_ | exact Lend.d _ | exact Lend.zs _ | exact lend_whole rfl (by first | (simp; done) | (rw [List.length_map]; rfl)) | refine Lend.ptr rfl ?_ | refine Lend.fn ?_ | exact LendL.nil | refine LendL.cons ?_ ?_)) rfl rfl ?_)
  ·
   first | assumption | omega | (simp; done) | (simp; omega)
  refine ax_q (q_mov rfl) ?_
  refine ax_nil ?_
  refine cx_keep rfl rfl ?_
  refine cx_seq ?_
  refine cx_ops ?_
  refine ax_q (q_ldN rfl rfl rfl) ?_
  first | refine ax_call rfl (vc_pure0 (c_toStore  ?_) hP rfl rfl ?_) | refine ax_call rfl (vc_lend0 (c_toStore  ?_) hP (by repeat (first | exact lal_id _ rfl | exact LAL.nil | refine LAL.cons ?_ ?_ | exact la_id _ rfl | exact LA.lend (lend_whole rfl (by first | (simp; done) | (rw [List.length_map]; rfl))) | refine LA.agg ?_ | refine LA.fn ?_ | refine LA.lend ?_ | exact Lend.d _ | exact Lend.zs _ | exact lend_whole rfl (by first | (simp; done) | (rw [List.length_map]; rfl)) | refine Lend.ptr rfl ?_ | refine Lend.fn ?_ | exact LendL.nil | refine LendL.cons ?_ ?_)) rfl rfl ?_)
  ·
   first | assumption | omega | (simp; done) | (simp; omega)
  refine ax_e (e_alloc (by decide) rfl rfl) ?_
  refine ax_e (e_st rfl rfl rfl rfl rfl rfl rfl) ?_
  refine ax_nil ?_
  refine cx_keep rfl rfl ?_
  refine cx_seq ?_
  refine cx_ops ?_
  refine ax_q (q_ldN rfl rfl rfl) ?_
  first | refine ax_call rfl (vc_pure0 (c_StoreOK  ?_) hP rfl rfl ?_) | refine ax_call rfl (vc_lend0 (c_StoreOK  ?_) hP (by repeat (first | exact lal_id _ rfl | exact LAL.nil | refine LAL.cons ?_ ?_ | exact la_id _ rfl | exact LA.lend (lend_whole rfl (by first | (simp; done) | (rw [List.length_map]; rfl))) | refine LA.agg ?_ | refine LA.fn ?_ | refine LA.lend ?_ | exact Lend.d _ | exact Lend.zs _ | exact lend_whole rfl (by first | (simp; done) | (rw [List.length_map]; rfl)) | refine Lend.ptr rfl ?_ | refine Lend.fn ?_ | exact LendL.nil | refine LendL.cons ?_ ?_)) rfl rfl ?_)
  ·
   first | assumption | omega | (simp; done) | (simp; omega)
  refine ax_q (q_mov rfl) ?_
  refine ax_nil ?_
  refine cx_keep rfl rfl ?_
  refine cx_seq ?_
  refine cx_seq ?_
  refine cx_ops ?_
  refine ax_q (q_mov rfl) ?_
  refine ax_q (q_mov rfl) ?_
  refine ax_q (q_eqb rfl rfl) ?_
  refine ax_nil ?_
  refine cx_keep rfl rfl ?_
  refine cx_cond rfl (fun h1 => ?_) (fun h1 => ?_)
  ·
   have h1 := bneT h1
   first | exact absurd rfl h1 | (exfalso; omega) | exact absurd h1 (by simp [eqb_rfl] <;> omega)
  ·
   have h1 := bneF h1
   refine cx_skip ?_
   refine cx_keep rfl rfl ?_
   refine cx_seq ?_
   refine cx_seq ?_
   refine cx_drawL 0 22 (fun _ => false) (fun _ => true) [] ([]) [[5], [1], [23]] [[], [], []] rfl ?_
   first | refine ⟨⟨22, _, []⟩, .inl ⟨rfl, rfl, rfl, locl_of (loc_q (q_ldN rfl rfl rfl))⟩, ?_⟩
   first | refine ⟨_, .inr ⟨rfl, _, rfl, .inr ⟨rfl, rfl, .inr rfl, rfl, rfl⟩, loc_q (q_ldN rfl rfl rfl)⟩, ?_⟩
   first | refine ⟨_, .inr ⟨rfl, _, rfl, .inr ⟨rfl, rfl, .inr rfl, rfl, rfl⟩, loc_call (fun i => 24 + 200 * i) false rfl (c_toStore  (by first | assumption | omega | (simp; done) | (simp; omega))) hP (.inr ⟨rfl, rfl, rfl⟩) rfl rfl (fun h => by cases h)⟩, ?_⟩ | refine ⟨_, .inr ⟨rfl, _, rfl, .inr ⟨rfl, rfl, .inr rfl, rfl, rfl⟩, loc_call (fun i => 24 + 200 * i) true rfl (c_toStore  (by first | assumption | omega | (simp; done) | (simp; omega))) hP (.inl ⟨rfl, (by repeat (first | exact lal_id _ rfl | exact LAL.nil | refine LAL.cons ?_ ?_ | exact la_id _ rfl | exact LA.lend (lend_whole rfl (by first | (simp; done) | (rw [List.length_map]; rfl))) | refine LA.agg ?_ | refine LA.fn ?_ | refine LA.lend ?_ | exact Lend.d _ | exact Lend.zs _ | exact lend_whole rfl (by first | (simp; done) | (rw [List.length_map]; rfl)) | refine Lend.ptr rfl ?_ | refine Lend.fn ?_ | exact LendL.nil | refine LendL.cons ?_ ?_))⟩) rfl rfl (fun _ => ⟨rfl, noisl_of (by repeat (first | exact trivial | refine ⟨noisl_map (fun _ => rfl), ?_⟩ | refine ⟨?_, ?_⟩))⟩)⟩, ?_⟩
   refine ⟨rfl, ?_⟩
   first | refine ax_call rfl (vc_pure0 (c_eqStore  ?_) hP rfl rfl ?_) | refine ax_call rfl (vc_lend0 (c_eqStore  ?_) hP (by repeat (first | exact lal_id _ rfl | exact LAL.nil | refine LAL.cons ?_ ?_ | exact la_id _ rfl | exact LA.lend (lend_whole rfl (by first | (simp; done) | (rw [List.length_map]; rfl))) | refine LA.agg ?_ | refine LA.fn ?_ | refine LA.lend ?_ | exact Lend.d _ | exact Lend.zs _ | exact lend_whole rfl (by first | (simp; done) | (rw [List.length_map]; rfl)) | refine Lend.ptr rfl ?_ | refine Lend.fn ?_ | exact LendL.nil | refine LendL.cons ?_ ?_)) rfl rfl ?_)
   ·
    first | assumption | omega | (simp; done) | (simp; omega)
   refine ax_q (q_not rfl) ?_
   refine ax_nil ?_
   refine cx_keep rfl rfl ?_
   refine cx_cond rfl (fun h2 => ?_) (fun h2 => ?_)
   ·
    have h2 := bT h2
    first | exact absurd rfl h2 | (exfalso; omega) | exact absurd h2 (by simp [eqb_rfl] <;> omega)
   ·
    have h2 := bF h2
    refine cx_skip ?_
    refine cx_keep rfl rfl ?_
    refine cx_seq ?_
    refine cx_ops ?_
    refine ax_q (q_mov rfl) ?_
    refine ax_nil ?_
    refine cx_keep rfl rfl ?_
    refine cx_ret (ret0 rfl rfl ?_)
    exact ⟨rfl, rfl⟩

theorem own : ownKnob Try.prog.godebug = none := by kernel_rfl
theorem laid : laidOutB Try.prog = true := by kernel_rfl
theorem closedTs : closedT Try.prog [3, 4, 9, 22, 23, 24, 26, 27, 28, 30, 92, 94, 96, 135] = true := by kernel_rfl
theorem con (rows : List (List D)) (h : HasAll Try.prog Try.f3.params.toList rows) : Con Try.prog noMv 3 (argsAV Try.prog Try.f3.params.toList rows) [] (fun r h => r = AM.bool true ∧ h = []) := by
  rw [Try.params3] at h ⊢
  obtain ⟨d0, r0, rfl, h0, h⟩ := h
  obtain rfl := h
  obtain ⟨a0, rfl, w0⟩ := (GStore.dec Try.underlying30 rfl (GDisk.dec Try.underlying26 rfl (dec_slice (sz := 1) Try.underlying22 (by kernel_rfl) (dec_str Try.underlying9)) (dec_slice (sz := 2) Try.underlying23 (by kernel_rfl) (GPending.dec Try.underlying135 rfl (dec_int Try.underlying3) (dec_str Try.underlying9))) (dec_bool Try.underlying4) (dec_slice (sz := 1) Try.underlying24 (by kernel_rfl) (dec_int Try.underlying3))) (dec_int Try.underlying3) (dec_slice (sz := 10) Try.underlying27 (by kernel_rfl) (GLogRecord.dec Try.underlying92 rfl (dec_int Try.underlying3) (dec_int Try.underlying3) (dec_int Try.underlying3) (dec_int Try.underlying3) (dec_int Try.underlying3) (dec_int Try.underlying3) (dec_int Try.underlying3) (dec_int Try.underlying3) (dec_str Try.underlying9) (dec_str Try.underlying9))) (dec_int Try.underlying3) (dec_slice (sz := 5) Try.underlying28 (by kernel_rfl) (GFrame.dec Try.underlying96 rfl (dec_int Try.underlying3) (Page.dec Try.underlying94 rfl (dec_int Try.underlying3) (dec_slice (sz := 1) Try.underlying22 (by kernel_rfl) (dec_str Try.underlying9))) (dec_bool Try.underlying4) (dec_int Try.underlying3))) (dec_int Try.underlying3)) h0
  have e : argsAV Try.prog [30] [GStore.row a0] = [a0.av] := by
    first | (simp only [argsAV, argAV, Try.underlying30]; done) | (simp only [argsAV, argAV, Try.underlying30]; rfl)
  show Con Try.prog noMv 3 (argsAV Try.prog [30] [GStore.row a0]) [] _
  rw [e]
  exact c_FnExactStoreOK w0
set_option maxRecDepth 100000 in
theorem lifted (os : Os) (started : os.Started) (H : Type) (enc : TypeId × Value → H) :
    ReturnsInHanded {} Try.checked os 3 .any (Rows.fnExactStoreOKSpec.pre6 enc Try.prog Try.f3 Rows.fnExactStoreOKRow.domain false) (Rows.fnExactStoreOKSpec.post enc Try.prog Try.f3 false true false false) := by
  refine returnsInHanded_of_change (C := Try.checked) own started (by kernel_rfl) Try.func3
    (ChangeSpec.witness6 (enc := enc) (C := Try.checked) false ⟨#[], #[.agg #[.slice none 0 0, .slice none 0 0, .bool false, .slice none 0 0, .int .i64 0, .slice none 0 0, .int .i64 0, .slice none 0 0, .int .i64 0]], []⟩ 8 (by kernel_rfl) (by kernel_rfl) (by kernel_rfl) (by kernel_rfl)) ?_
  intro W base args ds gs before hval hW hcnd _
  refine law_contract closedTs laid (by kernel_rfl) rfl rfl Try.underlying4 con (fun hl => ?_) hval hW
  match ds, hl with
  | [x0], _ => rfl
theorem over : Rows.fnExactStoreOKRow.holds Try.pinned (OpenSpec.ofChange Rows.fnExactStoreOKSpec) :=
  OpenClaim.holds_of_wide 3 Try.f3 rfl rfl rfl rfl rfl rfl rfl ⟨rfl, rfl, rfl, rfl, rfl⟩ rfl rfl rfl rfl rfl (by kernel_rfl) Try.func3 (by kernel_rfl)
    (of_decide_eq_true (by kernel_rfl)) (by unfold Func.isWrapper; first | (rw [if_pos (by decide +kernel)]; kernel_rfl) | (rw [if_neg (by decide +kernel)]; exact ⟨rfl, rfl⟩))
    (fun os started H enc _ => lifted os started H enc)
theorem proved : Rows.FnExactStoreOKSaid := over
end fnExactStoreOK
end Go.Proofs.Ytbanegjijhmojaa
#print axioms Go.Proofs.Ytbanegjijhmojaa.fnExactStoreOK.proved
