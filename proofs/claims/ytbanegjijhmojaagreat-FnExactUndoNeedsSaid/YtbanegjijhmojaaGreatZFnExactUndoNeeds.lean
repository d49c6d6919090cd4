/- The law FnExactUndoNeeds of the given program returns true for all arguments, and its arguments read behind the call as they read before: the statement FnExactUndoNeedsSaid, with no condition. -/
import Derived.Test.YtbanegjijhmojaaGreatW2
import Derived.Test.YtbanegjijhmojaaGreatRows
namespace Go.Proofs.YtbanegjijhmojaaGreat
open Go Go.AM Go.ChangeShapes Go.RowKit
set_option linter.unusedVariables false
set_option linter.unusedSimpArgs false
namespace fnExactUndoNeeds
set_option maxRecDepth 10000
/- loop.example/g00332/laws.FnExactUndoNeeds -/
def k_c_FnExactUndoNeeds : XCode :=
 .seq (.ops [.op (some 1) (.box (.t 0)),
   .op (some 2) (.mov (.k (.bool false)))])
 (.keep [1] (.seq (.ops [.op (some 3) (.mov (.k (.int .i64 1048576)))])
 (.keep [1, 3] (.seq (.ops [.op (some 9) (.loadN 14 (.t 1)),
   .op (some 10) (.mov (.t 3)),
   .call (some 11) 7 [.t 9, .t 10],
   .op (some 3) (.mov (.t 11))])
 (.keep [1, 3] (.seq (.seq (.ops [.op (some 12) (.mov (.t 3)),
   .op (some 13) (.bin .lss (.t 12) (.k (.int .i64 0)))])
  (.keep [1, 13] (.cond (.t 13)
  (.seq (.ops [.op (some 2) (.mov (.k (.bool true)))])
   (.keep [2] (.ret)))
  (.skip))))
 (.keep [1] (.seq (.ops [.op (some 15) (.loadN 14 (.t 1)),
   .call (some 16) 9 [.t 15],
   .call (some 17) 12 [.t 16],
   .op (some 14) (.mov (.t 17)),
   .op (some 18) (.ext (.t 14) 0),
   .op (some 19) (.ext (.t 14) 1),
   .op (some 4) (.mov (.t 18)),
   .op (some 5) (.mov (.t 19))])
 (.keep [1, 4, 5] (.seq (.ops [.op (some 20) (.loadN 14 (.t 1)),
   .call (some 21) 9 [.t 20],
   .op (some 6) (.alloc [.nils 1, .nils 2, .bool false, .nils 1, .int .i64 0, .nils 10, .int .i64 0, .nils 5, .int .i64 0, .bool false, .nils 2, .nils 4, .nils 2, .int .i64 0]),
   .op none (.store 14 (.t 6) (.t 21))])
 (.keep [1, 4, 5, 6] (.seq (.ops [.op (some 23) (.loadN 14 (.t 6)),
   .call (some 24) 13 [.t 23],
   .op (some 22) (.mov (.t 24)),
   .op (some 25) (.ext (.t 22) 0),
   .op (some 26) (.ext (.t 22) 1),
   .op (some 7) (.mov (.t 25)),
   .op (some 8) (.mov (.t 26))])
 (.keep [1, 4, 5, 6, 7, 8] (.seq (.seq (.ops [.op (some 27) (.mov (.t 7)),
   .op (some 28) (.mov (.t 4)),
   .op (some 29) (.bin .neq (.t 27) (.t 28)),
   .op (some 30) (.mov (.t 29)),
   .andor 34 false 3 30 [.op (some 31) (.mov (.t 8)), .op (some 32) (.mov (.t 5)), .op (some 33) (.bin .neq (.t 31) (.t 32))] (.t 33)])
  (.keep [1, 6, 34] (.cond (.t 34)
  (.seq (.ops [.op (some 2) (.mov (.k (.bool false)))])
   (.keep [2] (.ret)))
  (.skip))))
 (.keep [1, 6] (.seq (.seq (.drawE [[], [], [1], [0, 1, 2], [0, 1, 2, 3]] [.op (some 35) (.loadN 14 (.t 6)),
   .op (some 36) (.loadN 14 (.t 1)),
   .call (some 37) 9 [.t 36]]
   [.call (some 38) 11 [.t 35, .t 37],
   .op (some 39) (.not (.t 38))])
  (.keep [39] (.cond (.t 39)
  (.seq (.ops [.op (some 2) (.mov (.k (.bool false)))])
   (.keep [2] (.ret)))
  (.skip))))
 (.keep [] (.seq (.ops [.op (some 2) (.mov (.k (.bool true)))])
 (.keep [2] (.ret))))))))))))))))))))
theorem k_c_FnExactUndoNeeds_fits : fitsF Tryz.prog 4 ⟨40, k_c_FnExactUndoNeeds, [.t 2]⟩ = true := by kernel_rfl
theorem c_FnExactUndoNeeds {e : GEngine} (we : e.wf) : Con Tryz.prog noMv 4 [e.av] [] (fun r h => r = bool true ∧ h = []) := by
 refine con_of2 k_c_FnExactUndoNeeds_fits rfl fun C hP hmv => ?_
 unfold k_c_FnExactUndoNeeds
 refine cx_seq ?_
 refine cx_ops ?_
 refine ax_e (e_box rfl rfl (by decide) rfl rfl rfl) ?_
 refine ax_q (q_mov rfl) ?_
 refine ax_nil ?_
 refine cx_keep rfl rfl ?_
 refine cx_seq ?_
 refine cx_ops ?_
 refine ax_q (q_mov rfl) ?_
 refine ax_nil ?_
 refine cx_keep rfl rfl ?_
 refine cx_seq ?_
 refine cx_ops ?_
 refine ax_q (q_ldN rfl rfl rfl) ?_
 refine ax_q (q_mov rfl) ?_
 have sp0 := szF_spec (1048576) (GEngine.sz e)
 refine ax_call rfl (vc_pure0 (c_szEngine (by omega) (by omega) we) hP rfl rfl ?_)
 refine ax_q (q_mov rfl) ?_
 refine ax_nil ?_
 refine cx_keep rfl rfl ?_
 refine cx_seq ?_
 refine cx_seq ?_
 refine cx_ops ?_
 refine ax_q (q_mov rfl) ?_
 refine ax_q (q_ibin rfl rfl rfl) ?_
 refine ax_nil ?_
 refine cx_keep rfl rfl ?_
 refine cx_cond rfl (fun h0 => ?_) (fun h0 => ?_)
 ·
  have h0 := dT h0
  refine cx_seq ?_
  refine cx_ops ?_
  refine ax_q (q_mov rfl) ?_
  refine ax_nil ?_
  refine cx_keep rfl rfl ?_
  refine cx_ret (ret0 rfl rfl ?_)
  exact ⟨rfl, rfl⟩
 ·
  have h0 := dF h0
  have ⟨le0, le1, le2, le3, le4, le5, le6, le7⟩ : e.Store.Disk.Sectors.length ≤ 1048576 ∧ e.Store.Disk.Cache.length ≤ 1048576 ∧ e.Store.Disk.Keep.length ≤ 1048576 ∧ e.Store.Log.length ≤ 1048576 ∧ e.Store.Frames.length ≤ 1048576 ∧ e.Txs.length ≤ 1048576 ∧ e.Locks.Held.length ≤ 1048576 ∧ e.Locks.Waits.length ≤ 1048576 := by
   have : GEngine.sz e = GStore.sz e.Store + szL (fun _ => 0) e.Txs + GLocks.sz e.Locks := rfl
   have : GStore.sz e.Store = GDisk.sz e.Store.Disk + szL GLogRecord.sz e.Store.Log + szL GFrame.sz e.Store.Frames := rfl
   have : GDisk.sz e.Store.Disk = szL List.length e.Store.Disk.Sectors + szL GPending.sz e.Store.Disk.Cache + szL (fun _ => 0) e.Store.Disk.Keep := rfl
   have := @szL_len _ List.length (e.Store.Disk.Sectors)
   have := @szL_len _ GPending.sz (e.Store.Disk.Cache)
   have := @szL_len _ (fun _ => 0) (e.Store.Disk.Keep)
   have := @szL_len _ GLogRecord.sz (e.Store.Log)
   have := @szL_len _ GFrame.sz (e.Store.Frames)
   have := @szL_len _ (fun _ => 0) (e.Txs)
   have : GLocks.sz e.Locks = szL (fun _ => 0) e.Locks.Held + szL (fun _ => 0) e.Locks.Waits := rfl
   have := @szL_len _ (fun _ => 0) (e.Locks.Held)
   have := @szL_len _ (fun _ => 0) (e.Locks.Waits)
   omega
  have hb := enB_of (e := e) we (by omega)
  refine cx_skip ?_
  refine cx_keep rfl rfl ?_
  refine cx_seq ?_
  refine cx_ops ?_
  refine ax_q (q_ldN rfl rfl rfl) ?_
  first | refine ax_call rfl (vc_pure0 (c_toEngine  ?_) hP rfl rfl ?_) | refine ax_call rfl (vc_lend0 (c_toEngine  ?_) hP (by repeat (first | exact lal_id _ rfl | exact LAL.nil | refine LAL.cons ?_ ?_ | exact la_id _ rfl | exact LA.lend (lend_whole rfl (by first | (simp; done) | (rw [List.length_map]; rfl))) | refine LA.agg ?_ | refine LA.fn ?_ | refine LA.lend ?_ | exact Lend.d _ | exact Lend.zs _ | exact lend_whole rfl (by first | (simp; done) | (rw [List.length_map]; rfl)) | refine Lend.ptr rfl ?_ | refine Lend.fn ?_ | exact LendL.nil | refine LendL.cons ?_ ?_)) rfl rfl ?_)
  ·
   first | assumption | omega | (simp; done) | (simp; omega)
  first | refine ax_call rfl (vc_pure0 (c_sUndoNeeds  ?_) hP rfl rfl ?_) | refine ax_call rfl (vc_lend0 (c_sUndoNeeds  ?_) hP (by repeat (first | exact lal_id _ rfl | exact LAL.nil | refine LAL.cons ?_ ?_ | exact la_id _ rfl | exact LA.lend (lend_whole rfl (by first | (simp; done) | (rw [List.length_map]; rfl))) | refine LA.agg ?_ | refine LA.fn ?_ | refine LA.lend ?_ | exact Lend.d _ | exact Lend.zs _ | exact lend_whole rfl (by first | (simp; done) | (rw [List.length_map]; rfl)) | refine Lend.ptr rfl ?_ | refine Lend.fn ?_ | exact LendL.nil | refine LendL.cons ?_ ?_)) rfl rfl ?_)
  ·
   first | assumption | omega | (simp; done) | (simp; omega)
  refine ax_q (q_mov rfl) ?_
  refine ax_q (q_ext rfl rfl) ?_
  refine ax_q (q_ext rfl rfl) ?_
  refine ax_q (q_mov rfl) ?_
  refine ax_q (q_mov rfl) ?_
  refine ax_nil ?_
  refine cx_keep rfl rfl ?_
  refine cx_seq ?_
  refine cx_ops ?_
  refine ax_q (q_ldN rfl rfl rfl) ?_
  first | refine ax_call rfl (vc_pure0 (c_toEngine  ?_) hP rfl rfl ?_) | refine ax_call rfl (vc_lend0 (c_toEngine  ?_) hP (by repeat (first | exact lal_id _ rfl | exact LAL.nil | refine LAL.cons ?_ ?_ | exact la_id _ rfl | exact LA.lend (lend_whole rfl (by first | (simp; done) | (rw [List.length_map]; rfl))) | refine LA.agg ?_ | refine LA.fn ?_ | refine LA.lend ?_ | exact Lend.d _ | exact Lend.zs _ | exact lend_whole rfl (by first | (simp; done) | (rw [List.length_map]; rfl)) | refine Lend.ptr rfl ?_ | refine Lend.fn ?_ | exact LendL.nil | refine LendL.cons ?_ ?_)) rfl rfl ?_)
  ·
   first | assumption | omega | (simp; done) | (simp; omega)
  refine ax_e (e_alloc (by decide) rfl rfl) ?_
  refine ax_e (e_st rfl rfl rfl rfl rfl rfl rfl) ?_
  refine ax_nil ?_
  refine cx_keep rfl rfl ?_
  refine cx_seq ?_
  refine cx_ops ?_
  refine ax_q (q_ldN rfl rfl rfl) ?_
  first | refine ax_call rfl (vc_pure0 (c_UndoNeeds  ?_) hP rfl rfl ?_) | refine ax_call rfl (vc_lend0 (c_UndoNeeds  ?_) hP (by repeat (first | exact lal_id _ rfl | exact LAL.nil | refine LAL.cons ?_ ?_ | exact la_id _ rfl | exact LA.lend (lend_whole rfl (by first | (simp; done) | (rw [List.length_map]; rfl))) | refine LA.agg ?_ | refine LA.fn ?_ | refine LA.lend ?_ | exact Lend.d _ | exact Lend.zs _ | exact lend_whole rfl (by first | (simp; done) | (rw [List.length_map]; rfl)) | refine Lend.ptr rfl ?_ | refine Lend.fn ?_ | exact LendL.nil | refine LendL.cons ?_ ?_)) rfl rfl ?_)
  ·
   first | assumption | omega | (simp; done) | (simp; omega)
  refine ax_q (q_mov rfl) ?_
  refine ax_q (q_ext rfl rfl) ?_
  refine ax_q (q_ext rfl rfl) ?_
  refine ax_q (q_mov rfl) ?_
  refine ax_q (q_mov rfl) ?_
  refine ax_nil ?_
  refine cx_keep rfl rfl ?_
  refine cx_seq ?_
  refine cx_seq ?_
  refine cx_ops ?_
  refine ax_q (q_mov rfl) ?_
  refine ax_q (q_mov rfl) ?_
  refine ax_q (q_ibin rfl rfl rfl) ?_
  refine ax_q (q_mov rfl) ?_
  apply ax_or rfl rfl
  ·
   intro g
   have g := nF g
   refine ax_q (q_mov rfl) ?_
   refine ax_q (q_mov rfl) ?_
   refine ax_q (q_ibin rfl rfl rfl) ?_
   exact ax_nil ⟨rfl, by repeat (first | exact trivial | refine ⟨rfl, ?_⟩ | refine ⟨?_, ?_⟩)⟩
  refine ax_nil ?_
  refine cx_keep rfl rfl ?_
  refine cx_cond rfl (fun h1 => ?_) (fun h1 => ?_)
  ·
   have h1 := (fun h => (or_T h).imp nT nT) h1
   first | exact absurd rfl h1 | (exfalso; omega) | exact absurd h1 (by simp [eqb_rfl] <;> omega)
  ·
   have h1 := (fun h => And.intro (nF (or_F h).1) (nF (or_F h).2)) h1
   refine cx_skip ?_
   refine cx_keep rfl rfl ?_
   refine cx_seq ?_
   refine cx_seq ?_
   refine cx_drawL 0 35 (fun _ => false) (fun _ => true) [] ([]) [[6], [1], [36]] [[], [], []] rfl ?_
   first | refine ⟨⟨35, _, []⟩, .inl ⟨rfl, rfl, rfl, locl_of (loc_q (q_ldN rfl rfl rfl))⟩, ?_⟩
   first | refine ⟨_, .inr ⟨rfl, _, rfl, .inr ⟨rfl, rfl, .inr rfl, rfl, rfl⟩, loc_q (q_ldN rfl rfl rfl)⟩, ?_⟩
   first | refine ⟨_, .inr ⟨rfl, _, rfl, .inr ⟨rfl, rfl, .inr rfl, rfl, rfl⟩, loc_call (fun i => 37 + 200 * i) false rfl (c_toEngine  (by first | assumption | omega | (simp; done) | (simp; omega))) hP (.inr ⟨rfl, rfl, rfl⟩) rfl rfl (fun h => by cases h)⟩, ?_⟩ | refine ⟨_, .inr ⟨rfl, _, rfl, .inr ⟨rfl, rfl, .inr rfl, rfl, rfl⟩, loc_call (fun i => 37 + 200 * i) true rfl (c_toEngine  (by first | assumption | omega | (simp; done) | (simp; omega))) hP (.inl ⟨rfl, (by repeat (first | exact lal_id _ rfl | exact LAL.nil | refine LAL.cons ?_ ?_ | exact la_id _ rfl | exact LA.lend (lend_whole rfl (by first | (simp; done) | (rw [List.length_map]; rfl))) | refine LA.agg ?_ | refine LA.fn ?_ | refine LA.lend ?_ | exact Lend.d _ | exact Lend.zs _ | exact lend_whole rfl (by first | (simp; done) | (rw [List.length_map]; rfl)) | refine Lend.ptr rfl ?_ | refine Lend.fn ?_ | exact LendL.nil | refine LendL.cons ?_ ?_))⟩) rfl rfl (fun _ => ⟨rfl, noisl_of (by repeat (first | exact trivial | refine ⟨noisl_map (fun _ => rfl), ?_⟩ | refine ⟨?_, ?_⟩))⟩)⟩, ?_⟩
   refine ⟨rfl, ?_⟩
   first | refine ax_call rfl (vc_pure0 (c_eqEngine  ?_) hP rfl rfl ?_) | refine ax_call rfl (vc_lend0 (c_eqEngine  ?_) hP (by repeat (first | exact lal_id _ rfl | exact LAL.nil | refine LAL.cons ?_ ?_ | exact la_id _ rfl | exact LA.lend (lend_whole rfl (by first | (simp; done) | (rw [List.length_map]; rfl))) | refine LA.agg ?_ | refine LA.fn ?_ | refine LA.lend ?_ | exact Lend.d _ | exact Lend.zs _ | exact lend_whole rfl (by first | (simp; done) | (rw [List.length_map]; rfl)) | refine Lend.ptr rfl ?_ | refine Lend.fn ?_ | exact LendL.nil | refine LendL.cons ?_ ?_)) rfl rfl ?_)
   ·
    first | assumption | omega | (simp; done) | (simp; omega)
   refine ax_q (q_not rfl) ?_
   refine ax_nil ?_
   refine cx_keep rfl rfl ?_
   refine cx_cond rfl (fun h2 => ?_) (fun h2 => ?_)
   ·
    have h2 := bT h2
    first | exact absurd rfl h2 | (exfalso; omega) | exact absurd h2 (by simp [eqb_rfl] <;> omega)
   ·
    have h2 := bF h2
    refine cx_skip ?_
    refine cx_keep rfl rfl ?_
    refine cx_seq ?_
    refine cx_ops ?_
    refine ax_q (q_mov rfl) ?_
    refine ax_nil ?_
    refine cx_keep rfl rfl ?_
    refine cx_ret (ret0 rfl rfl ?_)
    exact ⟨rfl, rfl⟩

theorem own : ownKnob Tryz.prog.godebug = none := by kernel_rfl
theorem laid : laidOutB Tryz.prog = true := by kernel_rfl
theorem closedTs : closedT Tryz.prog [3, 4, 9, 22, 23, 24, 26, 27, 28, 30, 31, 32, 33, 35, 37, 142, 158, 160, 162, 211, 213, 221] = true := by kernel_rfl
theorem con (rows : List (List D)) (h : HasAll Tryz.prog Tryz.f4.params.toList rows) : Con Tryz.prog noMv 4 (argsAV Tryz.prog Tryz.f4.params.toList rows) [] (fun r h => r = AM.bool true ∧ h = []) := by
  rw [Tryz.params4] at h ⊢
  obtain ⟨d0, r0, rfl, h0, h⟩ := h
  obtain rfl := h
  obtain ⟨a0, rfl, w0⟩ := (GEngine.dec Tryz.underlying37 rfl (GStore.dec Tryz.underlying30 rfl (GDisk.dec Tryz.underlying26 rfl (dec_slice (sz := 1) Tryz.underlying22 (by kernel_rfl) (dec_str Tryz.underlying9)) (dec_slice (sz := 2) Tryz.underlying23 (by kernel_rfl) (GPending.dec Tryz.underlying221 rfl (dec_int Tryz.underlying3) (dec_str Tryz.underlying9))) (dec_bool Tryz.underlying4) (dec_slice (sz := 1) Tryz.underlying24 (by kernel_rfl) (dec_int Tryz.underlying3))) (dec_int Tryz.underlying3) (dec_slice (sz := 10) Tryz.underlying27 (by kernel_rfl) (GLogRecord.dec Tryz.underlying158 rfl (dec_int Tryz.underlying3) (dec_int Tryz.underlying3) (dec_int Tryz.underlying3) (dec_int Tryz.underlying3) (dec_int Tryz.underlying3) (dec_int Tryz.underlying3) (dec_int Tryz.underlying3) (dec_int Tryz.underlying3) (dec_str Tryz.underlying9) (dec_str Tryz.underlying9))) (dec_int Tryz.underlying3) (dec_slice (sz := 5) Tryz.underlying28 (by kernel_rfl) (GFrame.dec Tryz.underlying162 rfl (dec_int Tryz.underlying3) (Page.dec Tryz.underlying160 rfl (dec_int Tryz.underlying3) (dec_slice (sz := 1) Tryz.underlying22 (by kernel_rfl) (dec_str Tryz.underlying9))) (dec_bool Tryz.underlying4) (dec_int Tryz.underlying3))) (dec_int Tryz.underlying3)) (dec_bool Tryz.underlying4) (dec_slice (sz := 2) Tryz.underlying31 (by kernel_rfl) (GTx.dec Tryz.underlying142 rfl (dec_int Tryz.underlying3) (dec_int Tryz.underlying3))) (GLocks.dec Tryz.underlying35 rfl (dec_slice (sz := 4) Tryz.underlying32 (by kernel_rfl) (GLock.dec Tryz.underlying211 rfl (dec_int Tryz.underlying3) (dec_int Tryz.underlying3) (dec_int Tryz.underlying3) (dec_int Tryz.underlying3))) (dec_slice (sz := 2) Tryz.underlying33 (by kernel_rfl) (GWait.dec Tryz.underlying213 rfl (dec_int Tryz.underlying3) (dec_int Tryz.underlying3)))) (dec_int Tryz.underlying3)) h0
  have e : argsAV Tryz.prog [37] [GEngine.row a0] = [a0.av] := by
    first | (simp only [argsAV, argAV, Tryz.underlying37]; done) | (simp only [argsAV, argAV, Tryz.underlying37]; rfl)
  show Con Tryz.prog noMv 4 (argsAV Tryz.prog [37] [GEngine.row a0]) [] _
  rw [e]
  exact c_FnExactUndoNeeds w0
set_option maxRecDepth 100000 in
theorem lifted (os : Os) (started : os.Started) (H : Type) (enc : TypeId × Value → H) :
    ReturnsInHanded {} Tryz.checked os 4 .any (Rows.fnExactUndoNeedsSpec.pre6 enc Tryz.prog Tryz.f4 Rows.fnExactUndoNeedsRow.domain false) (Rows.fnExactUndoNeedsSpec.post enc Tryz.prog Tryz.f4 false true false false) := by
  refine returnsInHanded_of_change (C := Tryz.checked) own started (by kernel_rfl) Tryz.func4
    (ChangeSpec.witness6 (enc := enc) (C := Tryz.checked) false ⟨#[], #[.agg #[.slice none 0 0, .slice none 0 0, .bool false, .slice none 0 0, .int .i64 0, .slice none 0 0, .int .i64 0, .slice none 0 0, .int .i64 0, .bool false, .slice none 0 0, .slice none 0 0, .slice none 0 0, .int .i64 0]], []⟩ 8 (by kernel_rfl) (by kernel_rfl) (by kernel_rfl) (by kernel_rfl)) ?_
  intro W base args ds gs before hval hW hcnd _
  refine law_contract closedTs laid (by kernel_rfl) rfl rfl Tryz.underlying4 con (fun hl => ?_) hval hW
  match ds, hl with
  | [x0], _ => rfl
theorem over : Rows.fnExactUndoNeedsRow.holds Tryz.pinned (OpenSpec.ofChange Rows.fnExactUndoNeedsSpec) :=
  OpenClaim.holds_of_wide 4 Tryz.f4 rfl rfl rfl rfl rfl rfl rfl ⟨rfl, rfl, rfl, rfl, rfl⟩ rfl rfl rfl rfl rfl (by kernel_rfl) Tryz.func4 (by kernel_rfl)
    (of_decide_eq_true (by kernel_rfl)) (by unfold Func.isWrapper; first | (rw [if_pos (by decide +kernel)]; kernel_rfl) | (rw [if_neg (by decide +kernel)]; exact ⟨rfl, rfl⟩))
    (fun os started H enc _ => lifted os started H enc)
theorem proved : Rows.FnExactUndoNeedsSaid := over
end fnExactUndoNeeds
end Go.Proofs.YtbanegjijhmojaaGreat
#print axioms Go.Proofs.YtbanegjijhmojaaGreat.fnExactUndoNeeds.proved
