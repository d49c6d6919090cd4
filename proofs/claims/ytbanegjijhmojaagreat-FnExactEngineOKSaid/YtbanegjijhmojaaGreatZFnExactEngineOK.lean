/- The law FnExactEngineOK of the given program returns true for all arguments, and its arguments read behind the call as they read before: the statement FnExactEngineOKSaid, with no condition. -/
import Derived.Test.YtbanegjijhmojaaGreatW2
import Derived.Test.YtbanegjijhmojaaGreatRows
namespace Go.Proofs.YtbanegjijhmojaaGreat
open Go Go.AM Go.ChangeShapes Go.RowKit
set_option linter.unusedVariables false
set_option linter.unusedSimpArgs false
namespace fnExactEngineOK
set_option maxRecDepth 10000
/- loop.example/g00332/laws.FnExactEngineOK -/
def k_c_FnExactEngineOK : XCode :=
 .seq (.ops [.op (some 1) (.box (.t 0)),
   .op (some 2) (.mov (.k (.bool false)))])
 (.keep [1] (.seq (.ops [.op (some 3) (.mov (.k (.int .i64 1048576)))])
 (.keep [1, 3] (.seq (.ops [.op (some 7) (.loadN 14 (.t 1)),
   .op (some 8) (.mov (.t 3)),
   .call (some 9) 7 [.t 7, .t 8],
   .op (some 3) (.mov (.t 9))])
 (.keep [1, 3] (.seq (.seq (.ops [.op (some 10) (.mov (.t 3)),
   .op (some 11) (.bin .lss (.t 10) (.k (.int .i64 0)))])
  (.keep [1, 11] (.cond (.t 11)
  (.seq (.ops [.op (some 2) (.mov (.k (.bool true)))])
   (.keep [2] (.ret)))
  (.skip))))
 (.keep [1] (.seq (.ops [.op (some 12) (.loadN 14 (.t 1)),
   .call (some 13) 9 [.t 12],
   .call (some 14) 8 [.t 13],
   .op (some 4) (.mov (.t 14))])
 (.keep [1, 4] (.seq (.ops [.op (some 15) (.loadN 14 (.t 1)),
   .call (some 16) 9 [.t 15],
   .op (some 5) (.alloc [.nils 1, .nils 2, .bool false, .nils 1, .int .i64 0, .nils 10, .int .i64 0, .nils 5, .int .i64 0, .bool false, .nils 2, .nils 4, .nils 2, .int .i64 0]),
   .op none (.store 14 (.t 5) (.t 16))])
 (.keep [1, 4, 5] (.seq (.ops [.op (some 17) (.loadN 14 (.t 5)),
   .call (some 18) 10 [.t 17],
   .op (some 6) (.mov (.t 18))])
 (.keep [1, 4, 5, 6] (.seq (.seq (.ops [.op (some 19) (.mov (.t 6)),
   .op (some 20) (.mov (.t 4)),
   .op (some 21) (.eqb true (.t 19) (.t 20))])
  (.keep [1, 5, 21] (.cond (.t 21)
  (.seq (.ops [.op (some 2) (.mov (.k (.bool false)))])
   (.keep [2] (.ret)))
  (.skip))))
 (.keep [1, 5] (.seq (.seq (.drawE [[], [], [1], [0, 1, 2], [0, 1, 2, 3]] [.op (some 22) (.loadN 14 (.t 5)),
   .op (some 23) (.loadN 14 (.t 1)),
   .call (some 24) 9 [.t 23]]
   [.call (some 25) 11 [.t 22, .t 24],
   .op (some 26) (.not (.t 25))])
  (.keep [26] (.cond (.t 26)
  (.seq (.ops [.op (some 2) (.mov (.k (.bool false)))])
   (.keep [2] (.ret)))
  (.skip))))
 (.keep [] (.seq (.ops [.op (some 2) (.mov (.k (.bool true)))])
 (.keep [2] (.ret))))))))))))))))))))
theorem k_c_FnExactEngineOK_fits : fitsF Tryz.prog 3 ⟨27, k_c_FnExactEngineOK, [.t 2]⟩ = true := by kernel_rfl
theorem c_FnExactEngineOK {e : GEngine} (we : e.wf) : Con Tryz.prog noMv 3 [e.av] [] (fun r h => r = bool true ∧ h = []) := by
 refine con_of2 k_c_FnExactEngineOK_fits rfl fun C hP hmv => ?_
 unfold k_c_FnExactEngineOK
 refine cx_seq ?_
 refine cx_ops ?_
 refine ax_e (e_box rfl rfl (by decide) rfl rfl rfl) ?_
 refine ax_q (q_mov rfl) ?_
 refine ax_nil ?_
 refine cx_keep rfl rfl ?_
 refine cx_seq ?_
 refine cx_ops ?_
 refine ax_q (q_mov rfl) ?_
 refine ax_nil ?_
 refine cx_keep rfl rfl ?_
 refine cx_seq ?_
 refine cx_ops ?_
 refine ax_q (q_ldN rfl rfl rfl) ?_
 refine ax_q (q_mov rfl) ?_
 have sp0 := szF_spec (1048576) (GEngine.sz e)
 refine ax_call rfl (vc_pure0 (c_szEngine (by omega) (by omega) we) hP rfl rfl ?_)
 refine ax_q (q_mov rfl) ?_
 refine ax_nil ?_
 refine cx_keep rfl rfl ?_
 refine cx_seq ?_
 refine cx_seq ?_
 refine cx_ops ?_
 refine ax_q (q_mov rfl) ?_
 refine ax_q (q_ibin rfl rfl rfl) ?_
 refine ax_nil ?_
 refine cx_keep rfl rfl ?_
 refine cx_cond rfl (fun h0 => ?_) (fun h0 => ?_)
 ·
  have h0 := dT h0
  refine cx_seq ?_
  refine cx_ops ?_
  refine ax_q (q_mov rfl) ?_
  refine ax_nil ?_
  refine cx_keep rfl rfl ?_
  refine cx_ret (ret0 rfl rfl ?_)
  exact ⟨rfl, rfl⟩
 ·
  have h0 := dF h0
  have ⟨le0, le1, le2, le3, le4, le5, le6, le7⟩ : e.Store.Disk.Sectors.length ≤ 1048576 ∧ e.Store.Disk.Cache.length ≤ 1048576 ∧ e.Store.Disk.Keep.length ≤ 1048576 ∧ e.Store.Log.length ≤ 1048576 ∧ e.Store.Frames.length ≤ 1048576 ∧ e.Txs.length ≤ 1048576 ∧ e.Locks.Held.length ≤ 1048576 ∧ e.Locks.Waits.length ≤ 1048576 := by
   have : GEngine.sz e = GStore.sz e.Store + szL (fun _ => 0) e.Txs + GLocks.sz e.Locks := rfl
   have : GStore.sz e.Store = GDisk.sz e.Store.Disk + szL GLogRecord.sz e.Store.Log + szL GFrame.sz e.Store.Frames := rfl
   have : GDisk.sz e.Store.Disk = szL List.length e.Store.Disk.Sectors + szL GPending.sz e.Store.Disk.Cache + szL (fun _ => 0) e.Store.Disk.Keep := rfl
   have := @szL_len _ List.length (e.Store.Disk.Sectors)
   have := @szL_len _ GPending.sz (e.Store.Disk.Cache)
   have := @szL_len _ (fun _ => 0) (e.Store.Disk.Keep)
   have := @szL_len _ GLogRecord.sz (e.Store.Log)
   have := @szL_len _ GFrame.sz (e.Store.Frames)
   have := @szL_len _ (fun _ => 0) (e.Txs)
   have : GLocks.sz e.Locks = szL (fun _ => 0) e.Locks.Held + szL (fun _ => 0) e.Locks.Waits := rfl
   have := @szL_len _ (fun _ => 0) (e.Locks.Held)
   have := @szL_len _ (fun _ => 0) (e.Locks.Waits)
   omega
  have hb := enB_of (e := e) we (by omega)
  refine cx_skip ?_
  refine cx_keep rfl rfl ?_
  refine cx_seq ?_
  refine cx_ops ?_
  refine ax_q (q_ldN rfl rfl rfl) ?_
  first | refine ax_call rfl (vc_pure0 (c_toEngine  ?_) hP rfl rfl ?_) | refine ax_call rfl (vc_lend0 (c_toEngine  ?_) hP (by repeat (first | exact lal_id _ rfl | exact LAL.nil | refine LAL.cons ?_ ?_ | exact la_id _ rfl | exact LA.lend (lend_whole rfl (by first | (simp; done) | (rw [List.length_map]; rfl))) | refine LA.agg ?_ | refine LA.fn ?_ | refine LA.lend ?_ | exact Lend.d _ | exact Lend.zs _ | exact lend_whole rfl (by first | (simp; done) | (rw [List.length_map]; rfl)) | refine Lend.ptr rfl ?_ | refine Lend.fn ?_ | exact LendL.nil | refine LendL.cons ?_ ?_)) rfl rfl ?_)
  ·
   first | assumption | omega | (simp; done) | (simp; omega)
  first | refine ax_call rfl (vc_pure0 (c_sEngineOK  ?_) hP rfl rfl ?_) | refine ax_call rfl (vc_lend0 (c_sEngineOK  ?_) hP (by repeat (first | exact lal_id _ rfl | exact LAL.nil | refine LAL.cons ?_ ?_ | exact la_id _ rfl | exact LA.lend (lend_whole rfl (by first | (simp; done) | (rw [List.length_map]; rfl))) | refine LA.agg ?_ | refine LA.fn ?_ | refine LA.lend ?_ | exact Lend.d _ | exact Lend.zs _ | exact lend_whole rfl (by first | (simp; done) | (rw [List.length_map]; rfl)) | refine Lend.ptr rfl ?_ | refine Lend.fn ?_ | exact LendL.nil | refine LendL.cons ?_ ?_)) rfl rfl ?_)
  ·
   first | assumption | omega | (simp; done) | (simp; omega)
  refine ax_q (q_mov rfl) ?_
  refine ax_nil ?_
  refine cx_keep rfl rfl ?_
  refine cx_seq ?_
  refine cx_ops ?_
  refine ax_q (q_ldN rfl rfl rfl) ?_
  first | refine ax_call rfl (vc_pure0 (c_toEngine  ?_) hP rfl rfl ?_) | refine ax_call rfl (vc_lend0 (c_toEngine  ?_) hP (by repeat (first | exact lal_id _ rfl | exact LAL.nil | refine LAL.cons ?_ ?_ | exact la_id _ rfl | exact LA.lend (lend_whole rfl (by first | (simp; done) | (rw [List.length_map]; rfl))) | refine LA.agg ?_ | refine LA.fn ?_ | refine LA.lend ?_ | exact Lend.d _ | exact Lend.zs _ | exact lend_whole rfl (by first | (simp; done) | (rw [List.length_map]; rfl)) | refine Lend.ptr rfl ?_ | refine Lend.fn ?_ | exact LendL.nil | refine LendL.cons ?_ ?_)) rfl rfl ?_)
  ·
   first | assumption | omega | (simp; done) | (simp; omega)
  refine ax_e (e_alloc (by decide) rfl rfl) ?_
  refine ax_e (e_st rfl rfl rfl rfl rfl rfl rfl) ?_
  refine ax_nil ?_
  refine cx_keep rfl rfl ?_
  refine cx_seq ?_
  refine cx_ops ?_
  refine ax_q (q_ldN rfl rfl rfl) ?_
  first | refine ax_call rfl (vc_pure0 (c_EngineOK  ?_) hP rfl rfl ?_) | refine ax_call rfl (vc_lend0 (c_EngineOK  ?_) hP (by repeat (first | exact lal_id _ rfl | exact LAL.nil | refine LAL.cons ?_ ?_ | exact la_id _ rfl | exact LA.lend (lend_whole rfl (by first | (simp; done) | (rw [List.length_map]; rfl))) | refine LA.agg ?_ | refine LA.fn ?_ | refine LA.lend ?_ | exact Lend.d _ | exact Lend.zs _ | exact lend_whole rfl (by first | (simp; done) | (rw [List.length_map]; rfl)) | refine Lend.ptr rfl ?_ | refine Lend.fn ?_ | exact LendL.nil | refine LendL.cons ?_ ?_)) rfl rfl ?_)
  ·
   first | assumption | omega | (simp; done) | (simp; omega)
  refine ax_q (q_mov rfl) ?_
  refine ax_nil ?_
  refine cx_keep rfl rfl ?_
  refine cx_seq ?_
  refine cx_seq ?_
  refine cx_ops ?_
  refine ax_q (q_mov rfl) ?_
  refine ax_q (q_mov rfl) ?_
  refine ax_q (q_eqb rfl rfl) ?_
  refine ax_nil ?_
  refine cx_keep rfl rfl ?_
  refine cx_cond rfl (fun h1 => ?_) (fun h1 => ?_)
  ·
   have h1 := bneT h1
   first | exact absurd rfl h1 | (exfalso; omega) | exact absurd h1 (by simp [eqb_rfl] <;> omega)
  ·
   have h1 := bneF h1
   refine cx_skip ?_
   refine cx_keep rfl rfl ?_
   refine cx_seq ?_
   refine cx_seq ?_
   refine cx_drawL 0 22 (fun _ => false) (fun _ => true) [] ([]) [[5], [1], [23]] [[], [], []] rfl ?_
   first | refine ⟨⟨22, _, []⟩, .inl ⟨rfl, rfl, rfl, locl_of (loc_q (q_ldN rfl rfl rfl))⟩, ?_⟩
   first | refine ⟨_, .inr ⟨rfl, _, rfl, .inr ⟨rfl, rfl, .inr rfl, rfl, rfl⟩, loc_q (q_ldN rfl rfl rfl)⟩, ?_⟩
   first | refine ⟨_, .inr ⟨rfl, _, rfl, .inr ⟨rfl, rfl, .inr rfl, rfl, rfl⟩, loc_call (fun i => 24 + 200 * i) false rfl (c_toEngine  (by first | assumption | omega | (simp; done) | (simp; omega))) hP (.inr ⟨rfl, rfl, rfl⟩) rfl rfl (fun h => by cases h)⟩, ?_⟩ | refine ⟨_, .inr ⟨rfl, _, rfl, .inr ⟨rfl, rfl, .inr rfl, rfl, rfl⟩, loc_call (fun i => 24 + 200 * i) true rfl (c_toEngine  (by first | assumption | omega | (simp; done) | (simp; omega))) hP (.inl ⟨rfl, (by repeat (first | exact lal_id _ rfl | exact LAL.nil | refine LAL.cons ?_ ?_ | exact la_id _ rfl | exact LA.lend (lend_whole rfl (by first | (simp; done) | (rw [List.length_map]; rfl))) | refine LA.agg ?_ | refine LA.fn ?_ | refine LA.lend ?_ | exact Lend.d _ | exact Lend.zs _ | exact lend_whole rfl (by first | (simp; done) | (rw [List.length_map]; rfl)) | refine Lend.ptr rfl ?_ | refine Lend.fn ?_ | exact LendL.nil | refine LendL.cons ?_ ?_))⟩) rfl rfl (fun _ => ⟨rfl, noisl_of (by repeat (first | exact trivial | refine ⟨noisl_map (fun _ => rfl), ?_⟩ | refine ⟨?_, ?_⟩))⟩)⟩, ?_⟩
   refine ⟨rfl, ?_⟩
   first | refine ax_call rfl (vc_pure0 (c_eqEngine  ?_) hP rfl rfl ?_) | refine ax_call rfl (vc_lend0 (c_eqEngine  ?_) hP (by repeat (first | exact lal_id _ rfl | exact LAL.nil | refine LAL.cons ?_ ?_ | exact la_id _ rfl | exact LA.lend (lend_whole rfl (by first | (simp; done) | (rw [List.length_map]; rfl))) | refine LA.agg ?_ | refine LA.fn ?_ | refine LA.lend ?_ | exact Lend.d _ | exact Lend.zs _ | exact lend_whole rfl (by first | (simp; done) | (rw [List.length_map]; rfl)) | refine Lend.ptr rfl ?_ | refine Lend.fn ?_ | exact LendL.nil | refine LendL.cons ?_ ?_)) rfl rfl ?_)
   ·
    first | assumption | omega | (simp; done) | (simp; omega)
   refine ax_q (q_not rfl) ?_
   refine ax_nil ?_
   refine cx_keep rfl rfl ?_
   refine cx_cond rfl (fun h2 => ?_) (fun h2 => ?_)
   ·
    have h2 := bT h2
    first | exact absurd rfl h2 | (exfalso; omega) | exact absurd h2 (by simp [eqb_rfl] <;> omega)
   ·
    have h2 := bF h2
    refine cx_skip ?_
    refine cx_keep rfl rfl ?_
    refine cx_seq ?_
    refine cx_ops ?_
    refine ax_q (q_mov rfl) ?_
    refine ax_nil ?_
    refine cx_keep rfl rfl ?_
    refine cx_ret (ret0 rfl rfl ?_)
    exact ⟨rfl, rfl⟩

theorem own : ownKnob Tryz.prog.godebug = none := by kernel_rfl
theorem laid : laidOutB Tryz.prog = true := by kernel_rfl
theorem closedTs : closedT Tryz.prog [3, 4, 9, 22, 23, 24, 26, 27, 28, 30, 31, 32, 33, 35, 37, 142, 158, 160, 162, 211, 213, 221] = true := by kernel_rfl
theorem con (rows : List (List D)) (h : HasAll Tryz.prog Tryz.f3.params.toList rows) : Con Tryz.prog noMv 3 (argsAV Tryz.prog Tryz.f3.params.toList rows) [] (fun r h => r = AM.bool true ∧ h = []) := by
  rw [Tryz.params3] at h ⊢
  obtain ⟨d0, r0, rfl, h0, h⟩ := h
  obtain rfl := h
  obtain ⟨a0, rfl, w0⟩ := (GEngine.dec Tryz.underlying37 rfl (GStore.dec Tryz.underlying30 rfl (GDisk.dec Tryz.underlying26 rfl (dec_slice (sz := 1) Tryz.underlying22 (by kernel_rfl) (dec_str Tryz.underlying9)) (dec_slice (sz := 2) Tryz.underlying23 (by kernel_rfl) (GPending.dec Tryz.underlying221 rfl (dec_int Tryz.underlying3) (dec_str Tryz.underlying9))) (dec_bool Tryz.underlying4) (dec_slice (sz := 1) Tryz.underlying24 (by kernel_rfl) (dec_int Tryz.underlying3))) (dec_int Tryz.underlying3) (dec_slice (sz := 10) Tryz.underlying27 (by kernel_rfl) (GLogRecord.dec Tryz.underlying158 rfl (dec_int Tryz.underlying3) (dec_int Tryz.underlying3) (dec_int Tryz.underlying3) (dec_int Tryz.underlying3) (dec_int Tryz.underlying3) (dec_int Tryz.underlying3) (dec_int Tryz.underlying3) (dec_int Tryz.underlying3) (dec_str Tryz.underlying9) (dec_str Tryz.underlying9))) (dec_int Tryz.underlying3) (dec_slice (sz := 5) Tryz.underlying28 (by kernel_rfl) (GFrame.dec Tryz.underlying162 rfl (dec_int Tryz.underlying3) (Page.dec Tryz.underlying160 rfl (dec_int Tryz.underlying3) (dec_slice (sz := 1) Tryz.underlying22 (by kernel_rfl) (dec_str Tryz.underlying9))) (dec_bool Tryz.underlying4) (dec_int Tryz.underlying3))) (dec_int Tryz.underlying3)) (dec_bool Tryz.underlying4) (dec_slice (sz := 2) Tryz.underlying31 (by kernel_rfl) (GTx.dec Tryz.underlying142 rfl (dec_int Tryz.underlying3) (dec_int Tryz.underlying3))) (GLocks.dec Tryz.underlying35 rfl (dec_slice (sz := 4) Tryz.underlying32 (by kernel_rfl) (GLock.dec Tryz.underlying211 rfl (dec_int Tryz.underlying3) (dec_int Tryz.underlying3) (dec_int Tryz.underlying3) (dec_int Tryz.underlying3))) (dec_slice (sz := 2) Tryz.underlying33 (by kernel_rfl) (GWait.dec Tryz.underlying213 rfl (dec_int Tryz.underlying3) (dec_int Tryz.underlying3)))) (dec_int Tryz.underlying3)) h0
  have e : argsAV Tryz.prog [37] [GEngine.row a0] = [a0.av] := by
    first | (simp only [argsAV, argAV, Tryz.underlying37]; done) | (simp only [argsAV, argAV, Tryz.underlying37]; rfl)
  show Con Tryz.prog noMv 3 (argsAV Tryz.prog [37] [GEngine.row a0]) [] _
  rw [e]
  exact c_FnExactEngineOK w0
set_option maxRecDepth 100000 in
theorem lifted (os : Os) (started : os.Started) (H : Type) (enc : TypeId × Value → H) :
    ReturnsInHanded {} Tryz.checked os 3 .any (Rows.fnExactEngineOKSpec.pre6 enc Tryz.prog Tryz.f3 Rows.fnExactEngineOKRow.domain false) (Rows.fnExactEngineOKSpec.post enc Tryz.prog Tryz.f3 false true false false) := by
  refine returnsInHanded_of_change (C := Tryz.checked) own started (by kernel_rfl) Tryz.func3
    (ChangeSpec.witness6 (enc := enc) (C := Tryz.checked) false ⟨#[], #[.agg #[.slice none 0 0, .slice none 0 0, .bool false, .slice none 0 0, .int .i64 0, .slice none 0 0, .int .i64 0, .slice none 0 0, .int .i64 0, .bool false, .slice none 0 0, .slice none 0 0, .slice none 0 0, .int .i64 0]], []⟩ 8 (by kernel_rfl) (by kernel_rfl) (by kernel_rfl) (by kernel_rfl)) ?_
  intro W base args ds gs before hval hW hcnd _
  refine law_contract closedTs laid (by kernel_rfl) rfl rfl Tryz.underlying4 con (fun hl => ?_) hval hW
  match ds, hl with
  | [x0], _ => rfl
theorem over : Rows.fnExactEngineOKRow.holds Tryz.pinned (OpenSpec.ofChange Rows.fnExactEngineOKSpec) :=
  OpenClaim.holds_of_wide 3 Tryz.f3 rfl rfl rfl rfl rfl rfl rfl ⟨rfl, rfl, rfl, rfl, rfl⟩ rfl rfl rfl rfl rfl (by kernel_rfl) Tryz.func3 (by kernel_rfl)
    (of_decide_eq_true (by kernel_rfl)) (by unfold Func.isWrapper; first | (rw [if_pos (by decide +kernel)]; kernel_rfl) | (rw [if_neg (by decide +kernel)]; exact ⟨rfl, rfl⟩))
    (fun os started H enc _ => lifted os started H enc)
theorem proved : Rows.FnExactEngineOKSaid := over
end fnExactEngineOK
end Go.Proofs.YtbanegjijhmojaaGreat
#print axioms Go.Proofs.YtbanegjijhmojaaGreat.fnExactEngineOK.proved
