/- The law FnExactStmtText of the given program returns true for all arguments, and its arguments read behind the call as they read before: the statement FnExactStmtTextSaid, with no condition. -/
import Derived.Test.YtglpaaehiibfpaaDoorW1
import Derived.Test.YtglpaaehiibfpaaDoorRows
import Derived.Test.YtglpaaehiibfpaaDoorTie
import Derived.Test.YtglpaaehiibfpaaDoorCards
import Derived.LaidLaws
import Derived.SevenTiedAt
namespace Go.Proofs.YtglpaaehiibfpaaDoor
open Go Go.AM Go.ChangeShapes Go.RowKit
set_option linter.unusedVariables false
set_option linter.unusedSimpArgs false
namespace fnExactStmtText
set_option maxRecDepth 10000
/- loop.example/g00332/laws.FnExactStmtText -/
def k_c_FnExactStmtText : XCode :=
 .seq (.ops [.op (some 1) (.box (.t 0)),
   .op (some 2) (.mov (.k (.bool false)))])
 (.keep [1] (.seq (.ops [.op (some 3) (.mov (.k (.int .i64 1048576)))])
 (.keep [1, 3] (.seq (.ops [.op (some 9) (.loadN 14 (.t 1)),
   .op (some 10) (.mov (.t 3)),
   .call (some 11) 10 [.t 9, .t 10],
   .op (some 3) (.mov (.t 11))])
 (.keep [1, 3] (.seq (.seq (.ops [.op (some 12) (.mov (.t 3)),
   .op (some 13) (.bin .lss (.t 12) (.k (.int .i64 0)))])
  (.keep [1, 13] (.cond (.t 13)
  (.seq (.ops [.op (some 2) (.mov (.k (.bool true)))])
   (.keep [2] (.ret)))
  (.skip))))
 (.keep [1] (.seq (.ops [.op (some 15) (.loadN 14 (.t 1)),
   .call (some 16) 12 [.t 15],
   .call (some 17) 11 [.t 16],
   .op (some 14) (.mov (.t 17)),
   .op (some 18) (.ext (.t 14) 0),
   .op (some 19) (.ext (.t 14) 1),
   .op (some 4) (.mov (.t 18)),
   .op (some 5) (.mov (.t 19))])
 (.keep [1, 4, 5] (.seq (.ops [.op (some 20) (.loadN 14 (.t 1)),
   .call (some 21) 12 [.t 20],
   .op (some 6) (.alloc [.int .i64 0, .int .i64 0, .int .i64 0, .int .i64 0, .int .i64 0, .str [], .int .i64 0, .int .i64 0, .str [], .int .i64 0, .nils 7, .nils 7, .int .i64 0, .bool false]),
   .op none (.store 14 (.t 6) (.t 21))])
 (.keep [1, 4, 5, 6] (.seq (.ops [.op (some 23) (.loadN 14 (.t 6)),
   .call (some 24) 13 [.t 23],
   .op (some 22) (.mov (.t 24)),
   .op (some 25) (.ext (.t 22) 0),
   .op (some 26) (.ext (.t 22) 1),
   .op (some 7) (.mov (.t 25)),
   .op (some 8) (.mov (.t 26))])
 (.keep [1, 4, 5, 6, 7, 8] (.seq (.seq (.ops [.op (some 27) (.mov (.t 7)),
   .op (some 28) (.mov (.t 4)),
   .op (some 29) (.bin .neq (.t 27) (.t 28)),
   .op (some 30) (.mov (.t 29)),
   .andor 34 false 3 30 [.op (some 31) (.mov (.t 8)), .op (some 32) (.mov (.t 5)), .op (some 33) (.bin .neq (.t 31) (.t 32))] (.t 33)])
  (.keep [1, 6, 34] (.cond (.t 34)
  (.seq (.ops [.op (some 2) (.mov (.k (.bool false)))])
   (.keep [2] (.ret)))
  (.skip))))
 (.keep [1, 6] (.seq (.seq (.drawE [[], [], [1], [0, 1, 2], [0, 1, 2, 3]] [.op (some 35) (.loadN 14 (.t 6)),
   .op (some 36) (.loadN 14 (.t 1)),
   .call (some 37) 12 [.t 36]]
   [.call (some 38) 14 [.t 35, .t 37],
   .op (some 39) (.not (.t 38))])
  (.keep [39] (.cond (.t 39)
  (.seq (.ops [.op (some 2) (.mov (.k (.bool false)))])
   (.keep [2] (.ret)))
  (.skip))))
 (.keep [] (.seq (.ops [.op (some 2) (.mov (.k (.bool true)))])
 (.keep [2] (.ret))))))))))))))))))))
theorem k_c_FnExactStmtText_fits : fitsF Tryd.prog 4 ⟨40, k_c_FnExactStmtText, [.t 2]⟩ = true := by kernel_rfl
theorem c_FnExactStmtText {s : GStmt} (ws : s.wf) : Con Tryd.prog noMv 4 [s.av] [] (fun r h => r = bool true ∧ h = []) := by
 refine con_of2 k_c_FnExactStmtText_fits rfl fun C hP hmv => ?_
 unfold k_c_FnExactStmtText
 refine cx_seq ?_
 refine cx_ops ?_
 refine ax_e (e_box rfl rfl (by decide) rfl rfl rfl) ?_
 refine ax_q (q_mov rfl) ?_
 refine ax_nil ?_
 refine cx_keep rfl rfl ?_
 refine cx_seq ?_
 refine cx_ops ?_
 refine ax_q (q_mov rfl) ?_
 refine ax_nil ?_
 refine cx_keep rfl rfl ?_
 refine cx_seq ?_
 refine cx_ops ?_
 refine ax_q (q_ldN rfl rfl rfl) ?_
 refine ax_q (q_mov rfl) ?_
 have sp0 := szF_spec (1048576) (GStmt.sz s)
 refine ax_call rfl (vc_pure0 (c_szStmt (by omega) (by omega) ws) hP rfl rfl ?_)
 refine ax_q (q_mov rfl) ?_
 refine ax_nil ?_
 refine cx_keep rfl rfl ?_
 refine cx_seq ?_
 refine cx_seq ?_
 refine cx_ops ?_
 refine ax_q (q_mov rfl) ?_
 refine ax_q (q_ibin rfl rfl rfl) ?_
 refine ax_nil ?_
 refine cx_keep rfl rfl ?_
 refine cx_cond rfl (fun h0 => ?_) (fun h0 => ?_)
 ·
  have h0 := dT h0
  refine cx_seq ?_
  refine cx_ops ?_
  refine ax_q (q_mov rfl) ?_
  refine ax_nil ?_
  refine cx_keep rfl rfl ?_
  refine cx_ret (ret0 rfl rfl ?_)
  exact ⟨rfl, rfl⟩
 ·
  have h0 := dF h0
  have ⟨ls0, ls1⟩ : s.Set.Nodes.length ≤ 1048576 ∧ s.Where.Nodes.length ≤ 1048576 := by
   have : GStmt.sz s = GRow.sz s.Row + GExpr.sz s.Set + GExpr.sz s.Where := rfl
   have : GRow.sz s.Row = GValue.sz s.Row.N + GValue.sz s.Row.Name := rfl
   have : GValue.sz s.Row.N = s.Row.N.T.length := rfl
   have : GValue.sz s.Row.Name = s.Row.Name.T.length := rfl
   have : GExpr.sz s.Set = szL GExprNode.sz s.Set.Nodes := rfl
   have := @szL_len _ GExprNode.sz (s.Set.Nodes)
   have : GExpr.sz s.Where = szL GExprNode.sz s.Where.Nodes := rfl
   have := @szL_len _ GExprNode.sz (s.Where.Nodes)
   omega
  have ⟨hs0, hs1, hw0, hw1, hr0, hr1⟩ := stmt_sz (s := s) (by omega)
  refine cx_skip ?_
  refine cx_keep rfl rfl ?_
  refine cx_seq ?_
  refine cx_ops ?_
  refine ax_q (q_ldN rfl rfl rfl) ?_
  first | refine ax_call rfl (vc_pure (c_toStmt  ?_ ?_) hP rfl ?_) | refine ax_call rfl (vc_lend (c_toStmt  ?_ ?_) hP (by repeat (first | exact lal_id _ rfl | exact LAL.nil | refine LAL.cons ?_ ?_ | exact la_id _ rfl | exact LA.lend (lend_whole rfl (by first | (simp; done) | (rw [List.length_map]; rfl))) | refine LA.agg ?_ | refine LA.fn ?_ | refine LA.lend ?_ | exact Lend.d _ | exact Lend.zs _ | exact lend_whole rfl (by first | (simp; done) | (rw [List.length_map]; rfl)) | refine Lend.ptr rfl ?_ | refine Lend.fn ?_ | exact LendL.nil | refine LendL.cons ?_ ?_)) ?_)
  ·
   first | assumption | omega | (simp; done) | (simp; omega)
  ·
   first | assumption | omega | (simp; done) | (simp; omega)
  rintro r h ⟨rfl, rfl⟩
  refine ⟨fun i => 16 + 200 * i, [0, 1], ⟨rfl, rfl, rfl, rfl, rfl, (by first | exact (fun h => absurd h Bool.false_ne_true) | exact (fun _ => ⟨rfl, (noisl_of (by repeat (first | exact trivial | refine ⟨noisl_map (fun _ => rfl), ?_⟩ | refine ⟨?_, ?_⟩)))⟩))⟩, ?_⟩
  skip
  first | refine ax_call rfl (vc_pure0 (c_sStmtText  ?_ ?_ ?_ ?_ ?_ ?_) hP rfl rfl ?_) | refine ax_call rfl (vc_lend0 (c_sStmtText  ?_ ?_ ?_ ?_ ?_ ?_) hP (by repeat (first | exact lal_id _ rfl | exact LAL.nil | refine LAL.cons ?_ ?_ | exact la_id _ rfl | exact LA.lend (lend_whole rfl (by first | (simp; done) | (rw [List.length_map]; rfl))) | refine LA.agg ?_ | refine LA.fn ?_ | refine LA.lend ?_ | exact Lend.d _ | exact Lend.zs _ | exact lend_whole rfl (by first | (simp; done) | (rw [List.length_map]; rfl)) | refine Lend.ptr rfl ?_ | refine Lend.fn ?_ | exact LendL.nil | refine LendL.cons ?_ ?_)) rfl rfl ?_)
  ·
   first | assumption | omega | (simp; done) | (simp; omega)
  ·
   first | assumption | omega | (simp; done) | (simp; omega)
  ·
   first | assumption | omega | (simp; done) | (simp; omega)
  ·
   first | assumption | omega | (simp; done) | (simp; omega)
  ·
   first | assumption | omega | (simp; done) | (simp; omega)
  ·
   first | assumption | omega | (simp; done) | (simp; omega)
  refine ax_q (q_mov rfl) ?_
  refine ax_q (q_ext rfl rfl) ?_
  refine ax_q (q_ext rfl rfl) ?_
  refine ax_q (q_mov rfl) ?_
  refine ax_q (q_mov rfl) ?_
  refine ax_nil ?_
  refine cx_keep rfl rfl ?_
  refine cx_seq ?_
  refine cx_ops ?_
  refine ax_q (q_ldN rfl rfl rfl) ?_
  first | refine ax_call rfl (vc_pure (c_toStmt  ?_ ?_) hP rfl ?_) | refine ax_call rfl (vc_lend (c_toStmt  ?_ ?_) hP (by repeat (first | exact lal_id _ rfl | exact LAL.nil | refine LAL.cons ?_ ?_ | exact la_id _ rfl | exact LA.lend (lend_whole rfl (by first | (simp; done) | (rw [List.length_map]; rfl))) | refine LA.agg ?_ | refine LA.fn ?_ | refine LA.lend ?_ | exact Lend.d _ | exact Lend.zs _ | exact lend_whole rfl (by first | (simp; done) | (rw [List.length_map]; rfl)) | refine Lend.ptr rfl ?_ | refine Lend.fn ?_ | exact LendL.nil | refine LendL.cons ?_ ?_)) ?_)
  ·
   first | assumption | omega | (simp; done) | (simp; omega)
  ·
   first | assumption | omega | (simp; done) | (simp; omega)
  rintro r h ⟨rfl, rfl⟩
  refine ⟨fun i => 21 + 200 * i, [0, 1], ⟨rfl, rfl, rfl, rfl, rfl, (by first | exact (fun h => absurd h Bool.false_ne_true) | exact (fun _ => ⟨rfl, (noisl_of (by repeat (first | exact trivial | refine ⟨noisl_map (fun _ => rfl), ?_⟩ | refine ⟨?_, ?_⟩)))⟩))⟩, ?_⟩
  skip
  refine ax_e (e_alloc (by decide) rfl rfl) ?_
  refine ax_e (e_st rfl rfl rfl rfl rfl rfl rfl) ?_
  refine ax_nil ?_
  refine cx_keep rfl rfl ?_
  refine cx_seq ?_
  refine cx_ops ?_
  refine ax_q (q_ldN rfl rfl rfl) ?_
  first | refine ax_call rfl (vc_pure0 (c_StmtText  ?_ ?_ ?_ ?_ ?_ ?_) hP rfl rfl ?_) | refine ax_call rfl (vc_lend0 (c_StmtText  ?_ ?_ ?_ ?_ ?_ ?_) hP (by repeat (first | exact lal_id _ rfl | exact LAL.nil | refine LAL.cons ?_ ?_ | exact la_id _ rfl | exact LA.lend (lend_whole rfl (by first | (simp; done) | (rw [List.length_map]; rfl))) | refine LA.agg ?_ | refine LA.fn ?_ | refine LA.lend ?_ | exact Lend.d _ | exact Lend.zs _ | exact lend_whole rfl (by first | (simp; done) | (rw [List.length_map]; rfl)) | refine Lend.ptr rfl ?_ | refine Lend.fn ?_ | exact LendL.nil | refine LendL.cons ?_ ?_)) rfl rfl ?_)
  ·
   first | assumption | omega | (simp; done) | (simp; omega)
  ·
   first | assumption | omega | (simp; done) | (simp; omega)
  ·
   first | assumption | omega | (simp; done) | (simp; omega)
  ·
   first | assumption | omega | (simp; done) | (simp; omega)
  ·
   first | assumption | omega | (simp; done) | (simp; omega)
  ·
   first | assumption | omega | (simp; done) | (simp; omega)
  refine ax_q (q_mov rfl) ?_
  refine ax_q (q_ext rfl rfl) ?_
  refine ax_q (q_ext rfl rfl) ?_
  refine ax_q (q_mov rfl) ?_
  refine ax_q (q_mov rfl) ?_
  refine ax_nil ?_
  refine cx_keep rfl rfl ?_
  refine cx_seq ?_
  refine cx_seq ?_
  refine cx_ops ?_
  refine ax_q (q_mov rfl) ?_
  refine ax_q (q_mov rfl) ?_
  refine ax_q (q_sbin rfl rfl rfl) ?_
  refine ax_q (q_mov rfl) ?_
  apply ax_or rfl rfl
  ·
   intro g
   have g := nF g
   refine ax_q (q_mov rfl) ?_
   refine ax_q (q_mov rfl) ?_
   refine ax_q (q_ibin rfl rfl rfl) ?_
   exact ax_nil ⟨rfl, by repeat (first | exact trivial | refine ⟨rfl, ?_⟩ | refine ⟨?_, ?_⟩)⟩
  refine ax_nil ?_
  refine cx_keep rfl rfl ?_
  refine cx_cond rfl (fun h1 => ?_) (fun h1 => ?_)
  ·
   have h1 := (fun h => (or_T h).imp nT nT) h1
   first | exact absurd rfl h1 | (exfalso; omega) | exact absurd h1 (by simp [eqb_rfl] <;> omega)
  ·
   have h1 := (fun h => And.intro (nF (or_F h).1) (nF (or_F h).2)) h1
   refine cx_skip ?_
   refine cx_keep rfl rfl ?_
   refine cx_seq ?_
   refine cx_seq ?_
   refine cx_drawL 0 35 (fun _ => false) (fun _ => true) [] ([]) [[6], [1], [36]] [[], [], []] rfl ?_
   first | refine ⟨⟨35, _, []⟩, .inl ⟨rfl, rfl, rfl, locl_of (loc_q (q_ldN rfl rfl rfl))⟩, ?_⟩
   first | refine ⟨_, .inr ⟨rfl, _, rfl, .inr ⟨rfl, rfl, .inr rfl, rfl, rfl⟩, loc_q (q_ldN rfl rfl rfl)⟩, ?_⟩
   first | refine ⟨_, .inr ⟨rfl, _, rfl, .inr ⟨rfl, rfl, .inr rfl, rfl, rfl⟩, loc_call (fun i => 37 + 200 * i) false rfl (c_toStmt  (by first | assumption | omega | (simp; done) | (simp; omega)) (by first | assumption | omega | (simp; done) | (simp; omega))) hP (.inr ⟨rfl, rfl, rfl⟩) rfl rfl (fun h => by cases h)⟩, ?_⟩ | refine ⟨_, .inr ⟨rfl, _, rfl, .inr ⟨rfl, rfl, .inr rfl, rfl, rfl⟩, loc_call (fun i => 37 + 200 * i) true rfl (c_toStmt  (by first | assumption | omega | (simp; done) | (simp; omega)) (by first | assumption | omega | (simp; done) | (simp; omega))) hP (.inl ⟨rfl, (by repeat (first | exact lal_id _ rfl | exact LAL.nil | refine LAL.cons ?_ ?_ | exact la_id _ rfl | exact LA.lend (lend_whole rfl (by first | (simp; done) | (rw [List.length_map]; rfl))) | refine LA.agg ?_ | refine LA.fn ?_ | refine LA.lend ?_ | exact Lend.d _ | exact Lend.zs _ | exact lend_whole rfl (by first | (simp; done) | (rw [List.length_map]; rfl)) | refine Lend.ptr rfl ?_ | refine Lend.fn ?_ | exact LendL.nil | refine LendL.cons ?_ ?_))⟩) rfl rfl (fun _ => ⟨rfl, noisl_of (by repeat (first | exact trivial | refine ⟨noisl_map (fun _ => rfl), ?_⟩ | refine ⟨?_, ?_⟩))⟩)⟩, ?_⟩
   refine ⟨rfl, ?_⟩
   first | refine ax_call rfl (vc_pure0 (c_eqStmt  ?_ ?_) hP rfl rfl ?_) | refine ax_call rfl (vc_lend0 (c_eqStmt  ?_ ?_) hP (by repeat (first | exact lal_id _ rfl | exact LAL.nil | refine LAL.cons ?_ ?_ | exact la_id _ rfl | exact LA.lend (lend_whole rfl (by first | (simp; done) | (rw [List.length_map]; rfl))) | refine LA.agg ?_ | refine LA.fn ?_ | refine LA.lend ?_ | exact Lend.d _ | exact Lend.zs _ | exact lend_whole rfl (by first | (simp; done) | (rw [List.length_map]; rfl)) | refine Lend.ptr rfl ?_ | refine Lend.fn ?_ | exact LendL.nil | refine LendL.cons ?_ ?_)) rfl rfl ?_)
   ·
    first | assumption | omega | (simp; done) | (simp; omega)
   ·
    first | assumption | omega | (simp; done) | (simp; omega)
   refine ax_q (q_not rfl) ?_
   refine ax_nil ?_
   refine cx_keep rfl rfl ?_
   refine cx_cond rfl (fun h2 => ?_) (fun h2 => ?_)
   ·
    have h2 := bT h2
    first | exact absurd rfl h2 | (exfalso; omega) | exact absurd h2 (by simp [eqb_rfl] <;> omega)
   ·
    have h2 := bF h2
    refine cx_skip ?_
    refine cx_keep rfl rfl ?_
    refine cx_seq ?_
    refine cx_ops ?_
    refine ax_q (q_mov rfl) ?_
    refine ax_nil ?_
    refine cx_keep rfl rfl ?_
    refine cx_ret (ret0 rfl rfl ?_)
    exact ⟨rfl, rfl⟩

theorem own : ownKnob Tryd.prog.godebug = none := by kernel_rfl
theorem laid : laidOutB Tryd.prog = true := by kernel_rfl
theorem closedTs : closedT Tryd.prog [3, 4, 9, 22, 24, 35, 37, 39, 63] = true := by kernel_rfl
theorem con (rows : List (List D)) (h : HasAll Tryd.prog Tryd.f4.params.toList rows) : Con Tryd.prog noMv 4 (argsAV Tryd.prog Tryd.f4.params.toList rows) [] (fun r h => r = AM.bool true ∧ h = []) := by
  rw [Tryd.params4] at h ⊢
  obtain ⟨d0, r0, rfl, h0, h⟩ := h
  obtain rfl := h
  obtain ⟨a0, rfl, w0⟩ := (GStmt.dec Tryd.underlying39 rfl (dec_int Tryd.underlying3) (dec_int Tryd.underlying3) (GRow.dec Tryd.underlying37 rfl (dec_int Tryd.underlying3) (GValue.dec Tryd.underlying35 rfl (dec_int Tryd.underlying3) (dec_int Tryd.underlying3) (dec_str Tryd.underlying9)) (GValue.dec Tryd.underlying35 rfl (dec_int Tryd.underlying3) (dec_int Tryd.underlying3) (dec_str Tryd.underlying9))) (dec_int Tryd.underlying3) (GExpr.dec Tryd.underlying24 rfl (dec_slice (sz := 7) Tryd.underlying22 (by kernel_rfl) (GExprNode.dec Tryd.underlying63 rfl (dec_int Tryd.underlying3) (dec_int Tryd.underlying3) (dec_int Tryd.underlying3) (dec_int Tryd.underlying3) (GValue.dec Tryd.underlying35 rfl (dec_int Tryd.underlying3) (dec_int Tryd.underlying3) (dec_str Tryd.underlying9))))) (GExpr.dec Tryd.underlying24 rfl (dec_slice (sz := 7) Tryd.underlying22 (by kernel_rfl) (GExprNode.dec Tryd.underlying63 rfl (dec_int Tryd.underlying3) (dec_int Tryd.underlying3) (dec_int Tryd.underlying3) (dec_int Tryd.underlying3) (GValue.dec Tryd.underlying35 rfl (dec_int Tryd.underlying3) (dec_int Tryd.underlying3) (dec_str Tryd.underlying9))))) (dec_int Tryd.underlying3) (dec_bool Tryd.underlying4)) h0
  have e : argsAV Tryd.prog [39] [GStmt.row a0] = [a0.av] := by
    first | (simp only [argsAV, argAV, Tryd.underlying39]; done) | (simp only [argsAV, argAV, Tryd.underlying39]; rfl)
  show Con Tryd.prog noMv 4 (argsAV Tryd.prog [39] [GStmt.row a0]) [] _
  rw [e]
  exact c_FnExactStmtText w0
/-- The settled world, what is listed holding what its initialiser lays: the witness. -/
noncomputable def laidWorld (os : Os) : World :=
  let w0 := World.holding Tryd.prog os ⟨#[], #[], []⟩
  { w0 with heap := (((((w0.heap).modify 3 (fun o => match o with
      | .cells _ t frozen => .cells #[.int .u8 0, .int .u8 1, .int .u8 28, .int .u8 2, .int .u8 29, .int .u8 14, .int .u8 24, .int .u8 3, .int .u8 30, .int .u8 22, .int .u8 20, .int .u8 15, .int .u8 25, .int .u8 17, .int .u8 4, .int .u8 8, .int .u8 31, .int .u8 27, .int .u8 13, .int .u8 23, .int .u8 21, .int .u8 19, .int .u8 16, .int .u8 7, .int .u8 26, .int .u8 12, .int .u8 18, .int .u8 6, .int .u8 11, .int .u8 5, .int .u8 10, .int .u8 9] t frozen
      | o => o)).modify 4 (fun o => match o with
      | .cells _ t frozen => .cells #[.int .u8 0, .int .u8 1, .int .u8 56, .int .u8 2, .int .u8 57, .int .u8 49, .int .u8 28, .int .u8 3, .int .u8 61, .int .u8 58, .int .u8 42, .int .u8 50, .int .u8 38, .int .u8 29, .int .u8 17, .int .u8 4, .int .u8 62, .int .u8 47, .int .u8 59, .int .u8 36, .int .u8 45, .int .u8 43, .int .u8 51, .int .u8 22, .int .u8 53, .int .u8 39, .int .u8 33, .int .u8 30, .int .u8 24, .int .u8 18, .int .u8 12, .int .u8 5, .int .u8 63, .int .u8 55, .int .u8 48, .int .u8 27, .int .u8 60, .int .u8 41, .int .u8 37, .int .u8 16, .int .u8 46, .int .u8 35, .int .u8 44, .int .u8 21, .int .u8 52, .int .u8 32, .int .u8 23, .int .u8 11, .int .u8 54, .int .u8 26, .int .u8 40, .int .u8 15, .int .u8 34, .int .u8 20, .int .u8 31, .int .u8 10, .int .u8 25, .int .u8 14, .int .u8 19, .int .u8 9, .int .u8 13, .int .u8 8, .int .u8 7, .int .u8 6] t frozen
      | o => o)).modify 2 (fun o => match o with
      | .cells _ t frozen => .cells #[.int .u64 1, .int .u64 10, .int .u64 100, .int .u64 1000, .int .u64 10000, .int .u64 100000, .int .u64 1000000, .int .u64 10000000, .int .u64 100000000, .int .u64 1000000000, .int .u64 10000000000, .int .u64 100000000000, .int .u64 1000000000000, .int .u64 10000000000000, .int .u64 100000000000000, .int .u64 1000000000000000, .int .u64 10000000000000000, .int .u64 100000000000000000, .int .u64 1000000000000000000, .int .u64 10000000000000000000] t frozen
      | o => o)).modify 0 (fun o => match o with
      | .cells _ t frozen => .cells #[.string ⟨#[105, 100]⟩, .string ⟨#[110]⟩, .string ⟨#[110, 97, 109, 101]⟩] t frozen
      | o => o)).modify 1 (fun o => match o with
      | .cells _ t frozen => .cells #[.string ⟨#[43]⟩, .string ⟨#[45]⟩, .string ⟨#[42]⟩, .string ⟨#[47]⟩, .string ⟨#[61]⟩, .string ⟨#[60]⟩, .string ⟨#[97, 110, 100]⟩, .string ⟨#[111, 114]⟩] t frozen
      | o => o) }
set_option maxRecDepth 100000 in
theorem laid_met (os : Os) (args : Array Value) : laidMetH Tryd.prog Rows.fnExactStmtTextRow.laid ((laidWorld os).forCall (fun _ _ => 0) ⟨#[], args, []⟩).memory :=
  show laidMet Tryd.prog Rows.fnExactStmtTextRow.laid _ from laidMet_of_run' 8 (by kernel_rfl) (by kernel_rfl)
set_option maxRecDepth 100000 in
theorem gok {W : World} (h : laidMetH Tryd.prog Rows.fnExactStmtTextRow.laid W) : GOK Tryd.prog (fun _ => False) noN W :=
  have h' : laidMet Tryd.prog Rows.fnExactStmtTextRow.laid W := h
  gok_three (tab_pow (l := Rows.fnExactStmtTextRow.laid) (g := 2) (t := 105) (e := 98) (by first | exact List.mem_of_getElem? (i := 2) rfl | simp [Rows.fnExactStmtTextRow]) (by kernel_rfl) (by kernel_rfl) Tryd.underlying105 Tryd.underlying98 (by kernel_rfl) (by kernel_rfl) h') (tab_strs (l := Rows.fnExactStmtTextRow.laid) (g := 0) (t := 84) (e := 9) (zs := [[105, 100], [110], [110, 97, 109, 101]]) (by first | exact List.mem_of_getElem? (i := 3) rfl | simp [Rows.fnExactStmtTextRow]) (by kernel_rfl) (by kernel_rfl) Tryd.underlying84 Tryd.underlying9 (by kernel_rfl) (by kernel_rfl) h') (tab_strs (l := Rows.fnExactStmtTextRow.laid) (g := 1) (t := 92) (e := 9) (zs := [[43], [45], [42], [47], [61], [60], [97, 110, 100], [111, 114]]) (by first | exact List.mem_of_getElem? (i := 4) rfl | simp [Rows.fnExactStmtTextRow]) (by kernel_rfl) (by kernel_rfl) Tryd.underlying92 Tryd.underlying9 (by kernel_rfl) (by kernel_rfl) h')
set_option maxRecDepth 100000 in
theorem lifted (os : Os) (started : os.Started) (H : Type) (enc : TypeId × Value → H) :
    ReturnsInHanded {} Tryd.checked os 4 .any (fun w args => (Rows.fnExactStmtTextSpec.pre enc Tryd.prog Tryd.f4 Rows.fnExactStmtTextRow.domain false w args ∧ laidMetH Tryd.prog Rows.fnExactStmtTextRow.laid w) ∧ sizedMet enc Tryd.prog Tryd.f4 (OpenSpec.ofChange Rows.fnExactStmtTextSpec) false w args) (Rows.fnExactStmtTextSpec.post enc Tryd.prog Tryd.f4 false true false false) := by
  refine returnsInHanded_of_change_and (C := Tryd.checked) (X := fun w _ => laidMetH Tryd.prog Rows.fnExactStmtTextRow.laid w) (fun _ _ _ hh h => h.of_heap hh) own started (by kernel_rfl) Tryd.func4
    (ChangeSpec.witness_at (enc := enc) (C := Tryd.checked) (os := os) (X := fun w _ => laidMetH Tryd.prog Rows.fnExactStmtTextRow.laid w) false (laidWorld os) #[.agg #[.int .i64 0, .int .i64 0, .int .i64 0, .int .i64 0, .int .i64 0, .string ⟨#[]⟩, .int .i64 0, .int .i64 0, .string ⟨#[]⟩, .int .i64 0, .slice none 0 0, .slice none 0 0, .int .i64 0, .bool false]] 8 rfl (by kernel_rfl) (by kernel_rfl) (by kernel_rfl) (by kernel_rfl) (by kernel_rfl) (laid_met os _)) ?_
  intro W base args ds gs before hval hW hcnd _ hL _
  refine law_contractV closedTs laid (by kernel_rfl) (by kernel_rfl) rfl Tryd.underlying4 con (fun hl hg => ?_) hval hW (gok hL)
  match ds, gs, hl, hg with
  | [x0], [y0, y1], _, _ => rfl
theorem over : Rows.fnExactStmtTextRow.holds Tryd.pinned (OpenSpec.ofChange Rows.fnExactStmtTextSpec) :=
  OpenClaim.holds_of_wide 4 Tryd.f4 rfl rfl rfl rfl rfl rfl rfl ⟨rfl, rfl, rfl, rfl, rfl⟩ rfl rfl rfl rfl rfl (by kernel_rfl) Tryd.func4 (by kernel_rfl)
    (of_decide_eq_true (by kernel_rfl)) (by unfold Func.isWrapper; first | (rw [if_pos (by decide +kernel)]; kernel_rfl) | (rw [if_neg (by decide +kernel)]; exact ⟨rfl, rfl⟩))
    (fun os started H enc _ => lifted os started H enc)
theorem proved : Rows.FnExactStmtTextCardSaid :=
  Claim7.holds_tied_plain_at .later [] [.data, .data, .data, .widerDeep, .data] true (true, "e4fa4afc094b3345defce39107520122eb5449c80f210a4944f50f12e9a9eb98") false
    over (fun _ h => by cases h) (by kernel_rfl) (fun _ h => by cases h) fnExactStmtText_row_tie rfl ⟨rfl, rfl⟩ (by kernel_rfl) rfl
    (fun f fn hf hfn => by
      obtain rfl : f = 4 := (Option.some.inj ((show Tryd.prog.funcNamed "loop.example/g00332/laws.FnExactStmtText" = some 4 by kernel_rfl).symm.trans hf)).symm
      obtain rfl : fn = Tryd.f4 := (Option.some.inj (Tryd.func4.symm.trans hfn)).symm
      refine ⟨by kernel_rfl, fun j t ht => ?_⟩
      rw [Tryd.params4] at ht
      rcases j with _ | j
      · obtain rfl : t = 39 := by simpa using ht.symm
        exact (show Tryd.prog.wantsStandIn 39 = false by kernel_rfl)
      · simp at ht)
    (by kernel_rfl)
end fnExactStmtText
end Go.Proofs.YtglpaaehiibfpaaDoor
#print axioms Go.Proofs.YtglpaaehiibfpaaDoor.fnExactStmtText.proved
