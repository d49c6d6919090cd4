/- The law FnExactTreeDelete of the given program returns true for all arguments, and its arguments read behind the call as they read before: the statement FnExactTreeDeleteSaid, with no condition. -/
import Derived.Test.YtenfhamolacdaaaW1
import Derived.Test.YtenfhamolacdaaaRows
namespace Go.Proofs.Ytenfhamolacdaaa
open Go Go.AM Go.ChangeShapes Go.RowKit
set_option linter.unusedVariables false
set_option linter.unusedSimpArgs false
namespace fnExactTreeDelete
set_option maxRecDepth 10000
/- loop.example/g00332/laws.FnExactTreeDelete -/
def k_c_FnExactTreeDelete : XCode :=
 .seq (.ops [.op (some 2) (.box (.t 0)),
   .op (some 4) (.mov (.k (.bool false)))])
 (.keep [1, 2] (.seq (.seq (.ops [.op (some 16) (.mov (.t 1)),
   .op (some 17) (.lenT (.t 16)),
   .op (some 18) (.bin .gtr (.t 17) (.k (.int .i64 1048576)))])
  (.keep [1, 2, 18] (.cond (.t 18)
  (.seq (.ops [.op (some 4) (.mov (.k (.bool true)))])
   (.keep [4] (.ret)))
  (.skip))))
 (.keep [1, 2] (.seq (.ops [.op (some 5) (.mov (.k (.int .i64 1048576)))])
 (.keep [1, 2, 5] (.seq (.ops [.op (some 19) (.loadN 2 (.t 2)),
   .op (some 20) (.mov (.t 5)),
   .call (some 21) 5 [.t 19, .t 20],
   .op (some 5) (.mov (.t 21))])
 (.keep [1, 2, 5] (.seq (.seq (.ops [.op (some 22) (.mov (.t 5)),
   .op (some 23) (.bin .lss (.t 22) (.k (.int .i64 0)))])
  (.keep [1, 2, 23] (.cond (.t 23)
  (.seq (.ops [.op (some 4) (.mov (.k (.bool true)))])
   (.keep [4] (.ret)))
  (.skip))))
 (.keep [1, 2] (.seq (.ops [.op (some 25) (.loadN 2 (.t 2)),
   .call (some 26) 7 [.t 25],
   .op (some 27) (.mov (.t 1)),
   .call (some 28) 12 [.t 26, .t 27],
   .op (some 24) (.mov (.t 28)),
   .op (some 29) (.ext (.t 24) 0),
   .op (some 30) (.ext (.t 24) 1),
   .op (some 6) (.alloc [.int .i64 0, .nils 3]),
   .op none (.store 2 (.t 6) (.t 29)),
   .op (some 7) (.mov (.t 30))])
 (.keep [1, 2, 6, 7] (.seq (.ops [.op (some 31) (.loadN 2 (.t 2)),
   .call (some 32) 7 [.t 31],
   .op (some 8) (.alloc [.int .i64 0, .nils 3]),
   .op none (.store 2 (.t 8) (.t 32))])
 (.keep [1, 2, 6, 7, 8] (.seq (.ops [.op (some 34) (.loadN 2 (.t 8)),
   .op (some 35) (.mov (.t 1)),
   .call (some 36) 13 [.t 34, .t 35],
   .op (some 33) (.mov (.t 36)),
   .op (some 37) (.ext (.t 33) 0),
   .op (some 38) (.ext (.t 33) 1),
   .op (some 9) (.alloc [.int .i64 0, .nils 3]),
   .op none (.store 2 (.t 9) (.t 37)),
   .op (some 10) (.mov (.t 38))])
 (.keep [1, 2, 6, 7, 8, 9, 10] (.seq (.seq (.ops [.op (some 39) (.loadN 2 (.t 9)),
   .op (some 40) (.loadN 2 (.t 6)),
   .call (some 41) 9 [.t 39, .t 40],
   .op (some 42) (.not (.t 41)),
   .op (some 43) (.mov (.t 42)),
   .andor 47 false 4 43 [.op (some 44) (.mov (.t 10)), .op (some 45) (.mov (.t 7)), .op (some 46) (.bin .neq (.t 44) (.t 45))] (.t 46)])
  (.keep [1, 2, 6, 7, 8, 9, 10, 47] (.cond (.t 47)
  (.seq (.ops [.op (some 4) (.mov (.k (.bool false)))])
   (.keep [4] (.ret)))
  (.skip))))
 (.keep [1, 2, 6, 7, 8, 9, 10] (.seq (.seq (.drawE [[], [], [1], [0, 1, 2], [0, 1, 2, 3]] [.op (some 48) (.loadN 2 (.t 8)),
   .op (some 49) (.loadN 2 (.t 2)),
   .call (some 50) 7 [.t 49]]
   [.call (some 51) 9 [.t 48, .t 50],
   .op (some 52) (.not (.t 51))])
  (.keep [1, 2, 6, 7, 8, 9, 10, 52] (.cond (.t 52)
  (.seq (.ops [.op (some 4) (.mov (.k (.bool false)))])
   (.keep [4] (.ret)))
  (.skip))))
 (.keep [1, 2, 6, 7, 8, 9, 10] (.seq (.ops [.op (some 11) (.mov (.k (.int .i64 1)))])
 (.keep [1, 2, 6, 7, 8, 9, 10, 11] (.seq (.ops [.op (some 53) (.loadN 2 (.t 8)),
   .op (some 54) (.mov (.t 11)),
   .call (some 55) 10 [.t 53, .t 54],
   .op (some 11) (.mov (.t 55))])
 (.keep [1, 2, 6, 7, 9, 10, 11] (.seq (.seq (.ops [.op (some 56) (.mov (.t 11)),
   .op (some 57) (.bin .lss (.t 56) (.k (.int .i64 0))),
   .op (some 58) (.mov (.t 57)),
   .andor 63 false 2 58 [.op (some 59) (.loadN 2 (.t 9)), .op (some 60) (.loadN 2 (.t 6)), .call (some 61) 9 [.t 59, .t 60], .op (some 62) (.not (.t 61))] (.t 62),
   .op (some 64) (.mov (.t 63)),
   .andor 68 false 8 64 [.op (some 65) (.mov (.t 10)), .op (some 66) (.mov (.t 7)), .op (some 67) (.bin .neq (.t 65) (.t 66))] (.t 67)])
  (.keep [1, 2, 6, 7, 9, 68] (.cond (.t 68)
  (.seq (.ops [.op (some 4) (.mov (.k (.bool false)))])
   (.keep [4] (.ret)))
  (.skip))))
 (.keep [1, 2, 6, 7, 9] (.seq (.ops [.op (some 12) (.mov (.k (.int .i64 1)))])
 (.keep [1, 2, 6, 7, 9, 12] (.seq (.ops [.op (some 69) (.loadN 2 (.t 9)),
   .op (some 70) (.mov (.t 12)),
   .call (some 71) 10 [.t 69, .t 70],
   .op (some 12) (.mov (.t 71))])
 (.keep [1, 2, 6, 7, 9, 12] (.seq (.ops [.op (some 13) (.mov (.k (.int .i64 1)))])
 (.keep [1, 2, 6, 7, 9, 12, 13] (.seq (.ops [.op (some 72) (.loadN 2 (.t 9)),
   .op (some 73) (.mov (.t 13)),
   .call (some 74) 11 [.t 72, .t 73],
   .op (some 13) (.mov (.t 74))])
 (.keep [1, 2, 6, 7, 9, 12, 13] (.seq (.seq (.ops [.op (some 75) (.mov (.t 13)),
   .op (some 76) (.bin .lss (.t 75) (.k (.int .i64 0)))])
  (.keep [1, 2, 6, 7, 9, 12, 13, 76] (.cond (.t 76)
  (.seq (.ops [.op (some 4) (.mov (.k (.bool false)))])
   (.keep [4] (.ret)))
  (.skip))))
 (.keep [1, 2, 6, 7, 9, 12, 13] (.seq (.seq (.ops [.op (some 77) (.mov (.t 13)),
   .op (some 78) (.mov (.t 12)),
   .op (some 79) (.bin .neq (.t 77) (.t 78))])
  (.keep [1, 2, 6, 7, 9, 12, 79] (.cond (.t 79)
  (.seq (.ops [.op (some 4) (.mov (.k (.bool false)))])
   (.keep [4] (.ret)))
  (.skip))))
 (.keep [1, 2, 6, 7, 9, 12] (.seq (.ops [.op (some 81) (.loadN 2 (.t 2)),
   .call (some 82) 7 [.t 81],
   .op (some 83) (.mov (.t 1)),
   .call (some 84) 13 [.t 82, .t 83],
   .op (some 80) (.mov (.t 84)),
   .op (some 85) (.ext (.t 80) 0),
   .op (some 86) (.ext (.t 80) 1),
   .op (some 14) (.alloc [.int .i64 0, .nils 3]),
   .op none (.store 2 (.t 14) (.t 85)),
   .op (some 15) (.mov (.t 86))])
 (.keep [6, 7, 9, 12, 14, 15] (.seq (.seq (.ops [.op (some 87) (.loadN 2 (.t 14)),
   .op (some 88) (.loadN 2 (.t 6)),
   .call (some 89) 9 [.t 87, .t 88],
   .op (some 90) (.not (.t 89)),
   .op (some 91) (.mov (.t 90)),
   .andor 95 false 4 91 [.op (some 92) (.mov (.t 15)), .op (some 93) (.mov (.t 7)), .op (some 94) (.bin .neq (.t 92) (.t 93))] (.t 94)])
  (.keep [9, 12, 95] (.cond (.t 95)
  (.seq (.ops [.op (some 4) (.mov (.k (.bool false)))])
   (.keep [4] (.ret)))
  (.skip))))
 (.keep [9, 12] (.seq (.ops [.op (some 13) (.mov (.k (.int .i64 1)))])
 (.keep [9, 12, 13] (.seq (.ops [.op (some 96) (.loadN 2 (.t 9)),
   .op (some 97) (.mov (.t 13)),
   .call (some 98) 11 [.t 96, .t 97],
   .op (some 13) (.mov (.t 98))])
 (.keep [12, 13] (.seq (.seq (.ops [.op (some 99) (.mov (.t 13)),
   .op (some 100) (.bin .lss (.t 99) (.k (.int .i64 0)))])
  (.keep [12, 13, 100] (.cond (.t 100)
  (.seq (.ops [.op (some 4) (.mov (.k (.bool false)))])
   (.keep [4] (.ret)))
  (.skip))))
 (.keep [12, 13] (.seq (.seq (.ops [.op (some 101) (.mov (.t 13)),
   .op (some 102) (.mov (.t 12)),
   .op (some 103) (.bin .neq (.t 101) (.t 102))])
  (.keep [103] (.cond (.t 103)
  (.seq (.ops [.op (some 4) (.mov (.k (.bool false)))])
   (.keep [4] (.ret)))
  (.skip))))
 (.keep [] (.seq (.ops [.op (some 4) (.mov (.k (.bool true)))])
 (.keep [4] (.ret))))))))))))))))))))))))))))))))))))))))))))))))))))
theorem k_c_FnExactTreeDelete_fits : fitsF Try.prog 4 ⟨104, k_c_FnExactTreeDelete, [.t 4]⟩ = true := by kernel_rfl
theorem c_FnExactTreeDelete {t : ITree} {key : Str} (wt : t.wf) (wkey : wfStr key) : Con Try.prog noMv 4 [t.av, str key] [] (fun r h => r = bool true ∧ h = []) := by
 refine con_of2 k_c_FnExactTreeDelete_fits rfl fun C hP hmv => ?_
 unfold k_c_FnExactTreeDelete
 refine cx_seq ?_
 refine cx_ops ?_
 refine ax_e (e_box rfl rfl (by decide) rfl rfl rfl) ?_
 refine ax_q (q_mov rfl) ?_
 refine ax_nil ?_
 refine cx_keep rfl rfl ?_
 refine cx_seq ?_
 refine cx_seq ?_
 refine cx_ops ?_
 refine ax_q (q_mov rfl) ?_
 refine ax_q (q_lenT rfl) ?_
 refine ax_q (q_ibin rfl rfl rfl) ?_
 refine ax_nil ?_
 refine cx_keep rfl rfl ?_
 refine cx_cond rfl (fun h0 => ?_) (fun h0 => ?_)
 ·
  have h0 := dT h0
  refine cx_seq ?_
  refine cx_ops ?_
  refine ax_q (q_mov rfl) ?_
  refine ax_nil ?_
  refine cx_keep rfl rfl ?_
  refine cx_ret (ret0 rfl rfl ?_)
  exact ⟨rfl, rfl⟩
 ·
  have h0 := dF h0
  have hl_key : key.length ≤ 1048576 := by omega
  refine cx_skip ?_
  refine cx_keep rfl rfl ?_
  refine cx_seq ?_
  refine cx_ops ?_
  refine ax_q (q_mov rfl) ?_
  refine ax_nil ?_
  refine cx_keep rfl rfl ?_
  refine cx_seq ?_
  refine cx_ops ?_
  refine ax_q (q_ldN rfl rfl rfl) ?_
  refine ax_q (q_mov rfl) ?_
  have sp1 := szF_spec (1048576) (ITree.sz t)
  refine ax_call rfl (vc_pure0 (c_szTree (by omega) (by omega) wt) hP rfl rfl ?_)
  refine ax_q (q_mov rfl) ?_
  refine ax_nil ?_
  refine cx_keep rfl rfl ?_
  refine cx_seq ?_
  refine cx_seq ?_
  refine cx_ops ?_
  refine ax_q (q_mov rfl) ?_
  refine ax_q (q_ibin rfl rfl rfl) ?_
  refine ax_nil ?_
  refine cx_keep rfl rfl ?_
  refine cx_cond rfl (fun h1 => ?_) (fun h1 => ?_)
  ·
   have h1 := dT h1
   refine cx_seq ?_
   refine cx_ops ?_
   refine ax_q (q_mov rfl) ?_
   refine ax_nil ?_
   refine cx_keep rfl rfl ?_
   refine cx_ret (ret0 rfl rfl ?_)
   exact ⟨rfl, rfl⟩
  ·
   have h1 := dF h1
   have lt0 : t.Nodes.length ≤ 1048576 := by
    have : ITree.sz t = szL INode.sz t.Nodes := rfl
    have := @szL_len _ INode.sz (t.Nodes)
    omega
   have hT := tb_of (t := t) wt (by omega)
   have hmk : ITree.mkN 1 t ≤ 1000000000000000000 := tree_mkN (by omega)
   have hS := @sb_del t key
   have hT1 := hT.nd
   have hT2 := hT.ns
   have hS1 := hS.nd
   have hS2 := hS.ns
   have hS3 : ITree.mkN 1 (delF t key).1 ≤ 1000000000000000000 := hS.mx
   refine cx_skip ?_
   refine cx_keep rfl rfl ?_
   refine cx_seq ?_
   refine cx_ops ?_
   refine ax_q (q_ldN rfl rfl rfl) ?_
   first | refine ax_call rfl (vc_pure (c_toTree  ?_ ?_) hP rfl ?_) | refine ax_call rfl (vc_lend (c_toTree  ?_ ?_) hP (by repeat (first | exact lal_id _ rfl | exact LAL.nil | refine LAL.cons ?_ ?_ | exact la_id _ rfl | exact LA.lend (lend_whole rfl (by first | (simp; done) | (rw [List.length_map]; rfl))) | refine LA.agg ?_ | refine LA.fn ?_ | refine LA.lend ?_ | exact Lend.d _ | exact Lend.zs _ | exact lend_whole rfl (by first | (simp; done) | (rw [List.length_map]; rfl)) | refine Lend.ptr rfl ?_ | refine Lend.fn ?_ | exact Lend.osld rfl (by simp [mkNs_len]) (nn_map (fun _ => rfl)) | exact LendL.nil | refine LendL.cons ?_ ?_)) ?_)
   ·
    first | assumption | omega | (simp; done) | (simp; omega)
   ·
    first | assumption | omega | (simp; done) | (simp; omega)
   rintro r h ⟨rfl, rfl⟩
   refine ⟨fun i => 26 + 200 * i, [0], ⟨rfl, rfl, rfl, rfl, rfl, (by first | exact (fun h => absurd h Bool.false_ne_true) | exact (fun _ => ⟨rfl, (noisl_of (by repeat (first | exact trivial | refine ⟨noisl_map (fun _ => rfl), ?_⟩ | refine ⟨?_, ?_⟩)))⟩))⟩, ?_⟩
   skip
   refine ax_wk (wk_undeep 26 rfl (nn_map (fun _ => rfl))) ?_
   refine ax_wk (wk_frz 26 26 rfl rfl (.agg (.cons (.same rfl) (.cons (.whole (List.length_map _).symm) .nil))) rfl) ?_
   refine ax_q (q_mov rfl) ?_
   first | refine ax_call rfl (vc_pure0 (c_sTreeDelete  ?_ ?_) hP rfl rfl ?_) | refine ax_call rfl (vc_lend0 (c_sTreeDelete  ?_ ?_) hP (by repeat (first | exact lal_id _ rfl | exact LAL.nil | refine LAL.cons ?_ ?_ | exact la_id _ rfl | exact LA.lend (lend_whole rfl (by first | (simp; done) | (rw [List.length_map]; rfl))) | refine LA.agg ?_ | refine LA.fn ?_ | refine LA.lend ?_ | exact Lend.d _ | exact Lend.zs _ | exact lend_whole rfl (by first | (simp; done) | (rw [List.length_map]; rfl)) | refine Lend.ptr rfl ?_ | refine Lend.fn ?_ | exact Lend.osld rfl (by simp [mkNs_len]) (nn_map (fun _ => rfl)) | exact LendL.nil | refine LendL.cons ?_ ?_)) rfl rfl ?_)
   ·
    first | assumption | omega | (simp; done) | (simp; omega)
   ·
    first | assumption | omega | (simp; done) | (simp; omega)
   refine ax_q (q_mov rfl) ?_
   refine ax_q (q_ext rfl rfl) ?_
   refine ax_q (q_ext rfl rfl) ?_
   refine ax_e (e_alloc (by decide) rfl rfl) ?_
   refine ax_e (e_st rfl rfl rfl rfl rfl rfl rfl) ?_
   refine ax_q (q_mov rfl) ?_
   refine ax_nil ?_
   refine cx_keep rfl rfl ?_
   refine cx_seq ?_
   refine cx_ops ?_
   refine ax_q (q_ldN rfl rfl rfl) ?_
   first | refine ax_call rfl (vc_pure (c_toTree  ?_ ?_) hP rfl ?_) | refine ax_call rfl (vc_lend (c_toTree  ?_ ?_) hP (by repeat (first | exact lal_id _ rfl | exact LAL.nil | refine LAL.cons ?_ ?_ | exact la_id _ rfl | exact LA.lend (lend_whole rfl (by first | (simp; done) | (rw [List.length_map]; rfl))) | refine LA.agg ?_ | refine LA.fn ?_ | refine LA.lend ?_ | exact Lend.d _ | exact Lend.zs _ | exact lend_whole rfl (by first | (simp; done) | (rw [List.length_map]; rfl)) | refine Lend.ptr rfl ?_ | refine Lend.fn ?_ | exact Lend.osld rfl (by simp [mkNs_len]) (nn_map (fun _ => rfl)) | exact LendL.nil | refine LendL.cons ?_ ?_)) ?_)
   ·
    first | assumption | omega | (simp; done) | (simp; omega)
   ·
    first | assumption | omega | (simp; done) | (simp; omega)
   rintro r h ⟨rfl, rfl⟩
   refine ⟨fun i => 32 + 200 * i, [0], ⟨rfl, rfl, rfl, rfl, rfl, (by first | exact (fun h => absurd h Bool.false_ne_true) | exact (fun _ => ⟨rfl, (noisl_of (by repeat (first | exact trivial | refine ⟨noisl_map (fun _ => rfl), ?_⟩ | refine ⟨?_, ?_⟩)))⟩))⟩, ?_⟩
   skip
   refine ax_e (e_alloc (by decide) rfl rfl) ?_
   refine ax_e (e_st rfl rfl rfl rfl rfl rfl rfl) ?_
   refine ax_nil ?_
   refine cx_keep rfl rfl ?_
   refine cx_seq ?_
   refine cx_ops ?_
   refine ax_q (q_ldN rfl rfl rfl) ?_
   refine ax_q (q_mov rfl) ?_
   first | refine ax_call rfl (vc_pure (c_TreeDelete  ?_ ?_) hP rfl ?_) | refine ax_call rfl (vc_lend (c_TreeDelete  ?_ ?_) hP (by repeat (first | exact lal_id _ rfl | exact LAL.nil | refine LAL.cons ?_ ?_ | exact la_id _ rfl | exact LA.lend (lend_whole rfl (by first | (simp; done) | (rw [List.length_map]; rfl))) | refine LA.agg ?_ | refine LA.fn ?_ | refine LA.lend ?_ | exact Lend.d _ | exact Lend.zs _ | exact lend_whole rfl (by first | (simp; done) | (rw [List.length_map]; rfl)) | refine Lend.ptr rfl ?_ | refine Lend.fn ?_ | exact Lend.osld rfl (by simp [mkNs_len]) (nn_map (fun _ => rfl)) | exact LendL.nil | refine LendL.cons ?_ ?_)) ?_)
   ·
    first | assumption | omega | (simp; done) | (simp; omega)
   ·
    first | assumption | omega | (simp; done) | (simp; omega)
   rintro r h ⟨rfl, rfl⟩
   refine ⟨fun i => 36 + 200 * i, [0], ⟨rfl, rfl, rfl, rfl, rfl, (by first | exact (fun h => absurd h Bool.false_ne_true) | exact (fun _ => ⟨rfl, (noisl_of (by repeat (first | exact trivial | refine ⟨noisl_map (fun _ => rfl), ?_⟩ | refine ⟨?_, ?_⟩)))⟩))⟩, ?_⟩
   skip
   refine ax_q (q_mov rfl) ?_
   refine ax_q (q_ext rfl rfl) ?_
   refine ax_q (q_ext rfl rfl) ?_
   refine ax_e (e_alloc (by decide) rfl rfl) ?_
   refine ax_e (e_st rfl rfl rfl rfl rfl rfl rfl) ?_
   refine ax_q (q_mov rfl) ?_
   refine ax_nil ?_
   refine cx_keep rfl rfl ?_
   refine cx_seq ?_
   refine cx_seq ?_
   refine cx_ops ?_
   refine ax_q (q_ldN rfl rfl rfl) ?_
   refine ax_q (q_ldN rfl rfl rfl) ?_
   first | refine ax_call rfl (vc_pure0 (c_eqTree  ?_ ?_) hP rfl rfl ?_) | refine ax_call rfl (vc_lend0 (c_eqTree  ?_ ?_) hP (by repeat (first | exact lal_id _ rfl | exact LAL.nil | refine LAL.cons ?_ ?_ | exact la_id _ rfl | exact LA.lend (lend_whole rfl (by first | (simp; done) | (rw [List.length_map]; rfl))) | refine LA.agg ?_ | refine LA.fn ?_ | refine LA.lend ?_ | exact Lend.d _ | exact Lend.zs _ | exact lend_whole rfl (by first | (simp; done) | (rw [List.length_map]; rfl)) | refine Lend.ptr rfl ?_ | refine Lend.fn ?_ | exact Lend.osld rfl (by simp [mkNs_len]) (nn_map (fun _ => rfl)) | exact LendL.nil | refine LendL.cons ?_ ?_)) rfl rfl ?_)
   ·
    first | assumption | omega | (simp; done) | (simp; omega)
   ·
    first | assumption | omega | (simp; done) | (simp; omega)
   refine ax_q (q_not rfl) ?_
   refine ax_q (q_mov rfl) ?_
   apply ax_or rfl rfl
   ·
    intro g
    have g := bF g
    refine ax_q (q_mov rfl) ?_
    refine ax_q (q_mov rfl) ?_
    refine ax_q (q_ibin rfl rfl rfl) ?_
    exact ax_nil ⟨rfl, by repeat (first | exact trivial | refine ⟨rfl, ?_⟩ | refine ⟨?_, ?_⟩)⟩
   refine ax_nil ?_
   refine cx_keep rfl rfl ?_
   refine cx_cond rfl (fun h2 => ?_) (fun h2 => ?_)
   ·
    have h2 := (fun h => (or_T h).imp bT nT) h2
    first | exact absurd rfl h2 | (exfalso; omega) | exact absurd h2 (by simp [eqb_rfl] <;> omega)
   ·
    have h2 := (fun h => And.intro (bF (or_F h).1) (nF (or_F h).2)) h2
    refine cx_skip ?_
    refine cx_keep rfl rfl ?_
    refine cx_seq ?_
    refine cx_seq ?_
    refine cx_drawL 0 48 (fun _ => false) (fun _ => true) [] ([]) [[8], [2], [49]] [[], [], []] rfl ?_
    first | refine ⟨⟨48, _, []⟩, .inl ⟨rfl, rfl, rfl, locl_of (loc_q (q_ldN rfl rfl rfl))⟩, ?_⟩
    first | refine ⟨_, .inr ⟨rfl, _, rfl, .inr ⟨rfl, rfl, .inr rfl, rfl, rfl⟩, loc_q (q_ldN rfl rfl rfl)⟩, ?_⟩
    first | refine ⟨_, .inr ⟨rfl, _, rfl, .inr ⟨rfl, rfl, .inr rfl, rfl, rfl⟩, loc_call (fun i => 50 + 200 * i) false rfl (c_toTree  (by first | assumption | omega | (simp; done) | (simp; omega)) (by first | assumption | omega | (simp; done) | (simp; omega))) hP (.inr ⟨rfl, rfl, rfl⟩) rfl rfl (fun h => by cases h)⟩, ?_⟩ | refine ⟨_, .inr ⟨rfl, _, rfl, .inr ⟨rfl, rfl, .inr rfl, rfl, rfl⟩, loc_call (fun i => 50 + 200 * i) true rfl (c_toTree  (by first | assumption | omega | (simp; done) | (simp; omega)) (by first | assumption | omega | (simp; done) | (simp; omega))) hP (.inl ⟨rfl, (by repeat (first | exact lal_id _ rfl | exact LAL.nil | refine LAL.cons ?_ ?_ | exact la_id _ rfl | exact LA.lend (lend_whole rfl (by first | (simp; done) | (rw [List.length_map]; rfl))) | refine LA.agg ?_ | refine LA.fn ?_ | refine LA.lend ?_ | exact Lend.d _ | exact Lend.zs _ | exact lend_whole rfl (by first | (simp; done) | (rw [List.length_map]; rfl)) | refine Lend.ptr rfl ?_ | refine Lend.fn ?_ | exact Lend.osld rfl (by simp [mkNs_len]) (nn_map (fun _ => rfl)) | exact LendL.nil | refine LendL.cons ?_ ?_))⟩) rfl rfl (fun _ => ⟨rfl, noisl_of (by repeat (first | exact trivial | refine ⟨noisl_map (fun _ => rfl), ?_⟩ | refine ⟨?_, ?_⟩))⟩)⟩, ?_⟩
    refine ⟨rfl, ?_⟩
    first | refine ax_call rfl (vc_pure0 (c_eqTree  ?_ ?_) hP rfl rfl ?_) | refine ax_call rfl (vc_lend0 (c_eqTree  ?_ ?_) hP (by repeat (first | exact lal_id _ rfl | exact LAL.nil | refine LAL.cons ?_ ?_ | exact la_id _ rfl | exact LA.lend (lend_whole rfl (by first | (simp; done) | (rw [List.length_map]; rfl))) | refine LA.agg ?_ | refine LA.fn ?_ | refine LA.lend ?_ | exact Lend.d _ | exact Lend.zs _ | exact lend_whole rfl (by first | (simp; done) | (rw [List.length_map]; rfl)) | refine Lend.ptr rfl ?_ | refine Lend.fn ?_ | exact Lend.osld rfl (by simp [mkNs_len]) (nn_map (fun _ => rfl)) | exact LendL.nil | refine LendL.cons ?_ ?_)) rfl rfl ?_)
    ·
     first | assumption | omega | (simp; done) | (simp; omega)
    ·
     first | assumption | omega | (simp; done) | (simp; omega)
    refine ax_q (q_not rfl) ?_
    refine ax_nil ?_
    refine cx_keep rfl rfl ?_
    refine cx_cond rfl (fun h3 => ?_) (fun h3 => ?_)
    ·
     have h3 := bT h3
     first | exact absurd rfl h3 | (exfalso; omega) | exact absurd h3 (by simp [eqb_rfl] <;> omega)
    ·
     have h3 := bF h3
     refine cx_skip ?_
     refine cx_keep rfl rfl ?_
     refine cx_seq ?_
     refine cx_ops ?_
     refine ax_q (q_mov rfl) ?_
     refine ax_nil ?_
     refine cx_keep rfl rfl ?_
     refine cx_seq ?_
     refine cx_ops ?_
     refine ax_q (q_ldN rfl rfl rfl) ?_
     refine ax_q (q_mov rfl) ?_
     refine ax_call rfl (vcall_own (c_markTree (a := t) (k0 := 1) (by show _ ≤ _; first | omega | assumption)) hP hmv false (fun e => 32) [1000] ⟨rfl, rfl, rfl, rfl, (by repeat (first | exact trivial | refine ⟨rfl, ?_⟩)), rfl, rfl, rfl⟩ (.pass rfl rfl (.pass rfl rfl .nil)) ?_)
     rintro r h ⟨rfl, rfl⟩
     refine ⟨fun e => 32, [], ⟨rfl, rfl, rfl, rfl, (mem1 rfl), rfl, rfl, fun h => by cases h⟩, ?_⟩
     refine ax_q (q_mov rfl) ?_
     refine ax_nil ?_
     refine cx_keep rfl rfl ?_
     refine cx_seq ?_
     refine cx_seq ?_
     refine cx_ops ?_
     refine ax_q (q_mov rfl) ?_
     refine ax_q (q_ibin rfl rfl rfl) ?_
     refine ax_q (q_mov rfl) ?_
     apply ax_or rfl rfl
     ·
      intro g
      have g := dF g
      refine ax_q (q_ldN rfl rfl rfl) ?_
      refine ax_q (q_ldN rfl rfl rfl) ?_
      first | refine ax_call rfl (vc_pure0 (c_eqTree  ?_ ?_) hP rfl rfl ?_) | refine ax_call rfl (vc_lend0 (c_eqTree  ?_ ?_) hP (by repeat (first | exact lal_id _ rfl | exact LAL.nil | refine LAL.cons ?_ ?_ | exact la_id _ rfl | exact LA.lend (lend_whole rfl (by first | (simp; done) | (rw [List.length_map]; rfl))) | refine LA.agg ?_ | refine LA.fn ?_ | refine LA.lend ?_ | exact Lend.d _ | exact Lend.zs _ | exact lend_whole rfl (by first | (simp; done) | (rw [List.length_map]; rfl)) | refine Lend.ptr rfl ?_ | refine Lend.fn ?_ | exact Lend.osld rfl (by simp [mkNs_len]) (nn_map (fun _ => rfl)) | exact LendL.nil | refine LendL.cons ?_ ?_)) rfl rfl ?_)
      ·
       first | assumption | omega | (simp; done) | (simp; omega)
      ·
       first | assumption | omega | (simp; done) | (simp; omega)
      refine ax_q (q_not rfl) ?_
      exact ax_nil ⟨rfl, by repeat (first | exact trivial | refine ⟨rfl, ?_⟩ | refine ⟨?_, ?_⟩)⟩
     refine ax_q (q_mov rfl) ?_
     apply ax_or rfl rfl
     ·
      intro g
      have g := (fun h => And.intro (dF (or_F h).1) (bF (or_F h).2)) g
      refine ax_q (q_mov rfl) ?_
      refine ax_q (q_mov rfl) ?_
      refine ax_q (q_ibin rfl rfl rfl) ?_
      exact ax_nil ⟨rfl, by repeat (first | exact trivial | refine ⟨rfl, ?_⟩ | refine ⟨?_, ?_⟩)⟩
     refine ax_nil ?_
     refine cx_keep rfl rfl ?_
     refine cx_cond rfl (fun h4 => ?_) (fun h4 => ?_)
     ·
      have h4 := (fun h => (or_T h).imp (fun h => (or_T h).imp dT bT) nT) h4
      first | exact absurd rfl h4 | (exfalso; omega) | exact absurd h4 (by simp [eqb_rfl] <;> omega)
     ·
      have h4 := (fun h => And.intro ((fun h => And.intro (dF (or_F h).1) (bF (or_F h).2)) (or_F h).1) (nF (or_F h).2)) h4
      refine cx_skip ?_
      refine cx_keep rfl rfl ?_
      refine cx_seq ?_
      refine cx_ops ?_
      refine ax_q (q_mov rfl) ?_
      refine ax_nil ?_
      refine cx_keep rfl rfl ?_
      refine cx_seq ?_
      refine cx_ops ?_
      refine ax_q (q_ldN rfl rfl rfl) ?_
      refine ax_q (q_mov rfl) ?_
      refine ax_call rfl (vcall_own (c_markTree (a := (delF t key).1) (k0 := 1) (by show _ ≤ _; first | omega | assumption)) hP hmv false (fun e => 36) [1000] ⟨rfl, rfl, rfl, rfl, (by repeat (first | exact trivial | refine ⟨rfl, ?_⟩)), rfl, rfl, rfl⟩ (.pass rfl rfl (.pass rfl rfl .nil)) ?_)
      rintro r h ⟨rfl, rfl⟩
      refine ⟨fun e => 36, [], ⟨rfl, rfl, rfl, rfl, (mem1 rfl), rfl, rfl, fun h => by cases h⟩, ?_⟩
      refine ax_q (q_mov rfl) ?_
      refine ax_nil ?_
      refine cx_keep rfl rfl ?_
      refine cx_seq ?_
      refine cx_ops ?_
      refine ax_q (q_mov rfl) ?_
      refine ax_nil ?_
      refine cx_keep rfl rfl ?_
      refine cx_seq ?_
      refine cx_ops ?_
      refine ax_q (q_ldN rfl rfl rfl) ?_
      refine ax_q (q_mov rfl) ?_
      refine ax_call rfl (vc_lend0 (c_heldTree (a := (delF t key).1) (k0 := 1) (by show _ ≤ _; first | omega | assumption)) hP (by repeat (first | exact lal_id _ rfl | exact LAL.nil | refine LAL.cons ?_ ?_ | exact la_id _ rfl | exact LA.lend (lend_whole rfl (by simp [markL_len])) | refine LA.agg ?_ | refine LA.fn ?_ | refine LA.lend ?_ | exact Lend.d _ | exact Lend.zs _ | exact lend_whole rfl (by simp [markL_len]) | refine Lend.ptr rfl ?_ | refine Lend.fn ?_ | exact Lend.osld rfl (by simp [mkNs_len]) (nn_map (fun _ => rfl)) | exact LendL.nil | refine LendL.cons ?_ ?_)) rfl rfl ?_)
      refine ax_q (q_mov rfl) ?_
      refine ax_nil ?_
      refine cx_keep rfl rfl ?_
      refine cx_seq ?_
      refine cx_seq ?_
      refine cx_ops ?_
      refine ax_q (q_mov rfl) ?_
      refine ax_q (q_ibin rfl rfl rfl) ?_
      refine ax_nil ?_
      refine cx_keep rfl rfl ?_
      refine cx_cond rfl (fun h5 => ?_) (fun h5 => ?_)
      ·
       have h5 := dT h5
       first | exact absurd rfl h5 | (exfalso; omega) | exact absurd h5 (by simp [eqb_rfl] <;> omega)
      ·
       have h5 := dF h5
       refine cx_skip ?_
       refine cx_keep rfl rfl ?_
       refine cx_seq ?_
       refine cx_seq ?_
       refine cx_ops ?_
       refine ax_q (q_mov rfl) ?_
       refine ax_q (q_mov rfl) ?_
       refine ax_q (q_ibin rfl rfl rfl) ?_
       refine ax_nil ?_
       refine cx_keep rfl rfl ?_
       refine cx_cond rfl (fun h6 => ?_) (fun h6 => ?_)
       ·
        have h6 := nT h6
        first | exact absurd rfl h6 | (exfalso; omega) | exact absurd h6 (by simp [eqb_rfl] <;> omega)
       ·
        have h6 := nF h6
        refine cx_skip ?_
        refine cx_keep rfl rfl ?_
        refine cx_seq ?_
        refine cx_ops ?_
        refine ax_q (q_ldN rfl rfl rfl) ?_
        first | refine ax_call rfl (vc_pure (c_toTree  ?_ ?_) hP rfl ?_) | refine ax_call rfl (vc_lend (c_toTree  ?_ ?_) hP (by repeat (first | exact lal_id _ rfl | exact LAL.nil | refine LAL.cons ?_ ?_ | exact la_id _ rfl | exact LA.lend (lend_whole rfl (by first | (simp; done) | (rw [List.length_map]; rfl))) | refine LA.agg ?_ | refine LA.fn ?_ | refine LA.lend ?_ | exact Lend.d _ | exact Lend.zs _ | exact lend_whole rfl (by first | (simp; done) | (rw [List.length_map]; rfl)) | refine Lend.ptr rfl ?_ | refine Lend.fn ?_ | exact Lend.osld rfl (by simp [mkNs_len]) (nn_map (fun _ => rfl)) | exact LendL.nil | refine LendL.cons ?_ ?_)) ?_)
        ·
         first | assumption | omega | (simp; done) | (simp; omega)
        ·
         first | assumption | omega | (simp; done) | (simp; omega)
        rintro r h ⟨rfl, rfl⟩
        refine ⟨fun i => 82 + 200 * i, [0], ⟨rfl, rfl, rfl, rfl, rfl, (by first | exact (fun h => absurd h Bool.false_ne_true) | exact (fun _ => ⟨rfl, (noisl_of (by repeat (first | exact trivial | refine ⟨noisl_map (fun _ => rfl), ?_⟩ | refine ⟨?_, ?_⟩)))⟩))⟩, ?_⟩
        skip
        refine ax_q (q_mov rfl) ?_
        first | refine ax_call rfl (vc_pure (c_TreeDelete  ?_ ?_) hP rfl ?_) | refine ax_call rfl (vc_lend (c_TreeDelete  ?_ ?_) hP (by repeat (first | exact lal_id _ rfl | exact LAL.nil | refine LAL.cons ?_ ?_ | exact la_id _ rfl | exact LA.lend (lend_whole rfl (by first | (simp; done) | (rw [List.length_map]; rfl))) | refine LA.agg ?_ | refine LA.fn ?_ | refine LA.lend ?_ | exact Lend.d _ | exact Lend.zs _ | exact lend_whole rfl (by first | (simp; done) | (rw [List.length_map]; rfl)) | refine Lend.ptr rfl ?_ | refine Lend.fn ?_ | exact Lend.osld rfl (by simp [mkNs_len]) (nn_map (fun _ => rfl)) | exact LendL.nil | refine LendL.cons ?_ ?_)) ?_)
        ·
         first | assumption | omega | (simp; done) | (simp; omega)
        ·
         first | assumption | omega | (simp; done) | (simp; omega)
        rintro r h ⟨rfl, rfl⟩
        refine ⟨fun i => 84 + 200 * i, [0], ⟨rfl, rfl, rfl, rfl, rfl, (by first | exact (fun h => absurd h Bool.false_ne_true) | exact (fun _ => ⟨rfl, (noisl_of (by repeat (first | exact trivial | refine ⟨noisl_map (fun _ => rfl), ?_⟩ | refine ⟨?_, ?_⟩)))⟩))⟩, ?_⟩
        skip
        refine ax_q (q_mov rfl) ?_
        refine ax_q (q_ext rfl rfl) ?_
        refine ax_q (q_ext rfl rfl) ?_
        refine ax_e (e_alloc (by decide) rfl rfl) ?_
        refine ax_e (e_st rfl rfl rfl rfl rfl rfl rfl) ?_
        refine ax_q (q_mov rfl) ?_
        refine ax_nil ?_
        refine cx_keep rfl rfl ?_
        refine cx_seq ?_
        refine cx_seq ?_
        refine cx_ops ?_
        refine ax_q (q_ldN rfl rfl rfl) ?_
        refine ax_q (q_ldN rfl rfl rfl) ?_
        first | refine ax_call rfl (vc_pure0 (c_eqTree  ?_ ?_) hP rfl rfl ?_) | refine ax_call rfl (vc_lend0 (c_eqTree  ?_ ?_) hP (by repeat (first | exact lal_id _ rfl | exact LAL.nil | refine LAL.cons ?_ ?_ | exact la_id _ rfl | exact LA.lend (lend_whole rfl (by first | (simp; done) | (rw [List.length_map]; rfl))) | refine LA.agg ?_ | refine LA.fn ?_ | refine LA.lend ?_ | exact Lend.d _ | exact Lend.zs _ | exact lend_whole rfl (by first | (simp; done) | (rw [List.length_map]; rfl)) | refine Lend.ptr rfl ?_ | refine Lend.fn ?_ | exact Lend.osld rfl (by simp [mkNs_len]) (nn_map (fun _ => rfl)) | exact LendL.nil | refine LendL.cons ?_ ?_)) rfl rfl ?_)
        ·
         first | assumption | omega | (simp; done) | (simp; omega)
        ·
         first | assumption | omega | (simp; done) | (simp; omega)
        refine ax_q (q_not rfl) ?_
        refine ax_q (q_mov rfl) ?_
        apply ax_or rfl rfl
        ·
         intro g
         have g := bF g
         refine ax_q (q_mov rfl) ?_
         refine ax_q (q_mov rfl) ?_
         refine ax_q (q_ibin rfl rfl rfl) ?_
         exact ax_nil ⟨rfl, by repeat (first | exact trivial | refine ⟨rfl, ?_⟩ | refine ⟨?_, ?_⟩)⟩
        refine ax_nil ?_
        refine cx_keep rfl rfl ?_
        refine cx_cond rfl (fun h7 => ?_) (fun h7 => ?_)
        ·
         have h7 := (fun h => (or_T h).imp bT nT) h7
         first | exact absurd rfl h7 | (exfalso; omega) | exact absurd h7 (by simp [eqb_rfl] <;> omega)
        ·
         have h7 := (fun h => And.intro (bF (or_F h).1) (nF (or_F h).2)) h7
         refine cx_skip ?_
         refine cx_keep rfl rfl ?_
         refine cx_seq ?_
         refine cx_ops ?_
         refine ax_q (q_mov rfl) ?_
         refine ax_nil ?_
         refine cx_keep rfl rfl ?_
         refine cx_seq ?_
         refine cx_ops ?_
         refine ax_q (q_ldN rfl rfl rfl) ?_
         refine ax_q (q_mov rfl) ?_
         refine ax_call rfl (vc_lend0 (c_heldTree (a := (delF t key).1) (k0 := 1) (by show _ ≤ _; first | omega | assumption)) hP (by repeat (first | exact lal_id _ rfl | exact LAL.nil | refine LAL.cons ?_ ?_ | exact la_id _ rfl | exact LA.lend (lend_whole rfl (by simp [markL_len])) | refine LA.agg ?_ | refine LA.fn ?_ | refine LA.lend ?_ | exact Lend.d _ | exact Lend.zs _ | exact lend_whole rfl (by simp [markL_len]) | refine Lend.ptr rfl ?_ | refine Lend.fn ?_ | exact Lend.osld rfl (by simp [mkNs_len]) (nn_map (fun _ => rfl)) | exact LendL.nil | refine LendL.cons ?_ ?_)) rfl rfl ?_)
         refine ax_q (q_mov rfl) ?_
         refine ax_nil ?_
         refine cx_keep rfl rfl ?_
         refine cx_seq ?_
         refine cx_seq ?_
         refine cx_ops ?_
         refine ax_q (q_mov rfl) ?_
         refine ax_q (q_ibin rfl rfl rfl) ?_
         refine ax_nil ?_
         refine cx_keep rfl rfl ?_
         refine cx_cond rfl (fun h8 => ?_) (fun h8 => ?_)
         ·
          have h8 := dT h8
          first | exact absurd rfl h8 | (exfalso; omega) | exact absurd h8 (by simp [eqb_rfl] <;> omega)
         ·
          have h8 := dF h8
          refine cx_skip ?_
          refine cx_keep rfl rfl ?_
          refine cx_seq ?_
          refine cx_seq ?_
          refine cx_ops ?_
          refine ax_q (q_mov rfl) ?_
          refine ax_q (q_mov rfl) ?_
          refine ax_q (q_ibin rfl rfl rfl) ?_
          refine ax_nil ?_
          refine cx_keep rfl rfl ?_
          refine cx_cond rfl (fun h9 => ?_) (fun h9 => ?_)
          ·
           have h9 := nT h9
           first | exact absurd rfl h9 | (exfalso; omega) | exact absurd h9 (by simp [eqb_rfl] <;> omega)
          ·
           have h9 := nF h9
           refine cx_skip ?_
           refine cx_keep rfl rfl ?_
           refine cx_seq ?_
           refine cx_ops ?_
           refine ax_q (q_mov rfl) ?_
           refine ax_nil ?_
           refine cx_keep rfl rfl ?_
           refine cx_ret (ret0 rfl rfl ?_)
           exact ⟨rfl, rfl⟩

theorem own : ownKnob Try.prog.godebug = none := by kernel_rfl
theorem laid : laidOutB Try.prog = true := by kernel_rfl
theorem closedTs : closedT Try.prog [3, 4, 9, 22, 24, 36, 49, 51] = true := by kernel_rfl
theorem con (rows : List (List D)) (h : HasAll Try.prog Try.f4.params.toList rows) : Con Try.prog noMv 4 (argsAV Try.prog Try.f4.params.toList rows) [] (fun r h => r = AM.bool true ∧ h = []) := by
  rw [Try.params4] at h ⊢
  obtain ⟨d0, r0, rfl, h0, h⟩ := h
  obtain ⟨d1, r1, rfl, h1, h⟩ := h
  obtain rfl := h
  obtain ⟨a0, rfl, w0⟩ := (ITree.dec Try.underlying24 rfl (dec_int Try.underlying3) (dec_slice (sz := 3) Try.underlying22 (by kernel_rfl) (INode.dec Try.underlying51 rfl (dec_bool Try.underlying4) (dec_slice (sz := 1) Try.underlying36 (by kernel_rfl) (dec_str Try.underlying9)) (dec_slice (sz := 1) Try.underlying49 (by kernel_rfl) (dec_int Try.underlying3))))) h0
  obtain ⟨a1, rfl, w1⟩ := (dec_str Try.underlying9) h1
  have e : argsAV Try.prog [24, 9] [ITree.row a0, strRow a1] = [a0.av, str a1] := by
    first | (simp only [argsAV, argAV, Try.underlying24, Try.underlying9]; done) | (simp only [argsAV, argAV, Try.underlying24, Try.underlying9]; rfl)
  show Con Try.prog noMv 4 (argsAV Try.prog [24, 9] [ITree.row a0, strRow a1]) [] _
  rw [e]
  exact c_FnExactTreeDelete w0 w1
set_option maxRecDepth 100000 in
theorem lifted (os : Os) (started : os.Started) (H : Type) (enc : TypeId × Value → H) :
    ReturnsInHanded {} Try.checked os 4 .any (Rows.fnExactTreeDeleteSpec.pre6 enc Try.prog Try.f4 Rows.fnExactTreeDeleteRow.domain false) (Rows.fnExactTreeDeleteSpec.post enc Try.prog Try.f4 false true false false) := by
  refine returnsInHanded_of_change (C := Try.checked) own started (by kernel_rfl) Try.func4
    (ChangeSpec.witness6 (enc := enc) (C := Try.checked) false ⟨#[], #[.agg #[.int .i64 0, .slice none 0 0], .string ⟨#[]⟩], []⟩ 8 (by kernel_rfl) (by kernel_rfl) (by kernel_rfl) (by kernel_rfl)) ?_
  intro W base args ds gs before hval hW hcnd _
  refine law_contract closedTs laid (by kernel_rfl) rfl rfl Try.underlying4 con (fun hl => ?_) hval hW (gok_none (by kernel_rfl))
  match ds, hl with
  | [x0, x1], _ => rfl
theorem over : Rows.fnExactTreeDeleteRow.holds Try.pinned (OpenSpec.ofChange Rows.fnExactTreeDeleteSpec) :=
  OpenClaim.holds_of_wide 4 Try.f4 rfl rfl rfl rfl rfl rfl rfl ⟨rfl, rfl, rfl, rfl, rfl⟩ rfl rfl rfl rfl rfl (by kernel_rfl) Try.func4 (by kernel_rfl)
    (of_decide_eq_true (by kernel_rfl)) (by unfold Func.isWrapper; first | (rw [if_pos (by decide +kernel)]; kernel_rfl) | (rw [if_neg (by decide +kernel)]; exact ⟨rfl, rfl⟩))
    (fun os started H enc _ => lifted os started H enc)
theorem proved : Rows.FnExactTreeDeleteSaid := over
end fnExactTreeDelete
end Go.Proofs.Ytenfhamolacdaaa
#print axioms Go.Proofs.Ytenfhamolacdaaa.fnExactTreeDelete.proved
