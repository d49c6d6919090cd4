/- The law FnCode of the given program returns true for all arguments, and its arguments read behind the call as they read before: the statement FnCodeSaid, with no condition. -/
import Derived.Test.YtalnddcijlkklaaW2
import Derived.Test.YtalnddcijlkklaaRows
namespace Go.Proofs.Ytalnddcijlkklaa
open Go Go.AM Go.ChangeShapes Go.RowKit
set_option linter.unusedVariables false
set_option linter.unusedSimpArgs false
namespace fnCode
set_option maxRecDepth 10000
/- loop.example/g00332/laws.FnCode -/
def k_c_FnCode : XCode :=
 .seq (.ops [.op (some 4) (.mov (.k (.bool false)))])
 (.keep [0, 1] (.seq (.seq (.ops [.op (some 17) (.mov (.t 0)),
   .op (some 18) (.lenS (.t 17)),
   .op (some 19) (.bin .gtr (.t 18) (.k (.int .i64 1048576))),
   .op (some 20) (.mov (.t 19)),
   .andor 24 false 3 20 [.op (some 21) (.mov (.t 1)), .op (some 22) (.lenS (.t 21)), .op (some 23) (.bin .gtr (.t 22) (.k (.int .i64 1048576)))] (.t 23)])
  (.keep [0, 1, 24] (.cond (.t 24)
  (.seq (.ops [.op (some 4) (.mov (.k (.bool true)))])
   (.keep [4] (.ret)))
  (.skip))))
 (.keep [0, 1] (.seq (.ops [.op (some 25) (.mov (.t 0)),
   .call (some 26) 37 [.t 25],
   .op (some 5) (.alloc [.nils 7]),
   .op none (.store 1 (.t 5) (.t 26))])
 (.keep [1, 5] (.seq (.ops [.op (some 27) (.mov (.t 1)),
   .call (some 28) 38 [.t 27],
   .op (some 6) (.alloc [.int .i64 0, .int .i64 0, .int .i64 0, .str [], .int .i64 0, .int .i64 0, .str []]),
   .op none (.store 7 (.t 6) (.t 28))])
 (.keep [5, 6] (.seq (.ops [.op (some 30) (.loadN 1 (.t 5)),
   .call (some 31) 25 [.t 30],
   .op (some 29) (.mov (.t 31)),
   .op (some 32) (.ext (.t 29) 0),
   .op (some 33) (.ext (.t 29) 1),
   .op (some 7) (.mov (.t 32)),
   .op (some 8) (.mov (.t 33))])
 (.keep [5, 6, 7, 8] (.seq (.ops [.op (some 35) (.loadN 1 (.t 5)),
   .op (some 36) (.loadN 7 (.t 6)),
   .call (some 37) 33 [.t 35, .t 36],
   .op (some 34) (.mov (.t 37)),
   .op (some 38) (.ext (.t 34) 0),
   .op (some 39) (.ext (.t 34) 1),
   .op (some 9) (.alloc [.int .i64 0, .int .i64 0, .str []]),
   .op none (.store 3 (.t 9) (.t 38)),
   .op (some 10) (.mov (.t 39))])
 (.keep [5, 6, 7, 8, 9, 10] (.seq (.ops [.op (some 41) (.loadN 1 (.t 5)),
   .op (some 42) (.loadN 7 (.t 6)),
   .call (some 43) 31 [.t 41, .t 42],
   .op (some 40) (.mov (.t 43)),
   .op (some 44) (.ext (.t 40) 0),
   .op (some 45) (.ext (.t 40) 1),
   .op (some 11) (.alloc [.int .i64 0, .int .i64 0, .str []]),
   .op none (.store 3 (.t 11) (.t 44)),
   .op (some 12) (.mov (.t 45))])
 (.keep [5, 6, 7, 8, 9, 10, 11, 12] (.seq (.ops [.op (some 47) (.mov (.t 7)),
   .op (some 48) (.loadN 7 (.t 6)),
   .call (some 49) 36 [.t 47, .t 48],
   .op (some 46) (.mov (.t 49)),
   .op (some 50) (.ext (.t 46) 0),
   .op (some 51) (.ext (.t 46) 1),
   .op (some 13) (.alloc [.int .i64 0, .int .i64 0, .str []]),
   .op none (.store 3 (.t 13) (.t 50)),
   .op (some 14) (.mov (.t 51))])
 (.keep [5, 7, 8, 9, 10, 11, 12, 13, 14] (.seq (.ops [.op (some 53) (.mov (.t 7)),
   .call (some 54) 16 [.t 53],
   .op (some 52) (.mov (.t 54)),
   .op (some 55) (.ext (.t 52) 0),
   .op (some 56) (.ext (.t 52) 1),
   .op (some 15) (.mov (.t 55)),
   .op (some 16) (.mov (.t 56))])
 (.keep [5, 7, 8, 9, 10, 11, 12, 13, 14, 15, 16] (.seq (.ops [.op (some 57) (.mov (.t 8)),
   .op (some 58) (.bin .eql (.t 57) (.k (.int .i64 0))),
   .op (some 59) (.mov (.t 58)),
   .andor 63 true 2 59 [.op (some 60) (.mov (.t 10)), .op (some 61) (.mov (.t 12)), .op (some 62) (.bin .eql (.t 60) (.t 61))] (.t 62),
   .op (some 64) (.mov (.t 63)),
   .andor 68 true 7 64 [.op (some 65) (.loadN 3 (.t 9)), .op (some 66) (.loadN 3 (.t 11)), .op (some 67) (.eqs false [0, 0, 2] (.t 65) (.t 66))] (.t 67),
   .op (some 69) (.mov (.t 68)),
   .andor 73 true 12 69 [.op (some 70) (.mov (.t 14)), .op (some 71) (.mov (.t 10)), .op (some 72) (.bin .eql (.t 70) (.t 71))] (.t 72),
   .op (some 74) (.mov (.t 73)),
   .andor 78 true 17 74 [.op (some 75) (.loadN 3 (.t 13)), .op (some 76) (.loadN 3 (.t 9)), .op (some 77) (.eqs false [0, 0, 2] (.t 75) (.t 76))] (.t 77),
   .op (some 79) (.mov (.t 78)),
   .andor 82 true 22 79 [.op (some 80) (.mov (.t 16)), .op (some 81) (.bin .eql (.t 80) (.k (.int .i64 0)))] (.t 81),
   .op (some 83) (.mov (.t 82)),
   .andor 89 true 26 83 [.op (some 84) (.mov (.t 15)), .op (some 85) (.fadr (.t 5) 0), .op (some 86) (.load1 (.t 85)), .op (some 87) (.lenS (.t 86)), .op (some 88) (.bin .leq (.t 84) (.t 87))] (.t 88),
   .op (some 90) (.mov (.t 89)),
   .andor 93 true 33 90 [.op (some 91) (.mov (.t 15)), .op (some 92) (.bin .geq (.t 91) (.k (.int .i64 1)))] (.t 92),
   .op (some 94) (.mov (.t 93)),
   .andor 97 true 37 94 [.op (some 95) (.mov (.t 7)), .call (some 96) 13 [.t 95]] (.t 96),
   .op (some 4) (.mov (.t 97))])
 (.keep [4] (.ret))))))))))))))))))))
theorem k_c_FnCode_fits : fitsF Try.prog 9 ⟨98, k_c_FnCode, [.t 4]⟩ = true := by kernel_rfl
set_option maxHeartbeats 8000000 in
theorem c_FnCode {code more : Str} (w0 : wfL (fun _ => True) code) (w1 : wfL (fun _ => True) more) : Con Try.prog noMv 9 [.d (.sl 1 (code.map byteRow)), .d (.sl 1 (more.map byteRow))] [] (fun r h => r = bool true ∧ h = []) := by
 refine con_of2 k_c_FnCode_fits rfl fun C hP hmv => ?_
 unfold k_c_FnCode
 refine cx_seq ?_
 refine cx_ops ?_
 refine ax_q (q_mov rfl) ?_
 refine ax_nil ?_
 refine cx_keep rfl rfl ?_
 refine cx_seq ?_
 refine cx_seq ?_
 refine cx_ops ?_
 refine ax_q (q_mov rfl) ?_
 first | refine ax_q (q_lenS_map rfl) ?_ | refine ax_q (q_lenS_osl rfl) ?_ | refine ax_q (q_lenS_zs rfl) ?_ | refine ax_q (q_lenS rfl) ?_
 refine ax_q (q_ibin rfl rfl rfl) ?_
 refine ax_q (q_mov rfl) ?_
 apply ax_or rfl rfl
 ·
  intro g
  have g := dF g
  refine ax_q (q_mov rfl) ?_
  first | refine ax_q (q_lenS_map rfl) ?_ | refine ax_q (q_lenS_osl rfl) ?_ | refine ax_q (q_lenS_zs rfl) ?_ | refine ax_q (q_lenS rfl) ?_
  refine ax_q (q_ibin rfl rfl rfl) ?_
  exact ax_nil ⟨rfl, by repeat (first | exact trivial | refine ⟨rfl, ?_⟩ | refine ⟨?_, ?_⟩)⟩
 refine ax_nil ?_
 refine cx_keep rfl rfl ?_
 refine cx_cond rfl (fun h0 => ?_) (fun h0 => ?_)
 ·
  have h0 := (fun h => (or_T h).imp dT dT) h0
  refine cx_seq ?_
  refine cx_ops ?_
  refine ax_q (q_mov rfl) ?_
  refine ax_nil ?_
  refine cx_keep rfl rfl ?_
  refine cx_ret (ret0 rfl rfl ?_)
  exact ⟨rfl, rfl⟩
 ·
  have h0 := (fun h => And.intro (dF (or_F h).1) (dF (or_F h).2)) h0
  have hl : code.length ≤ 1048576 := by omega
  have hm : more.length ≤ 1048576 := by omega
  have he : exprOK (exprOf code) = true := exprG_ok ((srcOf_ok hl).mono (by omega))
  have hrw : rowOK (rowF (srcOf more)).1 = true := (rowF_ok (n := 0) ((srcOf_ok hm).mono (by omega))).2
  obtain ⟨c1, c2, c3, c4, c5⟩ := code_of he
  have hrr := RR.of hrw
  have c5 := c5 _ hrr
  have hsz := expr_ok_sz he
  obtain ⟨hw, hv⟩ := hsz
  have hr1 := hrr.n.l
  have hr2 := hrr.m.l
  have hcw := @compF_len (exprOf code)
  have hcv := code_sz c1
  have ev : evF (exprOf code) (rowF (srcOf more)).1 = evalF (exprOf code).Nodes (rowF (srcOf more)).1 ((exprOf code).Nodes.length + 1) (((exprOf code).Nodes.length : Int) - 1) := evF_1 he hrw
  have hrc : rcF (compF (exprOf code)).1 (rowF (srcOf more)).1 = evF (exprOf code) (rowF (srcOf more)).1 := by rw [rcF_2 (by omega) ⟨c1, hrw⟩, c5, ev]
  have hdp : depF (compF (exprOf code)).1 = (depC (compF (exprOf code)).1, 0) := depF_2 (by omega) c1
  refine cx_skip ?_
  refine cx_keep rfl rfl ?_
  refine cx_seq ?_
  refine cx_ops ?_
  refine ax_q (q_mov rfl) ?_
  first | refine ax_call rfl (vc_pure (c_ExprOf  ?_) hP rfl ?_) | refine ax_call rfl (vc_lend (c_ExprOf  ?_) hP (by repeat (first | exact lal_id _ rfl | exact LAL.nil | refine LAL.cons ?_ ?_ | exact la_id _ rfl | exact LA.lend (lend_whole rfl (by first | (simp; done) | (rw [List.length_map]; rfl))) | refine LA.agg ?_ | refine LA.fn ?_ | refine LA.lend ?_ | exact Lend.d _ | exact Lend.zs _ | exact lend_whole rfl (by first | (simp; done) | (rw [List.length_map]; rfl)) | refine Lend.ptr rfl ?_ | refine Lend.fn ?_ | exact LendL.nil | refine LendL.cons ?_ ?_)) ?_)
  ·
   first | assumption | omega | (simp; done) | (simp; omega)
  rintro r h ⟨rfl, rfl⟩
  refine ⟨fun i => 26 + 200 * i, [0], ⟨rfl, rfl, rfl, rfl, rfl, (by first | exact (fun h => absurd h Bool.false_ne_true) | exact (fun _ => ⟨rfl, (noisl_of (by repeat (first | exact trivial | refine ⟨noisl_map (fun _ => rfl), ?_⟩ | refine ⟨?_, ?_⟩)))⟩))⟩, ?_⟩
  skip
  refine ax_e (e_alloc (by decide) rfl rfl) ?_
  refine ax_e (e_st rfl rfl rfl rfl rfl rfl rfl) ?_
  refine ax_nil ?_
  refine cx_keep rfl rfl ?_
  refine cx_seq ?_
  refine cx_ops ?_
  refine ax_q (q_mov rfl) ?_
  first | refine ax_call rfl (vc_pure0 (c_RowOf  ?_) hP rfl rfl ?_) | refine ax_call rfl (vc_lend0 (c_RowOf  ?_) hP (by repeat (first | exact lal_id _ rfl | exact LAL.nil | refine LAL.cons ?_ ?_ | exact la_id _ rfl | exact LA.lend (lend_whole rfl (by first | (simp; done) | (rw [List.length_map]; rfl))) | refine LA.agg ?_ | refine LA.fn ?_ | refine LA.lend ?_ | exact Lend.d _ | exact Lend.zs _ | exact lend_whole rfl (by first | (simp; done) | (rw [List.length_map]; rfl)) | refine Lend.ptr rfl ?_ | refine Lend.fn ?_ | exact LendL.nil | refine LendL.cons ?_ ?_)) rfl rfl ?_)
  ·
   first | assumption | omega | (simp; done) | (simp; omega)
  refine ax_e (e_alloc (by decide) rfl rfl) ?_
  refine ax_e (e_st rfl rfl rfl rfl rfl rfl rfl) ?_
  refine ax_nil ?_
  refine cx_keep rfl rfl ?_
  refine cx_seq ?_
  refine cx_ops ?_
  refine ax_q (q_ldN rfl rfl rfl) ?_
  first | refine ax_call rfl (vc_pure (c_Compile (e := (exprOf code)) ?_ ?_) hP rfl ?_) | refine ax_call rfl (vc_lend (c_Compile (e := (exprOf code)) ?_ ?_) hP (by repeat (first | exact lal_id _ rfl | exact LAL.nil | refine LAL.cons ?_ ?_ | exact la_id _ rfl | exact LA.lend (lend_whole rfl (by first | (simp; done) | (rw [List.length_map]; rfl))) | refine LA.agg ?_ | refine LA.fn ?_ | refine LA.lend ?_ | exact Lend.d _ | exact Lend.zs _ | exact lend_whole rfl (by first | (simp; done) | (rw [List.length_map]; rfl)) | refine Lend.ptr rfl ?_ | refine Lend.fn ?_ | exact LendL.nil | refine LendL.cons ?_ ?_)) ?_)
  ·
   first | assumption | omega | (simp; done) | (simp; omega)
  ·
   first | assumption | omega | (simp; done) | (simp; omega)
  rintro r h ⟨rfl, rfl⟩
  refine ⟨fun i => 31 + 200 * i, [0], ⟨rfl, rfl, rfl, rfl, rfl, (by first | exact (fun h => absurd h Bool.false_ne_true) | exact (fun _ => ⟨rfl, (noisl_of (by repeat (first | exact trivial | refine ⟨noisl_map (fun _ => rfl), ?_⟩ | refine ⟨?_, ?_⟩)))⟩))⟩, ?_⟩
  skip
  refine ax_q (q_mov rfl) ?_
  refine ax_q (q_ext rfl rfl) ?_
  refine ax_q (q_ext rfl rfl) ?_
  refine ax_q (q_mov rfl) ?_
  refine ax_q (q_mov rfl) ?_
  refine ax_nil ?_
  refine cx_keep rfl rfl ?_
  refine cx_seq ?_
  refine cx_ops ?_
  refine ax_q (q_ldN rfl rfl rfl) ?_
  refine ax_q (q_ldN rfl rfl rfl) ?_
  first | refine ax_call rfl (vc_pure0 (c_EvalExpr (e := (exprOf code)) (w := (rowF (srcOf more)).1) ?_ ?_ ?_ ?_) hP rfl rfl ?_) | refine ax_call rfl (vc_lend0 (c_EvalExpr (e := (exprOf code)) (w := (rowF (srcOf more)).1) ?_ ?_ ?_ ?_) hP (by repeat (first | exact lal_id _ rfl | exact LAL.nil | refine LAL.cons ?_ ?_ | exact la_id _ rfl | exact LA.lend (lend_whole rfl (by first | (simp; done) | (rw [List.length_map]; rfl))) | refine LA.agg ?_ | refine LA.fn ?_ | refine LA.lend ?_ | exact Lend.d _ | exact Lend.zs _ | exact lend_whole rfl (by first | (simp; done) | (rw [List.length_map]; rfl)) | refine Lend.ptr rfl ?_ | refine Lend.fn ?_ | exact LendL.nil | refine LendL.cons ?_ ?_)) rfl rfl ?_)
  ·
   first | assumption | omega | (simp; done) | (simp; omega)
  ·
   first | assumption | omega | (simp; done) | (simp; omega)
  ·
   first | assumption | omega | (simp; done) | (simp; omega)
  ·
   first | assumption | omega | (simp; done) | (simp; omega)
  refine ax_q (q_mov rfl) ?_
  refine ax_q (q_ext rfl rfl) ?_
  refine ax_q (q_ext rfl rfl) ?_
  refine ax_e (e_alloc (by decide) rfl rfl) ?_
  refine ax_e (e_st rfl rfl rfl rfl rfl rfl rfl) ?_
  refine ax_q (q_mov rfl) ?_
  refine ax_nil ?_
  refine cx_keep rfl rfl ?_
  refine cx_seq ?_
  refine cx_ops ?_
  refine ax_q (q_ldN rfl rfl rfl) ?_
  refine ax_q (q_ldN rfl rfl rfl) ?_
  first | refine ax_call rfl (vc_pure0 (c_sEvalExpr (e := (exprOf code)) (w := (rowF (srcOf more)).1) ?_ ?_ ?_ ?_) hP rfl rfl ?_) | refine ax_call rfl (vc_lend0 (c_sEvalExpr (e := (exprOf code)) (w := (rowF (srcOf more)).1) ?_ ?_ ?_ ?_) hP (by repeat (first | exact lal_id _ rfl | exact LAL.nil | refine LAL.cons ?_ ?_ | exact la_id _ rfl | exact LA.lend (lend_whole rfl (by first | (simp; done) | (rw [List.length_map]; rfl))) | refine LA.agg ?_ | refine LA.fn ?_ | refine LA.lend ?_ | exact Lend.d _ | exact Lend.zs _ | exact lend_whole rfl (by first | (simp; done) | (rw [List.length_map]; rfl)) | refine Lend.ptr rfl ?_ | refine Lend.fn ?_ | exact LendL.nil | refine LendL.cons ?_ ?_)) rfl rfl ?_)
  ·
   first | assumption | omega | (simp; done) | (simp; omega)
  ·
   first | assumption | omega | (simp; done) | (simp; omega)
  ·
   first | assumption | omega | (simp; done) | (simp; omega)
  ·
   first | assumption | omega | (simp; done) | (simp; omega)
  refine ax_q (q_mov rfl) ?_
  refine ax_q (q_ext rfl rfl) ?_
  refine ax_q (q_ext rfl rfl) ?_
  refine ax_e (e_alloc (by decide) rfl rfl) ?_
  refine ax_e (e_st rfl rfl rfl rfl rfl rfl rfl) ?_
  refine ax_q (q_mov rfl) ?_
  refine ax_nil ?_
  refine cx_keep rfl rfl ?_
  refine cx_seq ?_
  refine cx_ops ?_
  refine ax_q (q_mov rfl) ?_
  refine ax_q (q_ldN rfl rfl rfl) ?_
  first | refine ax_call rfl (vc_pure0 (c_RunCode (l := (compF (exprOf code)).1) (w := (rowF (srcOf more)).1) ?_ ?_ ?_ ?_) hP rfl rfl ?_) | refine ax_call rfl (vc_lend0 (c_RunCode (l := (compF (exprOf code)).1) (w := (rowF (srcOf more)).1) ?_ ?_ ?_ ?_) hP (by repeat (first | exact lal_id _ rfl | exact LAL.nil | refine LAL.cons ?_ ?_ | exact la_id _ rfl | exact LA.lend (lend_whole rfl (by first | (simp; done) | (rw [List.length_map]; rfl))) | refine LA.agg ?_ | refine LA.fn ?_ | refine LA.lend ?_ | exact Lend.d _ | exact Lend.zs _ | exact lend_whole rfl (by first | (simp; done) | (rw [List.length_map]; rfl)) | refine Lend.ptr rfl ?_ | refine Lend.fn ?_ | exact LendL.nil | refine LendL.cons ?_ ?_)) rfl rfl ?_)
  ·
   first | assumption | omega | (simp; done) | (simp; omega)
  ·
   first | assumption | omega | (simp; done) | (simp; omega)
  ·
   first | assumption | omega | (simp; done) | (simp; omega)
  ·
   first | assumption | omega | (simp; done) | (simp; omega)
  refine ax_q (q_mov rfl) ?_
  refine ax_q (q_ext rfl rfl) ?_
  refine ax_q (q_ext rfl rfl) ?_
  refine ax_e (e_alloc (by decide) rfl rfl) ?_
  refine ax_e (e_st rfl rfl rfl rfl rfl rfl rfl) ?_
  refine ax_q (q_mov rfl) ?_
  refine ax_nil ?_
  refine cx_keep rfl rfl ?_
  refine cx_seq ?_
  refine cx_ops ?_
  refine ax_q (q_mov rfl) ?_
  first | refine ax_call rfl (vc_pure0 (c_CodeDepth (l := (compF (exprOf code)).1) ?_ ?_) hP rfl rfl ?_) | refine ax_call rfl (vc_lend0 (c_CodeDepth (l := (compF (exprOf code)).1) ?_ ?_) hP (by repeat (first | exact lal_id _ rfl | exact LAL.nil | refine LAL.cons ?_ ?_ | exact la_id _ rfl | exact LA.lend (lend_whole rfl (by first | (simp; done) | (rw [List.length_map]; rfl))) | refine LA.agg ?_ | refine LA.fn ?_ | refine LA.lend ?_ | exact Lend.d _ | exact Lend.zs _ | exact lend_whole rfl (by first | (simp; done) | (rw [List.length_map]; rfl)) | refine Lend.ptr rfl ?_ | refine Lend.fn ?_ | exact LendL.nil | refine LendL.cons ?_ ?_)) rfl rfl ?_)
  ·
   first | assumption | omega | (simp; done) | (simp; omega)
  ·
   first | assumption | omega | (simp; done) | (simp; omega)
  refine ax_q (q_mov rfl) ?_
  refine ax_q (q_ext rfl rfl) ?_
  refine ax_q (q_ext rfl rfl) ?_
  refine ax_q (q_mov rfl) ?_
  refine ax_q (q_mov rfl) ?_
  refine ax_nil ?_
  refine cx_keep rfl rfl ?_
  refine cx_seq ?_
  refine cx_ops ?_
  refine ax_q (q_mov rfl) ?_
  refine ax_q (q_ibin rfl rfl rfl) ?_
  refine ax_q (q_mov rfl) ?_
  apply ax_and rfl rfl
  ·
   intro g
   have g := dT g
   refine ax_q (q_mov rfl) ?_
   refine ax_q (q_mov rfl) ?_
   refine ax_q (q_ibin rfl rfl rfl) ?_
   exact ax_nil ⟨rfl, by repeat (first | exact trivial | refine ⟨rfl, ?_⟩ | refine ⟨?_, ?_⟩)⟩
  refine ax_q (q_mov rfl) ?_
  apply ax_and rfl rfl
  ·
   intro g
   have g := (fun h => And.intro (dT (and_T h).1) (dT (and_T h).2)) g
   refine ax_q (q_ldN rfl rfl rfl) ?_
   refine ax_q (q_ldN rfl rfl rfl) ?_
   first | refine ax_q (GValue.q_eqs rfl rfl) ?_ | refine ax_q (q_eqs rfl rfl rfl) ?_
   exact ax_nil ⟨rfl, by repeat (first | exact trivial | refine ⟨rfl, ?_⟩ | refine ⟨?_, ?_⟩)⟩
  refine ax_q (q_mov rfl) ?_
  apply ax_and rfl rfl
  ·
   intro g
   have g := (fun h => And.intro ((fun h => And.intro (dT (and_T h).1) (dT (and_T h).2)) (and_T h).1) (id (and_T h).2)) g
   refine ax_q (q_mov rfl) ?_
   refine ax_q (q_mov rfl) ?_
   refine ax_q (q_ibin rfl rfl rfl) ?_
   exact ax_nil ⟨rfl, by repeat (first | exact trivial | refine ⟨rfl, ?_⟩ | refine ⟨?_, ?_⟩)⟩
  refine ax_q (q_mov rfl) ?_
  apply ax_and rfl rfl
  ·
   intro g
   have g := (fun h => And.intro ((fun h => And.intro ((fun h => And.intro (dT (and_T h).1) (dT (and_T h).2)) (and_T h).1) (id (and_T h).2)) (and_T h).1) (dT (and_T h).2)) g
   refine ax_q (q_ldN rfl rfl rfl) ?_
   refine ax_q (q_ldN rfl rfl rfl) ?_
   first | refine ax_q (GValue.q_eqs rfl rfl) ?_ | refine ax_q (q_eqs rfl rfl rfl) ?_
   exact ax_nil ⟨rfl, by repeat (first | exact trivial | refine ⟨rfl, ?_⟩ | refine ⟨?_, ?_⟩)⟩
  refine ax_q (q_mov rfl) ?_
  apply ax_and rfl rfl
  ·
   intro g
   have g := (fun h => And.intro ((fun h => And.intro ((fun h => And.intro ((fun h => And.intro (dT (and_T h).1) (dT (and_T h).2)) (and_T h).1) (id (and_T h).2)) (and_T h).1) (dT (and_T h).2)) (and_T h).1) (id (and_T h).2)) g
   refine ax_q (q_mov rfl) ?_
   refine ax_q (q_ibin rfl rfl rfl) ?_
   exact ax_nil ⟨rfl, by repeat (first | exact trivial | refine ⟨rfl, ?_⟩ | refine ⟨?_, ?_⟩)⟩
  refine ax_q (q_mov rfl) ?_
  apply ax_and rfl rfl
  ·
   intro g
   have g := (fun h => And.intro ((fun h => And.intro ((fun h => And.intro ((fun h => And.intro ((fun h => And.intro (dT (and_T h).1) (dT (and_T h).2)) (and_T h).1) (id (and_T h).2)) (and_T h).1) (dT (and_T h).2)) (and_T h).1) (id (and_T h).2)) (and_T h).1) (dT (and_T h).2)) g
   refine ax_q (q_mov rfl) ?_
   refine ax_q (q_fadr_ptr rfl) ?_
   refine ax_q (q_load1_ptr rfl rfl rfl) ?_
   first | refine ax_q (q_lenS_map rfl) ?_ | refine ax_q (q_lenS_osl rfl) ?_ | refine ax_q (q_lenS_zs rfl) ?_ | refine ax_q (q_lenS rfl) ?_
   refine ax_q (q_ibin rfl rfl rfl) ?_
   exact ax_nil ⟨rfl, by repeat (first | exact trivial | refine ⟨rfl, ?_⟩ | refine ⟨?_, ?_⟩)⟩
  refine ax_q (q_mov rfl) ?_
  apply ax_and rfl rfl
  ·
   intro g
   have g := (fun h => And.intro ((fun h => And.intro ((fun h => And.intro ((fun h => And.intro ((fun h => And.intro ((fun h => And.intro (dT (and_T h).1) (dT (and_T h).2)) (and_T h).1) (id (and_T h).2)) (and_T h).1) (dT (and_T h).2)) (and_T h).1) (id (and_T h).2)) (and_T h).1) (dT (and_T h).2)) (and_T h).1) (dT (and_T h).2)) g
   refine ax_q (q_mov rfl) ?_
   refine ax_q (q_ibin rfl rfl rfl) ?_
   exact ax_nil ⟨rfl, by repeat (first | exact trivial | refine ⟨rfl, ?_⟩ | refine ⟨?_, ?_⟩)⟩
  refine ax_q (q_mov rfl) ?_
  apply ax_and rfl rfl
  ·
   intro g
   have g := (fun h => And.intro ((fun h => And.intro ((fun h => And.intro ((fun h => And.intro ((fun h => And.intro ((fun h => And.intro ((fun h => And.intro (dT (and_T h).1) (dT (and_T h).2)) (and_T h).1) (id (and_T h).2)) (and_T h).1) (dT (and_T h).2)) (and_T h).1) (id (and_T h).2)) (and_T h).1) (dT (and_T h).2)) (and_T h).1) (dT (and_T h).2)) (and_T h).1) (dT (and_T h).2)) g
   refine ax_q (q_mov rfl) ?_
   first | refine ax_call rfl (vc_pure0 (c_CodeOK (l := (compF (exprOf code)).1) ?_ ?_) hP rfl rfl ?_) | refine ax_call rfl (vc_lend0 (c_CodeOK (l := (compF (exprOf code)).1) ?_ ?_) hP (by repeat (first | exact lal_id _ rfl | exact LAL.nil | refine LAL.cons ?_ ?_ | exact la_id _ rfl | exact LA.lend (lend_whole rfl (by first | (simp; done) | (rw [List.length_map]; rfl))) | refine LA.agg ?_ | refine LA.fn ?_ | refine LA.lend ?_ | exact Lend.d _ | exact Lend.zs _ | exact lend_whole rfl (by first | (simp; done) | (rw [List.length_map]; rfl)) | refine Lend.ptr rfl ?_ | refine Lend.fn ?_ | exact LendL.nil | refine LendL.cons ?_ ?_)) rfl rfl ?_)
   ·
    first | assumption | omega | (simp; done) | (simp; omega)
   ·
    first | assumption | omega | (simp; done) | (simp; omega)
   exact ax_nil ⟨rfl, by repeat (first | exact trivial | refine ⟨rfl, ?_⟩ | refine ⟨?_, ?_⟩)⟩
  refine ax_q (q_mov rfl) ?_
  refine ax_nil ?_
  refine cx_keep rfl rfl ?_
  refine cx_ret (ret0 rfl rfl ?_)
  rw [hrc, hdp]
  dsimp only
  rw [c1, c2, decide_eq_true c4, decide_eq_true c3, eqb_rfl]
  exact ⟨by simp; rfl, rfl⟩

theorem own : ownKnob Try.prog.godebug = none := by kernel_rfl
theorem laid : laidOutB Try.prog = true := by kernel_rfl
theorem closedTs : closedT Try.prog [5, 69] = true := by kernel_rfl
theorem con (rows : List (List D)) (h : HasAll Try.prog Try.f9.params.toList rows) : Con Try.prog noMv 9 (argsAV Try.prog Try.f9.params.toList rows) [] (fun r h => r = AM.bool true ∧ h = []) := by
  rw [Try.params9] at h ⊢
  obtain ⟨d0, r0, rfl, h0, h⟩ := h
  obtain ⟨d1, r1, rfl, h1, h⟩ := h
  obtain rfl := h
  obtain ⟨a0, rfl, w0⟩ := (dec_slice (sz := 1) Try.underlying69 (by kernel_rfl) (dec_byte Try.underlying5)) h0
  obtain ⟨a1, rfl, w1⟩ := (dec_slice (sz := 1) Try.underlying69 (by kernel_rfl) (dec_byte Try.underlying5)) h1
  have e : argsAV Try.prog [69, 69] [[.sl 1 (a0.map byteRow)], [.sl 1 (a1.map byteRow)]] = [.d (.sl 1 (a0.map byteRow)), .d (.sl 1 (a1.map byteRow))] := by
    first | (simp only [argsAV, argAV, Try.underlying69]; done) | (simp only [argsAV, argAV, Try.underlying69]; rfl)
  show Con Try.prog noMv 9 (argsAV Try.prog [69, 69] [[.sl 1 (a0.map byteRow)], [.sl 1 (a1.map byteRow)]]) [] _
  rw [e]
  exact c_FnCode w0 w1
set_option maxRecDepth 100000 in
theorem lifted (os : Os) (started : os.Started) (H : Type) (enc : TypeId × Value → H) :
    ReturnsInHanded {} Try.checked os 9 .any (Rows.fnCodeSpec.pre6 enc Try.prog Try.f9 Rows.fnCodeRow.domain false) (Rows.fnCodeSpec.post enc Try.prog Try.f9 false true false false) := by
  refine returnsInHanded_of_change (C := Try.checked) own started (by kernel_rfl) Try.func9
    (ChangeSpec.witness6 (enc := enc) (C := Try.checked) false ⟨#[], #[.slice none 0 0, .slice none 0 0], []⟩ 8 (by kernel_rfl) (by kernel_rfl) (by kernel_rfl) (by kernel_rfl)) ?_
  intro W base args ds gs before hval hW hcnd _
  refine law_contract closedTs laid (by kernel_rfl) rfl rfl Try.underlying4 con (fun hl => ?_) hval hW
  match ds, hl with
  | [x0, x1], _ => rfl
theorem over : Rows.fnCodeRow.holds Try.pinned (OpenSpec.ofChange Rows.fnCodeSpec) :=
  OpenClaim.holds_of_wide 9 Try.f9 rfl rfl rfl rfl rfl rfl rfl ⟨rfl, rfl, rfl, rfl, rfl⟩ rfl rfl rfl rfl rfl (by kernel_rfl) Try.func9 (by kernel_rfl)
    (of_decide_eq_true (by kernel_rfl)) (by unfold Func.isWrapper; first | (rw [if_pos (by decide +kernel)]; kernel_rfl) | (rw [if_neg (by decide +kernel)]; exact ⟨rfl, rfl⟩))
    (fun os started H enc _ => lifted os started H enc)
theorem proved : Rows.FnCodeSaid := over
end fnCode
end Go.Proofs.Ytalnddcijlkklaa
#print axioms Go.Proofs.Ytalnddcijlkklaa.fnCode.proved
