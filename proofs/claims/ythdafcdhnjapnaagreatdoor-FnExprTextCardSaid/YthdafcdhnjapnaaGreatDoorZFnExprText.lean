/- The law FnExprText of the given program returns true for all arguments, and its arguments read behind the call as they read before: the statement FnExprTextSaid, with no condition. -/
import Derived.Test.YthdafcdhnjapnaaGreatDoorW1
import Derived.Test.YthdafcdhnjapnaaGreatDoorRows
import Derived.Test.YthdafcdhnjapnaaGreatDoorTie
import Derived.Test.YthdafcdhnjapnaaGreatDoorCards
import Derived.LaidLaws
import Derived.SevenTiedAt
import Derived.Lay
namespace Go.Proofs.YthdafcdhnjapnaaGreatDoor
open Go Go.AM Go.ChangeShapes Go.RowKit
set_option linter.unusedVariables false
set_option linter.unusedSimpArgs false
namespace fnExprText
set_option maxRecDepth 10000
/- loop.example/g00332/laws.FnExprText -/
def k_c_FnExprText : XCode :=
 .seq (.ops [.op (some 2) (.mov (.k (.bool false)))])
 (.keep [0] (.seq (.seq (.ops [.op (some 14) (.mov (.t 0)),
   .op (some 15) (.lenS (.t 14)),
   .op (some 16) (.bin .gtr (.t 15) (.k (.int .i64 1048576)))])
  (.keep [0, 16] (.cond (.t 16)
  (.seq (.ops [.op (some 2) (.mov (.k (.bool true)))])
   (.keep [2] (.ret)))
  (.skip))))
 (.keep [0] (.seq (.ops [.op (some 17) (.mov (.t 0)),
   .call (some 18) 6 [.t 17],
   .op (some 3) (.alloc [.nils 7]),
   .op none (.store 1 (.t 3) (.t 18))])
 (.keep [3] (.seq (.ops [.op (some 20) (.loadN 1 (.t 3)),
   .call (some 21) 7 [.t 20],
   .op (some 19) (.mov (.t 21)),
   .op (some 22) (.ext (.t 19) 0),
   .op (some 23) (.ext (.t 19) 1),
   .op (some 4) (.mov (.t 22)),
   .op (some 5) (.mov (.t 23))])
 (.keep [3, 4, 5] (.seq (.ops [.op (some 25) (.loadN 1 (.t 3)),
   .call (some 26) 8 [.t 25],
   .op (some 24) (.mov (.t 26)),
   .op (some 27) (.ext (.t 24) 0),
   .op (some 28) (.ext (.t 24) 1),
   .op (some 6) (.mov (.t 27)),
   .op (some 7) (.mov (.t 28))])
 (.keep [3, 4, 5, 6] (.seq (.ops [.op (some 30) (.mov (.t 4)),
   .call (some 31) 9 [.t 30],
   .op (some 29) (.mov (.t 31)),
   .op (some 32) (.ext (.t 29) 0),
   .op (some 33) (.ext (.t 29) 1),
   .op (some 8) (.alloc [.nils 7]),
   .op none (.store 1 (.t 8) (.t 32)),
   .op (some 9) (.mov (.t 33))])
 (.keep [3, 4, 5, 6, 8, 9] (.seq (.ops [.op (some 35) (.mov (.t 4)),
   .call (some 36) 10 [.t 35],
   .op (some 34) (.mov (.t 36)),
   .op (some 37) (.ext (.t 34) 0),
   .op (some 38) (.ext (.t 34) 1),
   .op (some 10) (.mov (.t 37)),
   .op (some 11) (.mov (.t 38))])
 (.keep [3, 4, 5, 6, 8, 9, 10, 11] (.seq (.ops [.op (some 40) (.mov (.t 4)),
   .call (some 41) 11 [.t 40],
   .op (some 39) (.mov (.t 41)),
   .op (some 42) (.ext (.t 39) 0),
   .op (some 43) (.ext (.t 39) 1),
   .op (some 12) (.mov (.t 42)),
   .op (some 13) (.mov (.t 43))])
 (.keep [3, 4, 5, 6, 8, 9, 10, 11, 12] (.seq (.ops [.op (some 44) (.mov (.t 5)),
   .op (some 45) (.bin .eql (.t 44) (.k (.int .i64 0))),
   .op (some 46) (.mov (.t 45)),
   .andor 50 true 2 46 [.op (some 47) (.mov (.t 4)), .op (some 48) (.mov (.t 6)), .op (some 49) (.bin .eql (.t 47) (.t 48))] (.t 49),
   .op (some 51) (.mov (.t 50)),
   .andor 54 true 7 51 [.op (some 52) (.mov (.t 9)), .op (some 53) (.bin .eql (.t 52) (.k (.int .i64 0)))] (.t 53),
   .op (some 55) (.mov (.t 54)),
   .andor 59 true 11 55 [.op (some 56) (.loadN 1 (.t 8)), .op (some 57) (.loadN 1 (.t 3)), .call (some 58) 12 [.t 56, .t 57]] (.t 58),
   .op (some 60) (.mov (.t 59)),
   .andor 63 true 16 60 [.op (some 61) (.mov (.t 11)), .op (some 62) (.bin .eql (.t 61) (.k (.int .i64 0)))] (.t 62),
   .op (some 64) (.mov (.t 63)),
   .andor 68 true 20 64 [.op (some 65) (.mov (.t 10)), .op (some 66) (.mov (.t 12)), .call (some 67) 13 [.t 65, .t 66]] (.t 67),
   .op (some 69) (.mov (.t 68)),
   .andor 72 true 25 69 [.op (some 70) (.loadN 1 (.t 3)), .call (some 71) 14 [.t 70]] (.t 71),
   .op (some 2) (.mov (.t 72))])
 (.keep [2] (.ret))))))))))))))))))
theorem k_c_FnExprText_fits : fitsF Tryz.prog 3 ⟨73, k_c_FnExprText, [.t 2]⟩ = true := by kernel_rfl
set_option maxHeartbeats 8000000 in
theorem c_FnExprText {code : Str} (w0 : wfL (fun _ => True) code) : Con Tryz.prog noMv 3 [.d (.sl 1 (code.map byteRow))] [] (fun r h => r = bool true ∧ h = []) := by
 refine con_of2 k_c_FnExprText_fits rfl fun C hP hmv => ?_
 unfold k_c_FnExprText
 refine cx_seq ?_
 refine cx_ops ?_
 refine ax_q (q_mov rfl) ?_
 refine ax_nil ?_
 refine cx_keep rfl rfl ?_
 refine cx_seq ?_
 refine cx_seq ?_
 refine cx_ops ?_
 refine ax_q (q_mov rfl) ?_
 first | refine ax_q (q_lenS_map rfl) ?_ | refine ax_q (q_lenS_osl rfl) ?_ | refine ax_q (q_lenS_zs rfl) ?_ | refine ax_q (q_lenS rfl) ?_
 refine ax_q (q_ibin rfl rfl rfl) ?_
 refine ax_nil ?_
 refine cx_keep rfl rfl ?_
 refine cx_cond rfl (fun h0 => ?_) (fun h0 => ?_)
 ·
  have h0 := dT h0
  refine cx_seq ?_
  refine cx_ops ?_
  refine ax_q (q_mov rfl) ?_
  refine ax_nil ?_
  refine cx_keep rfl rfl ?_
  refine cx_ret (ret0 rfl rfl ?_)
  exact ⟨rfl, rfl⟩
 ·
  have h0 := dF h0
  have hcl : code.length ≤ 1048576 := by omega
  have hok := exprOf_ok hcl
  have hpe := pe_ok hok
  obtain ⟨hl, tk, f, k, hlx, htl, hokt, hp, hd, hv, hnl⟩ := hpe
  have hpe := pe_ok hok
  have hnl2 : (exprOf code).Nodes.length ≤ 1048576 := by omega
  refine cx_skip ?_
  refine cx_keep rfl rfl ?_
  refine cx_seq ?_
  refine cx_ops ?_
  refine ax_q (q_mov rfl) ?_
  first | refine ax_call rfl (vc_pure (c_ExprOf (code := code) ?_) hP rfl ?_) | refine ax_call rfl (vc_lend (c_ExprOf (code := code) ?_) hP (by repeat (first | exact lal_id _ rfl | exact LAL.nil | refine LAL.cons ?_ ?_ | exact la_id _ rfl | exact LA.lend (lend_whole rfl (by first | (simp; done) | (rw [List.length_map]; rfl))) | refine LA.agg ?_ | refine LA.fn ?_ | refine LA.lend ?_ | exact Lend.d _ | exact Lend.zs _ | exact lend_whole rfl (by first | (simp; done) | (rw [List.length_map]; rfl)) | refine Lend.ptr rfl ?_ | refine Lend.fn ?_ | exact LendL.nil | refine LendL.cons ?_ ?_)) ?_)
  ·
   first | assumption | omega | (simp; done) | (simp; omega)
  rintro r h ⟨rfl, rfl⟩
  refine ⟨fun i => 18 + 200 * i, [0], ⟨rfl, rfl, rfl, rfl, rfl, (by first | exact (fun h => absurd h Bool.false_ne_true) | exact (fun _ => ⟨rfl, (noisl_of (by repeat (first | exact trivial | refine ⟨noisl_map (fun _ => rfl), ?_⟩ | refine ⟨?_, ?_⟩)))⟩))⟩, ?_⟩
  skip
  refine ax_e (e_alloc (by decide) rfl rfl) ?_
  refine ax_e (e_st rfl rfl rfl rfl rfl rfl rfl) ?_
  refine ax_nil ?_
  refine cx_keep rfl rfl ?_
  refine cx_seq ?_
  refine cx_ops ?_
  refine ax_q (q_ldN rfl rfl rfl) ?_
  first | refine ax_call rfl (vc_pure0 (c_ExprText (e := exprOf code) ?_ ?_) hP rfl rfl ?_) | refine ax_call rfl (vc_lend0 (c_ExprText (e := exprOf code) ?_ ?_) hP (by repeat (first | exact lal_id _ rfl | exact LAL.nil | refine LAL.cons ?_ ?_ | exact la_id _ rfl | exact LA.lend (lend_whole rfl (by first | (simp; done) | (rw [List.length_map]; rfl))) | refine LA.agg ?_ | refine LA.fn ?_ | refine LA.lend ?_ | exact Lend.d _ | exact Lend.zs _ | exact lend_whole rfl (by first | (simp; done) | (rw [List.length_map]; rfl)) | refine Lend.ptr rfl ?_ | refine Lend.fn ?_ | exact LendL.nil | refine LendL.cons ?_ ?_)) rfl rfl ?_)
  ·
   first | assumption | omega | (simp; done) | (simp; omega)
  ·
   first | assumption | omega | (simp; done) | (simp; omega)
  rw [exT_t hok]
  refine ax_q (q_mov rfl) ?_
  refine ax_q (q_ext rfl rfl) ?_
  refine ax_q (q_ext rfl rfl) ?_
  refine ax_q (q_mov rfl) ?_
  refine ax_q (q_mov rfl) ?_
  refine ax_nil ?_
  refine cx_keep rfl rfl ?_
  refine cx_seq ?_
  refine cx_ops ?_
  refine ax_q (q_ldN rfl rfl rfl) ?_
  first | refine ax_call rfl (vc_pure0 (c_sExprText (e := exprOf code) ?_ ?_) hP rfl rfl ?_) | refine ax_call rfl (vc_lend0 (c_sExprText (e := exprOf code) ?_ ?_) hP (by repeat (first | exact lal_id _ rfl | exact LAL.nil | refine LAL.cons ?_ ?_ | exact la_id _ rfl | exact LA.lend (lend_whole rfl (by first | (simp; done) | (rw [List.length_map]; rfl))) | refine LA.agg ?_ | refine LA.fn ?_ | refine LA.lend ?_ | exact Lend.d _ | exact Lend.zs _ | exact lend_whole rfl (by first | (simp; done) | (rw [List.length_map]; rfl)) | refine Lend.ptr rfl ?_ | refine Lend.fn ?_ | exact LendL.nil | refine LendL.cons ?_ ?_)) rfl rfl ?_)
  ·
   first | assumption | omega | (simp; done) | (simp; omega)
  ·
   first | assumption | omega | (simp; done) | (simp; omega)
  rw [exT_t hok]
  refine ax_q (q_mov rfl) ?_
  refine ax_q (q_ext rfl rfl) ?_
  refine ax_q (q_ext rfl rfl) ?_
  refine ax_q (q_mov rfl) ?_
  refine ax_q (q_mov rfl) ?_
  refine ax_nil ?_
  refine cx_keep rfl rfl ?_
  refine cx_seq ?_
  refine cx_ops ?_
  refine ax_q (q_mov rfl) ?_
  first | refine ax_call rfl (vc_pure (c_ParseExpr (t := exT (exprOf code)) (e := exprOf code) ?_) hP rfl ?_) | refine ax_call rfl (vc_lend (c_ParseExpr (t := exT (exprOf code)) (e := exprOf code) ?_) hP (by repeat (first | exact lal_id _ rfl | exact LAL.nil | refine LAL.cons ?_ ?_ | exact la_id _ rfl | exact LA.lend (lend_whole rfl (by first | (simp; done) | (rw [List.length_map]; rfl))) | refine LA.agg ?_ | refine LA.fn ?_ | refine LA.lend ?_ | exact Lend.d _ | exact Lend.zs _ | exact lend_whole rfl (by first | (simp; done) | (rw [List.length_map]; rfl)) | refine Lend.ptr rfl ?_ | refine Lend.fn ?_ | exact LendL.nil | refine LendL.cons ?_ ?_)) ?_)
  ·
   first | assumption | omega | (simp; done) | (simp; omega)
  rintro r h ⟨rfl, rfl⟩
  refine ⟨fun i => 31 + 200 * i, [0], ⟨rfl, rfl, rfl, rfl, rfl, (by first | exact (fun h => absurd h Bool.false_ne_true) | exact (fun _ => ⟨rfl, (noisl_of (by repeat (first | exact trivial | refine ⟨noisl_map (fun _ => rfl), ?_⟩ | refine ⟨?_, ?_⟩)))⟩))⟩, ?_⟩
  skip
  refine ax_q (q_mov rfl) ?_
  refine ax_q (q_ext rfl rfl) ?_
  refine ax_q (q_ext rfl rfl) ?_
  refine ax_e (e_alloc (by decide) rfl rfl) ?_
  refine ax_e (e_st rfl rfl rfl rfl rfl rfl rfl) ?_
  refine ax_q (q_mov rfl) ?_
  refine ax_nil ?_
  refine cx_keep rfl rfl ?_
  refine cx_seq ?_
  refine cx_ops ?_
  refine ax_q (q_mov rfl) ?_
  first | refine ax_call rfl (vc_pure (c_LexSql (t := exT (exprOf code)) (ts := tk) ?_ ?_ ?_) hP rfl ?_) | refine ax_call rfl (vc_lend (c_LexSql (t := exT (exprOf code)) (ts := tk) ?_ ?_ ?_) hP (by repeat (first | exact lal_id _ rfl | exact LAL.nil | refine LAL.cons ?_ ?_ | exact la_id _ rfl | exact LA.lend (lend_whole rfl (by first | (simp; done) | (rw [List.length_map]; rfl))) | refine LA.agg ?_ | refine LA.fn ?_ | refine LA.lend ?_ | exact Lend.d _ | exact Lend.zs _ | exact lend_whole rfl (by first | (simp; done) | (rw [List.length_map]; rfl)) | refine Lend.ptr rfl ?_ | refine Lend.fn ?_ | exact LendL.nil | refine LendL.cons ?_ ?_)) ?_)
  ·
   first | assumption | omega | (simp; done) | (simp; omega)
  ·
   first | assumption | omega | (simp; done) | (simp; omega)
  ·
   first | assumption | omega | (simp; done) | (simp; omega)
  rintro r h ⟨rfl, rfl⟩
  refine ⟨fun i => 36 + 200 * i, [0], ⟨rfl, rfl, rfl, rfl, rfl, (by first | exact (fun h => absurd h Bool.false_ne_true) | exact (fun _ => ⟨rfl, (noisl_of (by repeat (first | exact trivial | refine ⟨noisl_map (fun _ => rfl), ?_⟩ | refine ⟨?_, ?_⟩)))⟩))⟩, ?_⟩
  skip
  refine ax_q (q_mov rfl) ?_
  refine ax_q (q_ext rfl rfl) ?_
  refine ax_q (q_ext rfl rfl) ?_
  refine ax_q (q_mov rfl) ?_
  refine ax_q (q_mov rfl) ?_
  refine ax_nil ?_
  refine cx_keep rfl rfl ?_
  refine cx_seq ?_
  refine cx_ops ?_
  refine ax_q (q_mov rfl) ?_
  first | refine ax_call rfl (vc_pure (c_sLexSql (t := exT (exprOf code)) (ts := tk) ?_ ?_ ?_) hP rfl ?_) | refine ax_call rfl (vc_lend (c_sLexSql (t := exT (exprOf code)) (ts := tk) ?_ ?_ ?_) hP (by repeat (first | exact lal_id _ rfl | exact LAL.nil | refine LAL.cons ?_ ?_ | exact la_id _ rfl | exact LA.lend (lend_whole rfl (by first | (simp; done) | (rw [List.length_map]; rfl))) | refine LA.agg ?_ | refine LA.fn ?_ | refine LA.lend ?_ | exact Lend.d _ | exact Lend.zs _ | exact lend_whole rfl (by first | (simp; done) | (rw [List.length_map]; rfl)) | refine Lend.ptr rfl ?_ | refine Lend.fn ?_ | exact LendL.nil | refine LendL.cons ?_ ?_)) ?_)
  ·
   first | assumption | omega | (simp; done) | (simp; omega)
  ·
   first | assumption | omega | (simp; done) | (simp; omega)
  ·
   first | assumption | omega | (simp; done) | (simp; omega)
  rintro r h ⟨rfl, rfl⟩
  refine ⟨fun i => 41 + 200 * i, [0], ⟨rfl, rfl, rfl, rfl, rfl, (by first | exact (fun h => absurd h Bool.false_ne_true) | exact (fun _ => ⟨rfl, (noisl_of (by repeat (first | exact trivial | refine ⟨noisl_map (fun _ => rfl), ?_⟩ | refine ⟨?_, ?_⟩)))⟩))⟩, ?_⟩
  skip
  refine ax_q (q_mov rfl) ?_
  refine ax_q (q_ext rfl rfl) ?_
  refine ax_q (q_ext rfl rfl) ?_
  refine ax_q (q_mov rfl) ?_
  refine ax_q (q_mov rfl) ?_
  refine ax_nil ?_
  refine cx_keep rfl rfl ?_
  refine cx_seq ?_
  refine cx_ops ?_
  refine ax_q (q_mov rfl) ?_
  refine ax_q (q_ibin rfl rfl rfl) ?_
  refine ax_q (q_mov rfl) ?_
  apply ax_and rfl rfl
  ·
   intro g
   have g := dT g
   refine ax_q (q_mov rfl) ?_
   refine ax_q (q_mov rfl) ?_
   refine ax_q (q_sbin rfl rfl rfl) ?_
   exact ax_nil ⟨rfl, by repeat (first | exact trivial | refine ⟨rfl, ?_⟩ | refine ⟨?_, ?_⟩)⟩
  refine ax_q (q_mov rfl) ?_
  apply ax_and rfl rfl
  ·
   intro g
   have g := (fun h => And.intro (dT (and_T h).1) (dT (and_T h).2)) g
   refine ax_q (q_mov rfl) ?_
   refine ax_q (q_ibin rfl rfl rfl) ?_
   exact ax_nil ⟨rfl, by repeat (first | exact trivial | refine ⟨rfl, ?_⟩ | refine ⟨?_, ?_⟩)⟩
  refine ax_q (q_mov rfl) ?_
  apply ax_and rfl rfl
  ·
   intro g
   have g := (fun h => And.intro ((fun h => And.intro (dT (and_T h).1) (dT (and_T h).2)) (and_T h).1) (dT (and_T h).2)) g
   refine ax_q (q_ldN rfl rfl rfl) ?_
   refine ax_q (q_ldN rfl rfl rfl) ?_
   first | refine ax_call rfl (vc_pure0 (c_sameExpr (a := exprOf code) (b := exprOf code) ?_ ?_) hP rfl rfl ?_) | refine ax_call rfl (vc_lend0 (c_sameExpr (a := exprOf code) (b := exprOf code) ?_ ?_) hP (by repeat (first | exact lal_id _ rfl | exact LAL.nil | refine LAL.cons ?_ ?_ | exact la_id _ rfl | exact LA.lend (lend_whole rfl (by first | (simp; done) | (rw [List.length_map]; rfl))) | refine LA.agg ?_ | refine LA.fn ?_ | refine LA.lend ?_ | exact Lend.d _ | exact Lend.zs _ | exact lend_whole rfl (by first | (simp; done) | (rw [List.length_map]; rfl)) | refine Lend.ptr rfl ?_ | refine Lend.fn ?_ | exact LendL.nil | refine LendL.cons ?_ ?_)) rfl rfl ?_)
   ·
    first | assumption | omega | (simp; done) | (simp; omega)
   ·
    first | assumption | omega | (simp; done) | (simp; omega)
   exact ax_nil ⟨rfl, by repeat (first | exact trivial | refine ⟨rfl, ?_⟩ | refine ⟨?_, ?_⟩)⟩
  refine ax_q (q_mov rfl) ?_
  apply ax_and rfl rfl
  ·
   intro g
   have g := (fun h => And.intro ((fun h => And.intro ((fun h => And.intro (dT (and_T h).1) (dT (and_T h).2)) (and_T h).1) (dT (and_T h).2)) (and_T h).1) (id (and_T h).2)) g
   refine ax_q (q_mov rfl) ?_
   refine ax_q (q_ibin rfl rfl rfl) ?_
   exact ax_nil ⟨rfl, by repeat (first | exact trivial | refine ⟨rfl, ?_⟩ | refine ⟨?_, ?_⟩)⟩
  refine ax_q (q_mov rfl) ?_
  apply ax_and rfl rfl
  ·
   intro g
   have g := (fun h => And.intro ((fun h => And.intro ((fun h => And.intro ((fun h => And.intro (dT (and_T h).1) (dT (and_T h).2)) (and_T h).1) (dT (and_T h).2)) (and_T h).1) (id (and_T h).2)) (and_T h).1) (dT (and_T h).2)) g
   refine ax_q (q_mov rfl) ?_
   refine ax_q (q_mov rfl) ?_
   first | refine ax_call rfl (vc_pure0 (c_sameTexts (xs := tk) (ys := tk) ?_ ?_) hP rfl rfl ?_) | refine ax_call rfl (vc_lend0 (c_sameTexts (xs := tk) (ys := tk) ?_ ?_) hP (by repeat (first | exact lal_id _ rfl | exact LAL.nil | refine LAL.cons ?_ ?_ | exact la_id _ rfl | exact LA.lend (lend_whole rfl (by first | (simp; done) | (rw [List.length_map]; rfl))) | refine LA.agg ?_ | refine LA.fn ?_ | refine LA.lend ?_ | exact Lend.d _ | exact Lend.zs _ | exact lend_whole rfl (by first | (simp; done) | (rw [List.length_map]; rfl)) | refine Lend.ptr rfl ?_ | refine Lend.fn ?_ | exact LendL.nil | refine LendL.cons ?_ ?_)) rfl rfl ?_)
   ·
    first | assumption | omega | (simp; done) | (simp; omega)
   ·
    first | assumption | omega | (simp; done) | (simp; omega)
   exact ax_nil ⟨rfl, by repeat (first | exact trivial | refine ⟨rfl, ?_⟩ | refine ⟨?_, ?_⟩)⟩
  refine ax_q (q_mov rfl) ?_
  apply ax_and rfl rfl
  ·
   intro g
   have g := (fun h => And.intro ((fun h => And.intro ((fun h => And.intro ((fun h => And.intro ((fun h => And.intro (dT (and_T h).1) (dT (and_T h).2)) (and_T h).1) (dT (and_T h).2)) (and_T h).1) (id (and_T h).2)) (and_T h).1) (dT (and_T h).2)) (and_T h).1) (id (and_T h).2)) g
   refine ax_q (q_ldN rfl rfl rfl) ?_
   first | refine ax_call rfl (vc_pure0 (c_ExprOK (e := exprOf code) ?_ ?_) hP rfl rfl ?_) | refine ax_call rfl (vc_lend0 (c_ExprOK (e := exprOf code) ?_ ?_) hP (by repeat (first | exact lal_id _ rfl | exact LAL.nil | refine LAL.cons ?_ ?_ | exact la_id _ rfl | exact LA.lend (lend_whole rfl (by first | (simp; done) | (rw [List.length_map]; rfl))) | refine LA.agg ?_ | refine LA.fn ?_ | refine LA.lend ?_ | exact Lend.d _ | exact Lend.zs _ | exact lend_whole rfl (by first | (simp; done) | (rw [List.length_map]; rfl)) | refine Lend.ptr rfl ?_ | refine Lend.fn ?_ | exact LendL.nil | refine LendL.cons ?_ ?_)) rfl rfl ?_)
   ·
    first | assumption | omega | (simp; done) | (simp; omega)
   ·
    first | assumption | omega | (simp; done) | (simp; omega)
   exact ax_nil ⟨rfl, by repeat (first | exact trivial | refine ⟨rfl, ?_⟩ | refine ⟨?_, ?_⟩)⟩
  refine ax_q (q_mov rfl) ?_
  refine ax_nil ?_
  refine cx_keep rfl rfl ?_
  refine cx_ret (ret0 rfl rfl ?_)
  exact ⟨by rw [eqb_t rfl, hok]; simp [mkRes, AM.bool], rfl⟩

theorem own : ownKnob Tryz.prog.godebug = none := by kernel_rfl
theorem laid : laidOutB Tryz.prog = true := by kernel_rfl
theorem closedTs : closedT Tryz.prog [5, 22] = true := by kernel_rfl
theorem con (rows : List (List D)) (h : HasAll Tryz.prog Tryz.f3.params.toList rows) : Con Tryz.prog noMv 3 (argsAV Tryz.prog Tryz.f3.params.toList rows) [] (fun r h => r = AM.bool true ∧ h = []) := by
  rw [Tryz.params3] at h ⊢
  obtain ⟨d0, r0, rfl, h0, h⟩ := h
  obtain rfl := h
  obtain ⟨a0, rfl, w0⟩ := (dec_slice (sz := 1) Tryz.underlying22 (by kernel_rfl) (dec_byte Tryz.underlying5)) h0
  have e : argsAV Tryz.prog [22] [[.sl 1 (a0.map byteRow)]] = [.d (.sl 1 (a0.map byteRow))] := by
    first | (simp only [argsAV, argAV, Tryz.underlying22]; done) | (simp only [argsAV, argAV, Tryz.underlying22]; rfl)
  show Con Tryz.prog noMv 3 (argsAV Tryz.prog [22] [[.sl 1 (a0.map byteRow)]]) [] _
  rw [e]
  exact c_FnExprText w0
/-- The settled world, what is listed holding what its initialiser lays: the witness. -/
noncomputable def laidWorld (os : Os) : World := World.laidAll Tryz.prog os Rows.fnExprTextRow.laid
set_option maxRecDepth 100000 in
theorem laid_met (os : Os) (args : Array Value) : laidMetH Tryz.prog Rows.fnExprTextRow.laid ((laidWorld os).forCall (fun _ _ => 0) ⟨#[], args, []⟩).memory :=
  show laidMet Tryz.prog Rows.fnExprTextRow.laid _ from laidMet_laidAll _ (by kernel_rfl) (by kernel_rfl)
set_option maxRecDepth 100000 in
theorem gok {W : World} (h : laidMetH Tryz.prog Rows.fnExprTextRow.laid W) : GOK Tryz.prog (fun _ => False) noN W :=
  have h' : laidMet Tryz.prog Rows.fnExprTextRow.laid W := h
  gok_three (tab_pow (l := Rows.fnExprTextRow.laid) (g := 3) (t := 140) (e := 130) (by first | exact List.mem_of_getElem? (i := 2) rfl | simp [Rows.fnExprTextRow]) (by kernel_rfl) (by kernel_rfl) Tryz.underlying140 Tryz.underlying130 (by kernel_rfl) (by kernel_rfl) h') (tab_strs (l := Rows.fnExprTextRow.laid) (g := 0) (t := 106) (e := 9) (zs := [[105, 100], [110], [110, 97, 109, 101]]) (by first | exact List.mem_of_getElem? (i := 5) rfl | simp [Rows.fnExprTextRow]) (by kernel_rfl) (by kernel_rfl) Tryz.underlying106 Tryz.underlying9 (by kernel_rfl) (by kernel_rfl) h') (tab_strs (l := Rows.fnExprTextRow.laid) (g := 1) (t := 109) (e := 9) (zs := [[43], [45], [42], [47], [61], [60], [97, 110, 100], [111, 114]]) (by first | exact List.mem_of_getElem? (i := 6) rfl | simp [Rows.fnExprTextRow]) (by kernel_rfl) (by kernel_rfl) Tryz.underlying109 Tryz.underlying9 (by kernel_rfl) (by kernel_rfl) h') (tab_iface (l := Rows.fnExprTextRow.laid) (g := 4) (t := 123) (List.mem_of_getElem? (i := 4) rfl) (by kernel_rfl) (by kernel_rfl) Tryz.underlying123 h')
set_option maxRecDepth 100000 in
theorem lifted (os : Os) (started : os.Started) (H : Type) (enc : TypeId × Value → H) :
    ReturnsInHanded {} Tryz.checked os 3 .any (fun w args => (Rows.fnExprTextSpec.pre enc Tryz.prog Tryz.f3 Rows.fnExprTextRow.domain false w args ∧ laidMetH Tryz.prog Rows.fnExprTextRow.laid w) ∧ sizedMet enc Tryz.prog Tryz.f3 (OpenSpec.ofChange Rows.fnExprTextSpec) false w args) (Rows.fnExprTextSpec.post enc Tryz.prog Tryz.f3 false true false false) := by
  refine returnsInHanded_of_change_and (C := Tryz.checked) (X := fun w _ => laidMetH Tryz.prog Rows.fnExprTextRow.laid w) (fun _ _ _ hh h => h.of_heap hh) own started (by kernel_rfl) Tryz.func3
    (ChangeSpec.witness_at (enc := enc) (C := Tryz.checked) (os := os) (X := fun w _ => laidMetH Tryz.prog Rows.fnExprTextRow.laid w) false (laidWorld os) #[.slice none 0 0] 8 (World.laidAll_os _ _ _) (by kernel_rfl) (by kernel_rfl) (by kernel_rfl) (by kernel_rfl) (by kernel_rfl) (laid_met os _)) ?_
  intro W base args ds gs before hval hW hcnd _ hL _
  refine law_contractV closedTs laid (by kernel_rfl) (by kernel_rfl) rfl Tryz.underlying4 con (fun hl hg => ?_) hval hW (gok hL)
  match ds, gs, hl, hg with
  | [x0], [y0, y1], _, _ => rfl
theorem over : Rows.fnExprTextRow.holds Tryz.pinned (OpenSpec.ofChange Rows.fnExprTextSpec) :=
  OpenClaim.holds_of_wide 3 Tryz.f3 rfl rfl rfl rfl rfl rfl rfl ⟨rfl, rfl, rfl, rfl, rfl⟩ rfl rfl rfl rfl rfl (by kernel_rfl) Tryz.func3 (by kernel_rfl)
    (of_decide_eq_true (by kernel_rfl)) (by unfold Func.isWrapper; first | (rw [if_pos (by decide +kernel)]; kernel_rfl) | (rw [if_neg (by decide +kernel)]; exact ⟨rfl, rfl⟩))
    (fun os started H enc _ => lifted os started H enc)
theorem proved : Rows.FnExprTextCardSaid :=
  Claim7.holds_tied_plain_at .later [] [.data, .data, .data, .sentinel, .sentinel, .widerDeep, .data] true (true, "33a9c400c407d053510ffcfdd792fc464fdc9e8eadb439c768c451c8cc76d6ba") true
    over (fun _ h => by cases h) (by kernel_rfl) (fun _ h => by cases h) fnExprText_row_tie rfl ⟨rfl, rfl⟩ (by kernel_rfl) rfl
    (fun f fn hf hfn => by
      obtain rfl : f = 3 := (Option.some.inj ((show Tryz.prog.funcNamed "loop.example/g00332/laws.FnExprText" = some 3 by kernel_rfl).symm.trans hf)).symm
      obtain rfl : fn = Tryz.f3 := (Option.some.inj (Tryz.func3.symm.trans hfn)).symm
      refine ⟨by kernel_rfl, fun j t ht => ?_⟩
      rw [Tryz.params3] at ht
      rcases j with _ | j
      · obtain rfl : t = 22 := by simpa using ht.symm
        exact (show Tryz.prog.wantsStandIn 22 = false by kernel_rfl)
      · simp at ht)
    (by kernel_rfl)
end fnExprText
end Go.Proofs.YthdafcdhnjapnaaGreatDoor
#print axioms Go.Proofs.YthdafcdhnjapnaaGreatDoor.fnExprText.proved
