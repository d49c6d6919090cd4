/- The law FnFlush of the given program returns true for all arguments, and its arguments read behind the call as they read before: the statement FnFlushSaid, with no condition. -/
import Derived.Test.YtcloaaakhojjgaaGreatW2
import Derived.Test.YtcloaaakhojjgaaGreatRows
namespace Go.Proofs.YtcloaaakhojjgaaGreat
open Go Go.AM Go.ChangeShapes Go.RowKit
set_option linter.unusedVariables false
set_option linter.unusedSimpArgs false
namespace fnFlush
set_option maxRecDepth 10000
/- loop.example/g00332/laws.FnFlush -/
def k_c_FnFlush : XCode :=
 .seq (.ops [.op (some 4) (.mov (.k (.bool false)))])
 (.keep [0, 1] (.seq (.seq (.ops [.op (some 17) (.mov (.t 0)),
   .op (some 18) (.lenS (.t 17)),
   .op (some 19) (.bin .gtr (.t 18) (.k (.int .i64 1048576))),
   .op (some 20) (.mov (.t 19)),
   .andor 24 false 3 20 [.op (some 21) (.mov (.t 1)), .op (some 22) (.lenS (.t 21)), .op (some 23) (.bin .gtr (.t 22) (.k (.int .i64 1048576)))] (.t 23)])
  (.keep [0, 1, 24] (.cond (.t 24)
  (.seq (.ops [.op (some 4) (.mov (.k (.bool true)))])
   (.keep [4] (.ret)))
  (.skip))))
 (.keep [0, 1] (.seq (.ops [.op (some 25) (.mov (.t 0)),
   .call (some 26) 5 [.t 25],
   .op (some 5) (.alloc [.nils 1, .nils 2, .bool false, .nils 1, .int .i64 0, .nils 10, .int .i64 0, .nils 5, .int .i64 0]),
   .op none (.store 9 (.t 5) (.t 26))])
 (.keep [1, 5] (.seq (.ops [.op (some 27) (.mov (.t 1)),
   .op (some 28) (.fadr (.t 5) 5),
   .op (some 29) (.load1 (.t 28)),
   .op (some 30) (.lenS (.t 29)),
   .op (some 31) (.bin .add (.t 30) (.k (.int .i64 1))),
   .call (some 32) 6 [.t 27, .k (.int .i64 0), .t 31],
   .op (some 6) (.mov (.t 32))])
 (.keep [1, 5, 6] (.seq (.ops [.op (some 34) (.loadN 9 (.t 5)),
   .op (some 35) (.mov (.t 6)),
   .call (some 36) 7 [.t 34, .t 35],
   .op (some 33) (.mov (.t 36)),
   .op (some 37) (.ext (.t 33) 0),
   .op (some 38) (.ext (.t 33) 1),
   .op (some 39) (.ext (.t 33) 2),
   .op (some 7) (.alloc [.nils 1, .nils 2, .bool false, .nils 1, .int .i64 0, .nils 10, .int .i64 0, .nils 5, .int .i64 0]),
   .op none (.store 9 (.t 7) (.t 37)),
   .op (some 8) (.mov (.t 38)),
   .op (some 9) (.mov (.t 39))])
 (.keep [1, 5, 6, 7, 8, 9] (.seq (.ops [.op (some 41) (.loadN 9 (.t 5)),
   .op (some 42) (.mov (.t 6)),
   .call (some 43) 8 [.t 41, .t 42],
   .op (some 40) (.mov (.t 43)),
   .op (some 44) (.ext (.t 40) 0),
   .op (some 45) (.ext (.t 40) 1),
   .op (some 46) (.ext (.t 40) 2),
   .op (some 10) (.alloc [.nils 1, .nils 2, .bool false, .nils 1, .int .i64 0, .nils 10, .int .i64 0, .nils 5, .int .i64 0]),
   .op none (.store 9 (.t 10) (.t 44)),
   .op (some 11) (.mov (.t 45)),
   .op (some 12) (.mov (.t 46))])
 (.keep [1, 5, 6, 7, 8, 9, 10] (.seq (.seq (.ops [.op (some 47) (.mov (.t 9)),
   .op (some 48) (.bin .neq (.t 47) (.k (.int .i64 0))),
   .op (some 49) (.mov (.t 48)),
   .andor 52 false 2 49 [.op (some 50) (.mov (.t 8)), .op (some 51) (.not (.t 50))] (.t 51),
   .op (some 53) (.mov (.t 52)),
   .andor 58 false 6 53 [.op (some 54) (.loadN 9 (.t 7)), .op (some 55) (.loadN 9 (.t 10)), .call (some 56) 9 [.t 54, .t 55], .op (some 57) (.not (.t 56))] (.t 57),
   .op (some 59) (.mov (.t 58)),
   .andor 64 false 12 59 [.op (some 60) (.fadr (.t 7) 6), .op (some 61) (.load1 (.t 60)), .op (some 62) (.mov (.t 6)), .op (some 63) (.bin .lss (.t 61) (.t 62))] (.t 63),
   .op (some 65) (.mov (.t 64)),
   .andor 71 false 18 65 [.op (some 66) (.fadr (.t 7) 6), .op (some 67) (.load1 (.t 66)), .op (some 68) (.fadr (.t 5) 6), .op (some 69) (.load1 (.t 68)), .op (some 70) (.bin .lss (.t 67) (.t 69))] (.t 70),
   .op (some 72) (.mov (.t 71)),
   .andor 76 false 25 72 [.op (some 73) (.loadN 9 (.t 7)), .call (some 74) 10 [.t 73], .op (some 75) (.not (.t 74))] (.t 75)])
  (.keep [1, 5, 7, 76] (.cond (.t 76)
  (.seq (.ops [.op (some 4) (.mov (.k (.bool false)))])
   (.keep [4] (.ret)))
  (.skip))))
 (.keep [1, 5, 7] (.seq (.drawE [[], [0], [], [2], [0, 1, 2, 3], [0, 1, 2, 3, 4], [0, 1, 2, 3, 4, 5], [0, 1, 2, 3, 4, 5], [], [0, 1, 2, 3, 4, 5, 6, 8], [0, 1, 2, 3, 4, 5, 6, 7, 8, 9]] [.op (some 78) (.fadr (.t 7) 0),
   .op (some 79) (.loadN 4 (.t 78)),
   .op (some 80) (.mov (.t 1)),
   .call (some 81) 12 [.t 80],
   .call (some 82) 11 [.t 79, .t 81],
   .op (some 77) (.mov (.t 82)),
   .op (some 83) (.ext (.t 77) 0),
   .op (some 84) (.ext (.t 77) 1),
   .op (some 13) (.alloc [.nils 1, .nils 2, .bool false, .nils 1]),
   .op none (.store 4 (.t 13) (.t 83))]
  [.op (some 14) (.mov (.t 84))])
 (.keep [5, 7, 13, 14] (.seq (.ops [.op (some 86) (.loadN 4 (.t 13)),
   .op (some 87) (.fadr (.t 7) 4),
   .op (some 88) (.load1 (.t 87)),
   .call (some 89) 13 [.t 86, .t 88],
   .op (some 85) (.mov (.t 89)),
   .op (some 90) (.ext (.t 85) 0),
   .op (some 91) (.ext (.t 85) 1),
   .op (some 15) (.mov (.t 90)),
   .op (some 16) (.mov (.t 91))])
 (.keep [5, 7, 14, 15, 16] (.seq (.draw [.op (some 92) (.mov (.t 14)),
   .op (some 93) (.bin .eql (.t 92) (.k (.int .i64 0))),
   .op (some 94) (.mov (.t 93)),
   .andor 97 true 2 94 [.op (some 95) (.mov (.t 16)), .op (some 96) (.bin .eql (.t 95) (.k (.int .i64 0)))] (.t 96),
   .op (some 98) (.mov (.t 97)),
   .andor 104 true 6 98 [.op (some 99) (.mov (.t 15)), .op (some 100) (.lenS (.t 99)), .op (some 101) (.fadr (.t 7) 6), .op (some 102) (.load1 (.t 101)), .op (some 103) (.bin .geq (.t 100) (.t 102))] (.t 103),
   .op (some 105) (.mov (.t 104)),
   .andor 112 true 13 105 [.op (some 106) (.mov (.t 15)), .op (some 107) (.lenS (.t 106)), .op (some 108) (.fadr (.t 5) 5), .op (some 109) (.load1 (.t 108)), .op (some 110) (.lenS (.t 109)), .op (some 111) (.bin .leq (.t 107) (.t 110))] (.t 111),
   .op (some 113) (.mov (.t 112)),
   .andor 124 true 21 113 [.op (some 114) (.mov (.t 15)), .op (some 115) (.fadr (.t 7) 6), .op (some 116) (.load1 (.t 115)), .op (some 117) (.slc 10 (.t 114) none (some (.t 116)) none), .op (some 118) (.fadr (.t 5) 5), .op (some 119) (.load1 (.t 118)), .op (some 120) (.fadr (.t 7) 6), .op (some 121) (.load1 (.t 120)), .op (some 122) (.slc 10 (.t 119) none (some (.t 121)) none), .call (some 123) 14 [.t 117, .t 122]] (.t 123),
   .op (some 4) (.mov (.t 124))])
 (.keep [4] (.ret))))))))))))))))))))
theorem k_c_FnFlush_fits : fitsF Tryz.prog 3 ⟨125, k_c_FnFlush, [.t 4]⟩ = true := by kernel_rfl
set_option maxHeartbeats 4000000 in
theorem c_FnFlush {code more : Str} (w0 : wfL (fun _ => True) code) (w1 : wfL (fun _ => True) more) : Con Tryz.prog noMv 3 [.d (.sl 1 (code.map byteRow)), .d (.sl 1 (more.map byteRow))] [] (fun r h => r = bool true ∧ h = []) := by
 refine con_of2 k_c_FnFlush_fits rfl fun C hP hmv => ?_
 unfold k_c_FnFlush
 refine cx_seq ?_
 refine cx_ops ?_
 refine ax_q (q_mov rfl) ?_
 refine ax_nil ?_
 refine cx_keep rfl rfl ?_
 refine cx_seq ?_
 refine cx_seq ?_
 refine cx_ops ?_
 refine ax_q (q_mov rfl) ?_
 first | refine ax_q (q_lenS_map rfl) ?_ | refine ax_q (q_lenS_osl rfl) ?_ | refine ax_q (q_lenS_zs rfl) ?_ | refine ax_q (q_lenS rfl) ?_
 refine ax_q (q_ibin rfl rfl rfl) ?_
 refine ax_q (q_mov rfl) ?_
 apply ax_or rfl rfl
 ·
  intro g
  have g := dF g
  refine ax_q (q_mov rfl) ?_
  first | refine ax_q (q_lenS_map rfl) ?_ | refine ax_q (q_lenS_osl rfl) ?_ | refine ax_q (q_lenS_zs rfl) ?_ | refine ax_q (q_lenS rfl) ?_
  refine ax_q (q_ibin rfl rfl rfl) ?_
  exact ax_nil ⟨rfl, by repeat (first | exact trivial | refine ⟨rfl, ?_⟩ | refine ⟨?_, ?_⟩)⟩
 refine ax_nil ?_
 refine cx_keep rfl rfl ?_
 refine cx_cond rfl (fun h0 => ?_) (fun h0 => ?_)
 ·
  have h0 := (fun h => (or_T h).imp dT dT) h0
  refine cx_seq ?_
  refine cx_ops ?_
  refine ax_q (q_mov rfl) ?_
  refine ax_nil ?_
  refine cx_keep rfl rfl ?_
  refine cx_ret (ret0 rfl rfl ?_)
  exact ⟨rfl, rfl⟩
 ·
  have h0 := (fun h => And.intro (dF (or_F h).1) (dF (or_F h).2)) h0
  have hlc : code.length ≤ 1048576 := by omega
  have hlm : more.length ≤ 1048576 := by omega
  refine cx_skip ?_
  refine cx_keep rfl rfl ?_
  refine cx_seq ?_
  refine cx_ops ?_
  refine ax_q (q_mov rfl) ?_
  refine ax_call rfl (vc_pure (c_StoreOf hlc) hP rfl ?_)
  rintro r h ⟨s, hd, rfl, rfl⟩
  refine ⟨id, [], ⟨rfl, rfl, rfl, rfl, rfl, fun h => absurd h Bool.false_ne_true⟩, ?_⟩
  have hll := hd.lm
  have hsu := hd.su
  refine ax_e (e_alloc (by decide) rfl rfl) ?_
  refine ax_e (e_st rfl rfl rfl rfl rfl rfl rfl) ?_
  refine ax_nil ?_
  refine cx_keep rfl rfl ?_
  refine cx_seq ?_
  refine cx_ops ?_
  refine ax_q (q_mov rfl) ?_
  refine ax_q (q_fadr_ptr rfl) ?_
  refine ax_q (q_load1_ptr rfl rfl rfl) ?_
  first | refine ax_q (q_lenS_map rfl) ?_ | refine ax_q (q_lenS_osl rfl) ?_ | refine ax_q (q_lenS_zs rfl) ?_ | refine ax_q (q_lenS rfl) ?_
  refine ax_qe (r' := int ((s.Log.length : Int) + 1)) (q_ibin rfl rfl rfl) (wi (by omega) (by omega)) ?_
  first | refine ax_call rfl (vc_pure0 (c_at (more := more) (i := 0) (n := (s.Log.length : Int) + 1) ?_ ?_ ?_) hP rfl rfl ?_) | refine ax_call rfl (vc_lend0 (c_at (more := more) (i := 0) (n := (s.Log.length : Int) + 1) ?_ ?_ ?_) hP (by repeat (first | exact lal_id _ rfl | exact LAL.nil | refine LAL.cons ?_ ?_ | exact la_id _ rfl | exact LA.lend (lend_whole rfl (by first | (simp; done) | (rw [List.length_map]; rfl))) | refine LA.agg ?_ | refine LA.fn ?_ | refine LA.lend ?_ | exact Lend.d _ | exact Lend.zs _ | exact lend_whole rfl (by first | (simp; done) | (rw [List.length_map]; rfl)) | refine Lend.ptr rfl ?_ | refine Lend.fn ?_ | exact LendL.nil | refine LendL.cons ?_ ?_)) rfl rfl ?_)
  ·
   first | assumption | omega | (simp; done) | (simp; omega)
  ·
   first | assumption | omega | (simp; done) | (simp; omega)
  ·
   first | assumption | omega | (simp; done) | (simp; omega)
  obtain ⟨hb0, hb1⟩ := @atF_bounds more 0 ((s.Log.length : Int) + 1) (by omega)
  generalize atF more 0 ((s.Log.length : Int) + 1) = n at hb0 hb1 ⊢
  have hF := flF_di hd (by omega) (n := n) (by omega)
  obtain ⟨g0, g1, g2, g3, g4, g5⟩ := @flF_same s n
  obtain ⟨v0, v1, v2, v3, va, v4, v5, v6⟩ := di_stb hF (by omega)
  have hsb := di_stb hF (by omega)
  have hok := di_ok hF (by omega)
  have hFd := hF.dk.dok
  have hKl := keepsOf_len hlm
  have hrd := read_di hF (by omega) (keep := (keepsF (srcOf more)).1)
  rw [g1] at hrd
  have hFs := hF.su
  rw [g1] at hFs
  have hcr := crashD_ok (keep := (keepsF (srcOf more)).1) hFd
  have htl : (s.Log.take (flF s n).Sure.toNat).length = (flF s n).Sure.toNat := by rw [List.length_take]; omega
  refine ax_q (q_mov rfl) ?_
  refine ax_nil ?_
  refine cx_keep rfl rfl ?_
  refine cx_seq ?_
  refine cx_ops ?_
  refine ax_q (q_ldN rfl rfl rfl) ?_
  refine ax_q (q_mov rfl) ?_
  first | refine ax_call rfl (vc_pure0 (c_FlushLog (s := s) (m := 26) (n := n) ?_ ?_ ?_) hP rfl rfl ?_) | refine ax_call rfl (vc_lend0 (c_FlushLog (s := s) (m := 26) (n := n) ?_ ?_ ?_) hP (by repeat (first | exact lal_id _ rfl | exact LAL.nil | refine LAL.cons ?_ ?_ | exact la_id _ rfl | exact LA.lend (lend_whole rfl (by first | (simp; done) | (rw [List.length_map]; rfl))) | refine LA.agg ?_ | refine LA.fn ?_ | refine LA.lend ?_ | exact Lend.d _ | exact Lend.zs _ | exact lend_whole rfl (by first | (simp; done) | (rw [List.length_map]; rfl)) | refine Lend.ptr rfl ?_ | refine Lend.fn ?_ | exact LendL.nil | refine LendL.cons ?_ ?_)) rfl rfl ?_)
  ·
   first | assumption | omega | (simp; done) | (simp; omega)
  ·
   first | assumption | omega | (simp; done) | (simp; omega)
  ·
   first | assumption | omega | (simp; done) | (simp; omega)
  refine ax_q (q_mov rfl) ?_
  refine ax_q (q_ext rfl rfl) ?_
  refine ax_q (q_ext rfl rfl) ?_
  refine ax_q (q_ext rfl rfl) ?_
  refine ax_e (e_alloc (by decide) rfl rfl) ?_
  refine ax_e (e_st rfl rfl rfl rfl rfl rfl rfl) ?_
  refine ax_q (q_mov rfl) ?_
  refine ax_q (q_mov rfl) ?_
  refine ax_nil ?_
  refine cx_keep rfl rfl ?_
  refine cx_seq ?_
  refine cx_ops ?_
  refine ax_q (q_ldN rfl rfl rfl) ?_
  refine ax_q (q_mov rfl) ?_
  first | refine ax_call rfl (vc_pure0 (c_sFlushLog (s := s) (m := 26) (n := n) ?_ ?_ ?_) hP rfl rfl ?_) | refine ax_call rfl (vc_lend0 (c_sFlushLog (s := s) (m := 26) (n := n) ?_ ?_ ?_) hP (by repeat (first | exact lal_id _ rfl | exact LAL.nil | refine LAL.cons ?_ ?_ | exact la_id _ rfl | exact LA.lend (lend_whole rfl (by first | (simp; done) | (rw [List.length_map]; rfl))) | refine LA.agg ?_ | refine LA.fn ?_ | refine LA.lend ?_ | exact Lend.d _ | exact Lend.zs _ | exact lend_whole rfl (by first | (simp; done) | (rw [List.length_map]; rfl)) | refine Lend.ptr rfl ?_ | refine Lend.fn ?_ | exact LendL.nil | refine LendL.cons ?_ ?_)) rfl rfl ?_)
  ·
   first | assumption | omega | (simp; done) | (simp; omega)
  ·
   first | assumption | omega | (simp; done) | (simp; omega)
  ·
   first | assumption | omega | (simp; done) | (simp; omega)
  refine ax_q (q_mov rfl) ?_
  refine ax_q (q_ext rfl rfl) ?_
  refine ax_q (q_ext rfl rfl) ?_
  refine ax_q (q_ext rfl rfl) ?_
  refine ax_e (e_alloc (by decide) rfl rfl) ?_
  refine ax_e (e_st rfl rfl rfl rfl rfl rfl rfl) ?_
  refine ax_q (q_mov rfl) ?_
  refine ax_q (q_mov rfl) ?_
  refine ax_nil ?_
  refine cx_keep rfl rfl ?_
  refine cx_seq ?_
  refine cx_seq ?_
  refine cx_ops ?_
  refine ax_q (q_mov rfl) ?_
  refine ax_q (q_ibin rfl rfl rfl) ?_
  refine ax_q (q_mov rfl) ?_
  apply ax_or rfl rfl
  ·
   intro g
   have g := nF g
   refine ax_q (q_mov rfl) ?_
   refine ax_q (q_not rfl) ?_
   exact ax_nil ⟨rfl, by repeat (first | exact trivial | refine ⟨rfl, ?_⟩ | refine ⟨?_, ?_⟩)⟩
  refine ax_q (q_mov rfl) ?_
  apply ax_or rfl rfl
  ·
   intro g
   have g := (fun h => And.intro (nF (or_F h).1) (bF (or_F h).2)) g
   refine ax_q (q_ldN rfl rfl rfl) ?_
   refine ax_q (q_ldN rfl rfl rfl) ?_
   first | refine ax_call rfl (vc_pure0 (c_sameStore (x := flF s n) (m := 26) ?_ ?_) hP rfl rfl ?_) | refine ax_call rfl (vc_lend0 (c_sameStore (x := flF s n) (m := 26) ?_ ?_) hP (by repeat (first | exact lal_id _ rfl | exact LAL.nil | refine LAL.cons ?_ ?_ | exact la_id _ rfl | exact LA.lend (lend_whole rfl (by first | (simp; done) | (rw [List.length_map]; rfl))) | refine LA.agg ?_ | refine LA.fn ?_ | refine LA.lend ?_ | exact Lend.d _ | exact Lend.zs _ | exact lend_whole rfl (by first | (simp; done) | (rw [List.length_map]; rfl)) | refine Lend.ptr rfl ?_ | refine Lend.fn ?_ | exact LendL.nil | refine LendL.cons ?_ ?_)) rfl rfl ?_)
   ·
    first | assumption | omega | (simp; done) | (simp; omega)
   ·
    first | assumption | omega | (simp; done) | (simp; omega)
   refine ax_q (q_not rfl) ?_
   exact ax_nil ⟨rfl, by repeat (first | exact trivial | refine ⟨rfl, ?_⟩ | refine ⟨?_, ?_⟩)⟩
  refine ax_q (q_mov rfl) ?_
  apply ax_or rfl rfl
  ·
   intro g
   have g := (fun h => And.intro ((fun h => And.intro (nF (or_F h).1) (bF (or_F h).2)) (or_F h).1) (bF (or_F h).2)) g
   refine ax_q (q_fadr_ptr rfl) ?_
   refine ax_q (q_load1_ptr rfl rfl rfl) ?_
   refine ax_q (q_mov rfl) ?_
   refine ax_q (q_ibin rfl rfl rfl) ?_
   exact ax_nil ⟨rfl, by repeat (first | exact trivial | refine ⟨rfl, ?_⟩ | refine ⟨?_, ?_⟩)⟩
  refine ax_q (q_mov rfl) ?_
  apply ax_or rfl rfl
  ·
   intro g
   have g := (fun h => And.intro ((fun h => And.intro ((fun h => And.intro (nF (or_F h).1) (bF (or_F h).2)) (or_F h).1) (bF (or_F h).2)) (or_F h).1) (dF (or_F h).2)) g
   refine ax_q (q_fadr_ptr rfl) ?_
   refine ax_q (q_load1_ptr rfl rfl rfl) ?_
   refine ax_q (q_fadr_ptr rfl) ?_
   refine ax_q (q_load1_ptr rfl rfl rfl) ?_
   refine ax_q (q_ibin rfl rfl rfl) ?_
   exact ax_nil ⟨rfl, by repeat (first | exact trivial | refine ⟨rfl, ?_⟩ | refine ⟨?_, ?_⟩)⟩
  refine ax_q (q_mov rfl) ?_
  apply ax_or rfl rfl
  ·
   intro g
   have g := (fun h => And.intro ((fun h => And.intro ((fun h => And.intro ((fun h => And.intro (nF (or_F h).1) (bF (or_F h).2)) (or_F h).1) (bF (or_F h).2)) (or_F h).1) (dF (or_F h).2)) (or_F h).1) (dF (or_F h).2)) g
   refine ax_q (q_ldN rfl rfl rfl) ?_
   first | refine ax_call rfl (vc_pure0 (c_StoreOK (s := flF s n) ?_) hP rfl rfl ?_) | refine ax_call rfl (vc_lend0 (c_StoreOK (s := flF s n) ?_) hP (by repeat (first | exact lal_id _ rfl | exact LAL.nil | refine LAL.cons ?_ ?_ | exact la_id _ rfl | exact LA.lend (lend_whole rfl (by first | (simp; done) | (rw [List.length_map]; rfl))) | refine LA.agg ?_ | refine LA.fn ?_ | refine LA.lend ?_ | exact Lend.d _ | exact Lend.zs _ | exact lend_whole rfl (by first | (simp; done) | (rw [List.length_map]; rfl)) | refine Lend.ptr rfl ?_ | refine Lend.fn ?_ | exact LendL.nil | refine LendL.cons ?_ ?_)) rfl rfl ?_)
   ·
    first | assumption | omega | (simp; done) | (simp; omega)
   refine ax_q (q_not rfl) ?_
   exact ax_nil ⟨rfl, by repeat (first | exact trivial | refine ⟨rfl, ?_⟩ | refine ⟨?_, ?_⟩)⟩
  refine ax_nil ?_
  refine cx_keep rfl rfl ?_
  refine cx_cond rfl (fun h1 => ?_) (fun h1 => ?_)
  ·
   skip
   exfalso
   rw [hok, decide_eq_false (show ¬ (flF s n).Sure < n by omega), decide_eq_false (show ¬ (flF s n).Sure < s.Sure by omega)] at h1; cases h1
  ·
   skip
   refine cx_skip ?_
   refine cx_keep rfl rfl ?_
   refine cx_seq ?_
   refine cx_drawL 9 5000 (fun _ => false) (fun _ => true) [] ([(13, .box [.d (.sl 1 ((crashD (flF s n).Disk (keepsF (srcOf more)).1).Sectors.map strRow)), .d (.sl 2 ((crashD (flF s n).Disk (keepsF (srcOf more)).1).Cache.map GPending.row)), .d (.bool (crashD (flF s n).Disk (keepsF (srcOf more)).1).Armed), .d (.sl 1 ((crashD (flF s n).Disk (keepsF (srcOf more)).1).Keep.map intRow))])]) [[7], [78], [1], [80], [79, 81], [82], [77], [77], [], [13, 83]] [[], [], [], [], [], [], [], [13], [], [13]] rfl ?_
   first | refine ⟨_, .inr ⟨rfl, _, rfl, .inl rfl, loc_q (q_fadr_ptr rfl)⟩, ?_⟩
   first | refine ⟨_, .inr ⟨rfl, _, rfl, .inl rfl, loc_q (q_ldN rfl rfl rfl)⟩, ?_⟩
   first | refine ⟨_, .inr ⟨rfl, _, rfl, .inl rfl, loc_q (q_mov rfl)⟩, ?_⟩
   first | refine ⟨_, .inr ⟨rfl, _, rfl, .inl rfl, loc_call (fun i => 81 + 200 * i) false rfl (c_KeepsOfF (code := more) (by first | assumption | omega | (simp; done) | (simp; omega))) hP (.inr ⟨rfl, rfl, rfl⟩) rfl rfl (fun h => by cases h)⟩, ?_⟩ | refine ⟨_, .inr ⟨rfl, _, rfl, .inl rfl, loc_call (fun i => 81 + 200 * i) true rfl (c_KeepsOfF (code := more) (by first | assumption | omega | (simp; done) | (simp; omega))) hP (.inl ⟨rfl, (by repeat (first | exact lal_id _ rfl | exact LAL.nil | refine LAL.cons ?_ ?_ | exact la_id _ rfl | exact LA.lend (lend_whole rfl (by first | (simp; done) | (rw [List.length_map]; rfl))) | refine LA.agg ?_ | refine LA.fn ?_ | refine LA.lend ?_ | exact Lend.d _ | exact Lend.zs _ | exact lend_whole rfl (by first | (simp; done) | (rw [List.length_map]; rfl)) | refine Lend.ptr rfl ?_ | refine Lend.fn ?_ | exact LendL.nil | refine LendL.cons ?_ ?_))⟩) rfl rfl (fun _ => ⟨rfl, noisl_of (by repeat (first | exact trivial | refine ⟨noisl_map (fun _ => rfl), ?_⟩ | refine ⟨?_, ?_⟩))⟩)⟩, ?_⟩
   first | refine ⟨_, .inr ⟨rfl, _, rfl, .inl rfl, loc_call (fun i => 82 + 200 * i) false rfl (c_DiskCrashD (d := (flF s n).Disk) (keep := (keepsF (srcOf more)).1) (by first | assumption | omega | (simp; done) | (simp; omega)) (by first | assumption | omega | (simp; done) | (simp; omega)) (by first | assumption | omega | (simp; done) | (simp; omega)) (by first | assumption | omega | (simp; done) | (simp; omega)) (by first | assumption | omega | (simp; done) | (simp; omega)) (by first | assumption | omega | (simp; done) | (simp; omega))) hP (.inr ⟨rfl, rfl, rfl⟩) rfl rfl (fun h => by cases h)⟩, ?_⟩ | refine ⟨_, .inr ⟨rfl, _, rfl, .inl rfl, loc_call (fun i => 82 + 200 * i) true rfl (c_DiskCrashD (d := (flF s n).Disk) (keep := (keepsF (srcOf more)).1) (by first | assumption | omega | (simp; done) | (simp; omega)) (by first | assumption | omega | (simp; done) | (simp; omega)) (by first | assumption | omega | (simp; done) | (simp; omega)) (by first | assumption | omega | (simp; done) | (simp; omega)) (by first | assumption | omega | (simp; done) | (simp; omega)) (by first | assumption | omega | (simp; done) | (simp; omega))) hP (.inl ⟨rfl, (by repeat (first | exact lal_id _ rfl | exact LAL.nil | refine LAL.cons ?_ ?_ | exact la_id _ rfl | exact LA.lend (lend_whole rfl (by first | (simp; done) | (rw [List.length_map]; rfl))) | refine LA.agg ?_ | refine LA.fn ?_ | refine LA.lend ?_ | exact Lend.d _ | exact Lend.zs _ | exact lend_whole rfl (by first | (simp; done) | (rw [List.length_map]; rfl)) | refine Lend.ptr rfl ?_ | refine Lend.fn ?_ | exact LendL.nil | refine LendL.cons ?_ ?_))⟩) rfl rfl (fun _ => ⟨rfl, noisl_of (by repeat (first | exact trivial | refine ⟨noisl_map (fun _ => rfl), ?_⟩ | refine ⟨?_, ?_⟩))⟩)⟩, ?_⟩
   first | refine ⟨_, .inr ⟨rfl, _, rfl, .inl rfl, loc_q (q_mov rfl)⟩, ?_⟩
   first | refine ⟨_, .inr ⟨rfl, _, rfl, .inl rfl, loc_q (q_ext rfl rfl)⟩, ?_⟩
   first | refine ⟨_, .inr ⟨rfl, _, rfl, .inr ⟨rfl, rfl, .inr rfl, rfl, rfl⟩, loc_q (q_ext rfl rfl)⟩, ?_⟩
   first | refine ⟨_, .inr ⟨rfl, _, rfl, .inl rfl, loc_alloc⟩, ?_⟩
   refine ⟨⟨5000, .dead, []⟩, .inl ⟨rfl, rfl, rfl, locl_st rfl rfl rfl rfl rfl rfl rfl⟩, ?_⟩
   refine ⟨rfl, ?_⟩
   refine ax_q (q_mov rfl) ?_
   refine ax_nil ?_
   refine cx_keep rfl rfl ?_
   refine cx_seq ?_
   refine cx_ops ?_
   refine ax_q (q_ldN rfl rfl rfl) ?_
   refine ax_q (q_fadr_ptr rfl) ?_
   refine ax_q (q_load1_ptr rfl rfl rfl) ?_
   have hcs := hcr.s1
   have hcc := hcr.c1
   have hck := hcr.k1
   first | refine ax_call rfl (vc_pure (c_ReadLog (d := (crashD (flF s n).Disk (keepsF (srcOf more)).1)) (top := (flF s n).Epoch) ?_ ?_ ?_) hP rfl ?_) | refine ax_call rfl (vc_lend (c_ReadLog (d := (crashD (flF s n).Disk (keepsF (srcOf more)).1)) (top := (flF s n).Epoch) ?_ ?_ ?_) hP (by repeat (first | exact lal_id _ rfl | exact LAL.nil | refine LAL.cons ?_ ?_ | exact la_id _ rfl | exact LA.lend (lend_whole rfl (by first | (simp; done) | (rw [List.length_map]; rfl))) | refine LA.agg ?_ | refine LA.fn ?_ | refine LA.lend ?_ | exact Lend.d _ | exact Lend.zs _ | exact lend_whole rfl (by first | (simp; done) | (rw [List.length_map]; rfl)) | refine Lend.ptr rfl ?_ | refine Lend.fn ?_ | exact LendL.nil | refine LendL.cons ?_ ?_)) ?_)
   ·
    first | assumption | omega | (simp; done) | (simp; omega)
   ·
    first | assumption | omega | (simp; done) | (simp; omega)
   ·
    first | assumption | omega | (simp; done) | (simp; omega)
   rintro r h ⟨rfl, rfl⟩
   refine ⟨fun i => 89 + 200 * i, [0], ⟨rfl, rfl, rfl, rfl, rfl, (by first | exact (fun h => absurd h Bool.false_ne_true) | exact (fun _ => ⟨rfl, (noisl_of (by repeat (first | exact trivial | refine ⟨noisl_map (fun _ => rfl), ?_⟩ | refine ⟨?_, ?_⟩)))⟩))⟩, ?_⟩
   skip
   rw [hrd]
   dsimp only
   refine ax_wk (wk_frz 89 89 rfl rfl (.tup (.cons (.whole (List.length_map _).symm) (.cons (.same rfl) .nil))) rfl) ?_
   refine ax_q (q_mov rfl) ?_
   refine ax_q (q_ext rfl rfl) ?_
   refine ax_q (q_ext rfl rfl) ?_
   refine ax_q (q_mov rfl) ?_
   refine ax_q (q_mov rfl) ?_
   refine ax_nil ?_
   refine cx_keep rfl rfl ?_
   refine cx_seq ?_
   refine cx_draw ?_
   refine ax_q (q_mov rfl) ?_
   refine ax_q (q_ibin rfl rfl rfl) ?_
   refine ax_q (q_mov rfl) ?_
   apply ax_and rfl rfl
   ·
    intro g
    have g := dT g
    refine ax_q (q_mov rfl) ?_
    refine ax_q (q_ibin rfl rfl rfl) ?_
    exact ax_nil ⟨rfl, by repeat (first | exact trivial | refine ⟨rfl, ?_⟩ | refine ⟨?_, ?_⟩)⟩
   refine ax_q (q_mov rfl) ?_
   apply ax_and rfl rfl
   ·
    intro g
    have g := (fun h => And.intro (dT (and_T h).1) (dT (and_T h).2)) g
    refine ax_q (q_mov rfl) ?_
    first | refine ax_q (q_lenS_map rfl) ?_ | refine ax_q (q_lenS_osl rfl) ?_ | refine ax_q (q_lenS_zs rfl) ?_ | refine ax_q (q_lenS rfl) ?_
    refine ax_q (q_fadr_ptr rfl) ?_
    refine ax_q (q_load1_ptr rfl rfl rfl) ?_
    refine ax_q (q_ibin rfl rfl rfl) ?_
    exact ax_nil ⟨rfl, by repeat (first | exact trivial | refine ⟨rfl, ?_⟩ | refine ⟨?_, ?_⟩)⟩
   refine ax_q (q_mov rfl) ?_
   apply ax_and rfl rfl
   ·
    intro g
    have g := (fun h => And.intro ((fun h => And.intro (dT (and_T h).1) (dT (and_T h).2)) (and_T h).1) (dT (and_T h).2)) g
    refine ax_q (q_mov rfl) ?_
    first | refine ax_q (q_lenS_map rfl) ?_ | refine ax_q (q_lenS_osl rfl) ?_ | refine ax_q (q_lenS_zs rfl) ?_ | refine ax_q (q_lenS rfl) ?_
    refine ax_q (q_fadr_ptr rfl) ?_
    refine ax_q (q_load1_ptr rfl rfl rfl) ?_
    first | refine ax_q (q_lenS_map rfl) ?_ | refine ax_q (q_lenS_osl rfl) ?_ | refine ax_q (q_lenS_zs rfl) ?_ | refine ax_q (q_lenS rfl) ?_
    refine ax_q (q_ibin rfl rfl rfl) ?_
    exact ax_nil ⟨rfl, by repeat (first | exact trivial | refine ⟨rfl, ?_⟩ | refine ⟨?_, ?_⟩)⟩
   refine ax_q (q_mov rfl) ?_
   apply ax_and rfl rfl
   ·
    intro g
    have g := (fun h => And.intro ((fun h => And.intro ((fun h => And.intro (dT (and_T h).1) (dT (and_T h).2)) (and_T h).1) (dT (and_T h).2)) (and_T h).1) (dT (and_T h).2)) g
    refine ax_q (q_mov rfl) ?_
    refine ax_q (q_fadr_ptr rfl) ?_
    refine ax_q (q_load1_ptr rfl rfl rfl) ?_
    refine ax_qe (r' := .d (.sl 10 ((s.Log.take (flF s n).Sure.toNat).map GLogRecord.row))) (q_slc rfl rfl rfl (by omega) (by omega) (by simp; omega)) (by rw [slcZ_take, List.take_take, Nat.min_self]) ?_
    refine ax_q (q_fadr_ptr rfl) ?_
    refine ax_q (q_load1_ptr rfl rfl rfl) ?_
    refine ax_q (q_fadr_ptr rfl) ?_
    refine ax_q (q_load1_ptr rfl rfl rfl) ?_
    refine ax_qe (r' := .d (.sl 10 ((s.Log.take (flF s n).Sure.toNat).map GLogRecord.row))) (q_slc rfl rfl rfl (by omega) (by omega) (by simp; omega)) (slcZ_take) ?_
    first | refine ax_callq rfl (c_sameLog (xs := (s.Log.take (flF s n).Sure.toNat)) ?_) hP (lal_id _ rfl) rfl ?_ | refine ax_callq rfl (c_sameLog (xs := (s.Log.take (flF s n).Sure.toNat)) ?_) hP (by repeat (first | exact lal_id _ rfl | exact LAL.nil | refine LAL.cons ?_ ?_ | exact la_id _ rfl | exact LA.lend (lend_whole rfl (by first | (simp; done) | (rw [List.length_map]; rfl))) | refine LA.agg ?_ | refine LA.fn ?_ | refine LA.lend ?_ | exact Lend.d _ | exact Lend.zs _ | exact lend_whole rfl (by first | (simp; done) | (rw [List.length_map]; rfl)) | refine Lend.ptr rfl ?_ | refine Lend.fn ?_ | exact LendL.nil | refine LendL.cons ?_ ?_)) rfl ?_
    ·
     first | assumption | omega | (simp; done) | (simp; omega)
    exact ax_nil ⟨rfl, by repeat (first | exact trivial | refine ⟨rfl, ?_⟩ | refine ⟨?_, ?_⟩)⟩
   refine ax_q (q_mov rfl) ?_
   refine ax_nil ?_
   refine cx_keep rfl rfl ?_
   refine cx_ret (ret0 rfl rfl ?_)
   exact ⟨by rw [htl, decide_eq_true (show (flF s n).Sure ≤ (((flF s n).Sure.toNat : Nat) : Int) by omega), decide_eq_true (show (((flF s n).Sure.toNat : Nat) : Int) ≤ (s.Log.length : Int) by omega)]; rfl, rfl⟩

theorem own : ownKnob Tryz.prog.godebug = none := by kernel_rfl
theorem laid : laidOutB Tryz.prog = true := by kernel_rfl
theorem closedTs : closedT Tryz.prog [5, 22] = true := by kernel_rfl
theorem con (rows : List (List D)) (h : HasAll Tryz.prog Tryz.f3.params.toList rows) : Con Tryz.prog noMv 3 (argsAV Tryz.prog Tryz.f3.params.toList rows) [] (fun r h => r = AM.bool true ∧ h = []) := by
  rw [Tryz.params3] at h ⊢
  obtain ⟨d0, r0, rfl, h0, h⟩ := h
  obtain ⟨d1, r1, rfl, h1, h⟩ := h
  obtain rfl := h
  obtain ⟨a0, rfl, w0⟩ := (dec_slice (sz := 1) Tryz.underlying22 (by kernel_rfl) (dec_byte Tryz.underlying5)) h0
  obtain ⟨a1, rfl, w1⟩ := (dec_slice (sz := 1) Tryz.underlying22 (by kernel_rfl) (dec_byte Tryz.underlying5)) h1
  have e : argsAV Tryz.prog [22, 22] [[.sl 1 (a0.map byteRow)], [.sl 1 (a1.map byteRow)]] = [.d (.sl 1 (a0.map byteRow)), .d (.sl 1 (a1.map byteRow))] := by
    first | (simp only [argsAV, argAV, Tryz.underlying22]; done) | (simp only [argsAV, argAV, Tryz.underlying22]; rfl)
  show Con Tryz.prog noMv 3 (argsAV Tryz.prog [22, 22] [[.sl 1 (a0.map byteRow)], [.sl 1 (a1.map byteRow)]]) [] _
  rw [e]
  exact c_FnFlush w0 w1
set_option maxRecDepth 100000 in
theorem lifted (os : Os) (started : os.Started) (H : Type) (enc : TypeId × Value → H) :
    ReturnsInHanded {} Tryz.checked os 3 .any (Rows.fnFlushSpec.pre6 enc Tryz.prog Tryz.f3 Rows.fnFlushRow.domain false) (Rows.fnFlushSpec.post enc Tryz.prog Tryz.f3 false true false false) := by
  refine returnsInHanded_of_change (C := Tryz.checked) own started (by kernel_rfl) Tryz.func3
    (ChangeSpec.witness6 (enc := enc) (C := Tryz.checked) false ⟨#[], #[.slice none 0 0, .slice none 0 0], []⟩ 8 (by kernel_rfl) (by kernel_rfl) (by kernel_rfl) (by kernel_rfl)) ?_
  intro W base args ds gs before hval hW hcnd _
  refine law_contract closedTs laid (by kernel_rfl) rfl rfl Tryz.underlying4 con (fun hl => ?_) hval hW (gok_none (by kernel_rfl))
  match ds, hl with
  | [x0, x1], _ => rfl
theorem over : Rows.fnFlushRow.holds Tryz.pinned (OpenSpec.ofChange Rows.fnFlushSpec) :=
  OpenClaim.holds_of_wide 3 Tryz.f3 rfl rfl rfl rfl rfl rfl rfl ⟨rfl, rfl, rfl, rfl, rfl⟩ rfl rfl rfl rfl rfl (by kernel_rfl) Tryz.func3 (by kernel_rfl)
    (of_decide_eq_true (by kernel_rfl)) (by unfold Func.isWrapper; first | (rw [if_pos (by decide +kernel)]; kernel_rfl) | (rw [if_neg (by decide +kernel)]; exact ⟨rfl, rfl⟩))
    (fun os started H enc _ => lifted os started H enc)
theorem proved : Rows.FnFlushSaid := over
end fnFlush
end Go.Proofs.YtcloaaakhojjgaaGreat
#print axioms Go.Proofs.YtcloaaakhojjgaaGreat.fnFlush.proved
