/- The law FnSort of the given program returns true for all arguments, and its arguments read behind the call as they read before: the statement FnSortSaid, with no condition. -/
import Derived.Test.YtkingadnnilgiaaW1
import Derived.Test.YtkingadnnilgiaaRows
namespace Go.Proofs.Ytkingadnnilgiaa
open Go Go.AM Go.ChangeShapes Go.RowKit
set_option linter.unusedVariables false
set_option linter.unusedSimpArgs false
namespace fnSort
set_option maxRecDepth 10000
/- loop.example/g00332/laws.FnSort -/
def k_c_FnSort : XCode :=
 .seq (.ops [.op (some 4) (.mov (.k (.bool false)))])
 (.keep [0, 1] (.seq (.seq (.ops [.op (some 18) (.mov (.t 0)),
   .op (some 19) (.lenS (.t 18)),
   .op (some 20) (.bin .gtr (.t 19) (.k (.int .i64 1048576))),
   .op (some 21) (.mov (.t 20)),
   .andor 25 false 3 21 [.op (some 22) (.mov (.t 1)), .op (some 23) (.lenS (.t 22)), .op (some 24) (.bin .gtr (.t 23) (.k (.int .i64 1048576)))] (.t 24)])
  (.keep [0, 1, 25] (.cond (.t 25)
  (.seq (.ops [.op (some 4) (.mov (.k (.bool true)))])
   (.keep [4] (.ret)))
  (.skip))))
 (.keep [0, 1] (.seq (.ops [.op (some 26) (.mov (.t 0)),
   .call (some 27) 19 [.t 26],
   .op (some 5) (.mov (.t 27))])
 (.keep [1, 5] (.seq (.ops [.op (some 28) (.mov (.t 1)),
   .call (some 29) 8 [.t 28, .k (.int .i64 0), .k (.int .i64 3)],
   .op (some 6) (.mov (.t 29))])
 (.keep [5, 6] (.seq (.ops [.op (some 31) (.mov (.t 5)),
   .op (some 32) (.mov (.t 6)),
   .call (some 33) 20 [.t 31, .t 32, .k (.bool false)],
   .op (some 30) (.mov (.t 33)),
   .op (some 34) (.ext (.t 30) 0),
   .op (some 35) (.ext (.t 30) 1),
   .op (some 7) (.mov (.t 34)),
   .op (some 8) (.mov (.t 35))])
 (.keep [5, 6, 7, 8] (.seq (.ops [.op (some 37) (.mov (.t 5)),
   .op (some 38) (.mov (.t 6)),
   .call (some 39) 20 [.t 37, .t 38, .k (.bool true)],
   .op (some 36) (.mov (.t 39)),
   .op (some 40) (.ext (.t 36) 0),
   .op (some 41) (.ext (.t 36) 1),
   .op (some 9) (.mov (.t 40)),
   .op (some 10) (.mov (.t 41))])
 (.keep [5, 6, 7, 8, 9, 10] (.seq (.ops [.op (some 43) (.mov (.t 5)),
   .op (some 44) (.mov (.t 6)),
   .call (some 45) 21 [.t 43, .t 44, .k (.bool false)],
   .op (some 42) (.mov (.t 45)),
   .op (some 46) (.ext (.t 42) 0),
   .op (some 47) (.ext (.t 42) 1),
   .op (some 11) (.mov (.t 46)),
   .op (some 12) (.mov (.t 47))])
 (.keep [5, 6, 7, 8, 9, 10, 11] (.seq (.seq (.ops [.op (some 48) (.mov (.t 8)),
   .op (some 49) (.bin .neq (.t 48) (.k (.int .i64 0))),
   .op (some 50) (.mov (.t 49)),
   .andor 53 false 2 50 [.op (some 51) (.mov (.t 10)), .op (some 52) (.bin .neq (.t 51) (.k (.int .i64 0)))] (.t 52),
   .op (some 54) (.mov (.t 53)),
   .andor 59 false 6 54 [.op (some 55) (.mov (.t 7)), .op (some 56) (.mov (.t 11)), .call (some 57) 11 [.t 55, .t 56], .op (some 58) (.not (.t 57))] (.t 58),
   .op (some 60) (.mov (.t 59)),
   .andor 66 false 12 60 [.op (some 61) (.mov (.t 7)), .op (some 62) (.lenS (.t 61)), .op (some 63) (.mov (.t 5)), .op (some 64) (.lenS (.t 63)), .op (some 65) (.bin .neq (.t 62) (.t 64))] (.t 65),
   .op (some 67) (.mov (.t 66)),
   .andor 73 false 19 67 [.op (some 68) (.mov (.t 9)), .op (some 69) (.lenS (.t 68)), .op (some 70) (.mov (.t 5)), .op (some 71) (.lenS (.t 70)), .op (some 72) (.bin .neq (.t 69) (.t 71))] (.t 72)])
  (.keep [5, 6, 7, 9, 73] (.cond (.t 73)
  (.seq (.ops [.op (some 4) (.mov (.k (.bool false)))])
   (.keep [4] (.ret)))
  (.skip))))
 (.keep [5, 6, 7, 9] (.seq (.seq (.ops [.op (some 13) (.mov (.k (.int .i64 0)))])
  (.keep [5, 6, 7, 9, 13] (.block 0 (.loop (.seq (.seq (.ops [.op (some 74) (.mov (.t 13)),
     .op (some 75) (.mov (.t 7)),
     .op (some 76) (.lenS (.t 75)),
     .op (some 77) (.bin .lss (.t 74) (.t 76))])
   (.keep [5, 6, 7, 9, 13, 77] (.cond (.t 77)
    (.skip)
    (.exit 0))))
   (.keep [5, 6, 7, 9, 13] (.seq (.block 1 (.seq (.seq (.draw [.op (some 80) (.mov (.t 7)),
      .op (some 81) (.mov (.t 13)),
      .op (some 82) (.iadr 7 (.t 80) (.t 81)),
      .op (some 83) (.loadN 7 (.t 82)),
      .op (some 84) (.mov (.t 9)),
      .op (some 85) (.mov (.t 7)),
      .op (some 86) (.lenS (.t 85)),
      .op (some 87) (.bin .sub (.t 86) (.k (.int .i64 1))),
      .op (some 88) (.mov (.t 13)),
      .op (some 89) (.bin .sub (.t 87) (.t 88)),
      .op (some 90) (.iadr 7 (.t 84) (.t 89)),
      .op (some 91) (.loadN 7 (.t 90)),
      .op (some 92) (.eqs true [0, 0, 0, 2, 0, 0, 2] (.t 83) (.t 91))])
    (.keep [5, 6, 7, 9, 13, 92] (.cond (.t 92)
     (.seq (.ops [.op (some 4) (.mov (.k (.bool false)))])
     (.keep [4] (.ret)))
     (.skip))))
    (.keep [5, 6, 7, 9, 13] (.seq (.ops [.op (some 14) (.mov (.k (.bool false)))])
    (.keep [5, 6, 7, 9, 13, 14] (.seq (.seq (.ops [.op (some 15) (.mov (.k (.int .i64 0)))])
    (.keep [5, 6, 7, 9, 13, 14, 15] (.block 2 (.loop (.seq (.seq (.ops [.op (some 93) (.mov (.t 15)),
       .op (some 94) (.mov (.t 5)),
       .op (some 95) (.lenS (.t 94)),
       .op (some 96) (.bin .lss (.t 93) (.t 95))])
      (.keep [5, 6, 7, 9, 13, 14, 15, 96] (.cond (.t 96)
      (.skip)
      (.exit 2))))
     (.keep [5, 6, 7, 9, 13, 14, 15] (.seq (.block 3 (.draw [.op (some 99) (.mov (.t 14)),
       .op (some 100) (.mov (.t 99)),
       .andor 110 false 1 100 [.op (some 101) (.mov (.t 5)), .op (some 102) (.mov (.t 15)), .op (some 103) (.iadr 7 (.t 101) (.t 102)), .op (some 104) (.loadN 7 (.t 103)), .op (some 105) (.mov (.t 7)), .op (some 106) (.mov (.t 13)), .op (some 107) (.iadr 7 (.t 105) (.t 106)), .op (some 108) (.loadN 7 (.t 107)), .op (some 109) (.eqs false [0, 0, 0, 2, 0, 0, 2] (.t 104) (.t 108))] (.t 109),
       .op (some 14) (.mov (.t 110))]))
     (.keep [5, 6, 7, 9, 13, 14, 15] (.ops [.op (some 97) (.mov (.t 15)),
      .op (some 98) (.bin .add (.t 97) (.k (.int .i64 1))),
      .op (some 15) (.mov (.t 98))])))))))))
    (.keep [5, 6, 7, 9, 13, 14] (.seq (.seq (.ops [.op (some 111) (.mov (.t 14)),
      .op (some 112) (.not (.t 111))])
    (.keep [5, 6, 7, 9, 13, 112] (.cond (.t 112)
     (.seq (.ops [.op (some 4) (.mov (.k (.bool false)))])
     (.keep [4] (.ret)))
     (.skip))))
    (.keep [5, 6, 7, 9, 13] (.seq (.seq (.ops [.op (some 113) (.mov (.t 13)),
      .op (some 114) (.bin .eql (.t 113) (.k (.int .i64 0))),
      .op (some 115) (.mov (.t 114)),
      .andor 118 false 2 115 [.op (some 116) (.mov (.t 6)), .op (some 117) (.bin .neq (.t 116) (.k (.int .i64 1)))] (.t 117)])
    (.keep [5, 6, 7, 9, 13, 118] (.cond (.t 118)
     (.exit 1)
     (.skip))))
    (.keep [5, 6, 7, 9, 13] (.seq (.draw [.op (some 120) (.mov (.t 7)),
     .op (some 121) (.mov (.t 13)),
     .op (some 122) (.bin .sub (.t 121) (.k (.int .i64 1))),
     .op (some 123) (.iadr 7 (.t 120) (.t 122)),
     .op (some 124) (.fadr (.t 123) 1),
     .op (some 125) (.loadN 3 (.t 124)),
     .op (some 126) (.mov (.t 7)),
     .op (some 127) (.mov (.t 13)),
     .op (some 128) (.iadr 7 (.t 126) (.t 127)),
     .op (some 129) (.fadr (.t 128) 1),
     .op (some 130) (.loadN 3 (.t 129)),
     .call (some 131) 22 [.t 125, .t 130],
     .op (some 119) (.mov (.t 131)),
     .op (some 132) (.ext (.t 119) 0),
     .op (some 133) (.ext (.t 119) 1),
     .op (some 16) (.mov (.t 132)),
     .op (some 17) (.mov (.t 133))])
    (.keep [5, 6, 7, 9, 13, 16, 17] (.seq (.ops [.op (some 134) (.mov (.t 17)),
     .op (some 135) (.bin .neq (.t 134) (.k (.int .i64 0))),
     .op (some 136) (.mov (.t 135)),
     .andor 139 false 2 136 [.op (some 137) (.mov (.t 16)), .op (some 138) (.bin .gtr (.t 137) (.k (.int .i64 0)))] (.t 138)])
    (.keep [5, 6, 7, 9, 13, 139] (.cond (.t 139)
    (.seq (.ops [.op (some 4) (.mov (.k (.bool false)))])
     (.keep [4] (.ret)))
    (.skip)))))))))))))))))
   (.keep [5, 6, 7, 9, 13] (.ops [.op (some 78) (.mov (.t 13)),
    .op (some 79) (.bin .add (.t 78) (.k (.int .i64 1))),
    .op (some 13) (.mov (.t 79))])))))))))
 (.keep [] (.seq (.ops [.op (some 4) (.mov (.k (.bool true)))])
 (.keep [4] (.ret))))))))))))))))))))
theorem k_c_FnSort_fits : fitsF Try.prog 5 ⟨140, k_c_FnSort, [.t 4]⟩ = true := by kernel_rfl
set_option maxHeartbeats 4000000 in
theorem c_FnSort {code more : Str} (w0 : wfL (fun _ => True) code) (w1 : wfL (fun _ => True) more) : Con Try.prog noMv 5 [.d (.sl 1 (code.map byteRow)), .d (.sl 1 (more.map byteRow))] [] (fun r h => r = bool true ∧ h = []) := by
 refine con_of2 k_c_FnSort_fits rfl fun C hP hmv => ?_
 unfold k_c_FnSort
 refine cx_seq ?_
 refine cx_ops ?_
 refine ax_q (q_mov rfl) ?_
 refine ax_nil ?_
 refine cx_keep rfl rfl ?_
 refine cx_seq ?_
 refine cx_seq ?_
 refine cx_ops ?_
 refine ax_q (q_mov rfl) ?_
 first | refine ax_q (q_lenS_map rfl) ?_ | refine ax_q (q_lenS_osl rfl) ?_ | refine ax_q (q_lenS_zs rfl) ?_ | refine ax_q (q_lenS rfl) ?_
 refine ax_q (q_ibin rfl rfl rfl) ?_
 refine ax_q (q_mov rfl) ?_
 apply ax_or rfl rfl
 ·
  intro g
  have g := dF g
  refine ax_q (q_mov rfl) ?_
  first | refine ax_q (q_lenS_map rfl) ?_ | refine ax_q (q_lenS_osl rfl) ?_ | refine ax_q (q_lenS_zs rfl) ?_ | refine ax_q (q_lenS rfl) ?_
  refine ax_q (q_ibin rfl rfl rfl) ?_
  exact ax_nil ⟨rfl, by repeat (first | exact trivial | refine ⟨rfl, ?_⟩ | refine ⟨?_, ?_⟩)⟩
 refine ax_nil ?_
 refine cx_keep rfl rfl ?_
 refine cx_cond rfl (fun h0 => ?_) (fun h0 => ?_)
 ·
  have h0 := (fun h => (or_T h).imp dT dT) h0
  refine cx_seq ?_
  refine cx_ops ?_
  refine ax_q (q_mov rfl) ?_
  refine ax_nil ?_
  refine cx_keep rfl rfl ?_
  refine cx_ret (ret0 rfl rfl ?_)
  exact ⟨rfl, rfl⟩
 ·
  have h0 := (fun h => And.intro (dF (or_F h).1) (dF (or_F h).2)) h0
  have hlc : code.length ≤ 1048576 := by omega
  have hlm : more.length ≤ 1048576 := by omega
  refine cx_skip ?_
  refine cx_keep rfl rfl ?_
  refine cx_seq ?_
  refine cx_ops ?_
  refine ax_q (q_mov rfl) ?_
  first | refine ax_call rfl (vc_pure (c_RowsOf  ?_) hP rfl ?_) | refine ax_call rfl (vc_lend (c_RowsOf  ?_) hP (by repeat (first | exact lal_id _ rfl | exact LAL.nil | refine LAL.cons ?_ ?_ | exact la_id _ rfl | exact LA.lend (lend_whole rfl (by first | (simp; done) | (rw [List.length_map]; rfl))) | refine LA.agg ?_ | refine LA.fn ?_ | refine LA.lend ?_ | exact Lend.d _ | exact Lend.zs _ | exact lend_whole rfl (by first | (simp; done) | (rw [List.length_map]; rfl)) | refine Lend.ptr rfl ?_ | refine Lend.fn ?_ | exact LendL.nil | refine LendL.cons ?_ ?_)) ?_)
  ·
   first | assumption | omega | (simp; done) | (simp; omega)
  rintro r h ⟨R, hg, rfl, rfl⟩
  refine ⟨fun i => 27 + 200 * i, [0], ⟨rfl, rfl, rfl, rfl, rfl, (by first | exact (fun h => absurd h Bool.false_ne_true) | exact (fun _ => ⟨rfl, (noisl_of ⟨noisl_map (fun _ => rfl), trivial⟩)⟩))⟩, ?_⟩
  skip
  obtain ⟨hat0, hat3⟩ := @atF_bounds more 0 3 (by omega)
  have hln := hg.ln
  generalize hcol : atF more 0 3 = col at hat0 hat3
  have hul : (srtF R col false).length = R.length := srtF_len
  have hdl : (srtF R col true).length = R.length := srtF_len
  have hsl : (sortS (ltR col) R).length = R.length := sortS_len
  refine ax_q (q_mov rfl) ?_
  refine ax_nil ?_
  refine cx_keep rfl rfl ?_
  refine cx_seq ?_
  refine cx_ops ?_
  refine ax_q (q_mov rfl) ?_
  first | refine ax_call rfl (vc_pure0 (c_at  ?_ ?_ ?_) hP rfl rfl ?_) | refine ax_call rfl (vc_lend0 (c_at  ?_ ?_ ?_) hP (by repeat (first | exact lal_id _ rfl | exact LAL.nil | refine LAL.cons ?_ ?_ | exact la_id _ rfl | exact LA.lend (lend_whole rfl (by first | (simp; done) | (rw [List.length_map]; rfl))) | refine LA.agg ?_ | refine LA.fn ?_ | refine LA.lend ?_ | exact Lend.d _ | exact Lend.zs _ | exact lend_whole rfl (by first | (simp; done) | (rw [List.length_map]; rfl)) | refine Lend.ptr rfl ?_ | refine Lend.fn ?_ | exact LendL.nil | refine LendL.cons ?_ ?_)) rfl rfl ?_)
  ·
   first | assumption | omega | (simp; done) | (simp; omega)
  ·
   first | assumption | omega | (simp; done) | (simp; omega)
  ·
   first | assumption | omega | (simp; done) | (simp; omega)
  rw [hcol]
  refine ax_q (q_mov rfl) ?_
  refine ax_nil ?_
  refine cx_keep rfl rfl ?_
  refine cx_seq ?_
  refine cx_ops ?_
  refine ax_q (q_mov rfl) ?_
  refine ax_q (q_mov rfl) ?_
  first | refine ax_call rfl (vc_pure (c_SortRows (xs := R) (k := col) (down := false) ?_ ?_) hP rfl ?_) | refine ax_call rfl (vc_lend (c_SortRows (xs := R) (k := col) (down := false) ?_ ?_) hP (by repeat (first | exact lal_id _ rfl | exact LAL.nil | refine LAL.cons ?_ ?_ | exact la_id _ rfl | exact LA.lend (lend_whole rfl (by first | (simp; done) | (rw [List.length_map]; rfl))) | refine LA.agg ?_ | refine LA.fn ?_ | refine LA.lend ?_ | exact Lend.d _ | exact Lend.zs _ | exact lend_whole rfl (by first | (simp; done) | (rw [List.length_map]; rfl)) | refine Lend.ptr rfl ?_ | refine Lend.fn ?_ | exact LendL.nil | refine LendL.cons ?_ ?_)) ?_)
  ·
   first | assumption | omega | (simp; done) | (simp; omega)
  ·
   first | assumption | omega | (simp; done) | (simp; omega)
  rintro r h ⟨rfl, rfl⟩
  refine ⟨fun i => 33 + 200 * i, [0], ⟨rfl, rfl, rfl, rfl, rfl, (by first | exact (fun h => absurd h Bool.false_ne_true) | exact (fun _ => ⟨rfl, (noisl_of (by repeat (first | exact trivial | refine ⟨noisl_map (fun _ => rfl), ?_⟩ | refine ⟨?_, ?_⟩)))⟩))⟩, ?_⟩
  skip
  refine ax_q (q_mov rfl) ?_
  refine ax_q (q_ext rfl rfl) ?_
  refine ax_q (q_ext rfl rfl) ?_
  refine ax_q (q_mov rfl) ?_
  refine ax_q (q_mov rfl) ?_
  refine ax_nil ?_
  refine cx_keep rfl rfl ?_
  refine cx_seq ?_
  refine cx_ops ?_
  refine ax_q (q_mov rfl) ?_
  refine ax_q (q_mov rfl) ?_
  first | refine ax_call rfl (vc_pure (c_SortRows (xs := R) (k := col) (down := true) ?_ ?_) hP rfl ?_) | refine ax_call rfl (vc_lend (c_SortRows (xs := R) (k := col) (down := true) ?_ ?_) hP (by repeat (first | exact lal_id _ rfl | exact LAL.nil | refine LAL.cons ?_ ?_ | exact la_id _ rfl | exact LA.lend (lend_whole rfl (by first | (simp; done) | (rw [List.length_map]; rfl))) | refine LA.agg ?_ | refine LA.fn ?_ | refine LA.lend ?_ | exact Lend.d _ | exact Lend.zs _ | exact lend_whole rfl (by first | (simp; done) | (rw [List.length_map]; rfl)) | refine Lend.ptr rfl ?_ | refine Lend.fn ?_ | exact LendL.nil | refine LendL.cons ?_ ?_)) ?_)
  ·
   first | assumption | omega | (simp; done) | (simp; omega)
  ·
   first | assumption | omega | (simp; done) | (simp; omega)
  rintro r h ⟨rfl, rfl⟩
  refine ⟨fun i => 39 + 200 * i, [0], ⟨rfl, rfl, rfl, rfl, rfl, (by first | exact (fun h => absurd h Bool.false_ne_true) | exact (fun _ => ⟨rfl, (noisl_of (by repeat (first | exact trivial | refine ⟨noisl_map (fun _ => rfl), ?_⟩ | refine ⟨?_, ?_⟩)))⟩))⟩, ?_⟩
  skip
  refine ax_q (q_mov rfl) ?_
  refine ax_q (q_ext rfl rfl) ?_
  refine ax_q (q_ext rfl rfl) ?_
  refine ax_q (q_mov rfl) ?_
  refine ax_q (q_mov rfl) ?_
  refine ax_nil ?_
  refine cx_keep rfl rfl ?_
  refine cx_seq ?_
  refine cx_ops ?_
  refine ax_q (q_mov rfl) ?_
  refine ax_q (q_mov rfl) ?_
  first | refine ax_call rfl (vc_pure (c_sSortRows (xs := R) (k := col) ?_ ?_) hP rfl ?_) | refine ax_call rfl (vc_lend (c_sSortRows (xs := R) (k := col) ?_ ?_) hP (by repeat (first | exact lal_id _ rfl | exact LAL.nil | refine LAL.cons ?_ ?_ | exact la_id _ rfl | exact LA.lend (lend_whole rfl (by first | (simp; done) | (rw [List.length_map]; rfl))) | refine LA.agg ?_ | refine LA.fn ?_ | refine LA.lend ?_ | exact Lend.d _ | exact Lend.zs _ | exact lend_whole rfl (by first | (simp; done) | (rw [List.length_map]; rfl)) | refine Lend.ptr rfl ?_ | refine Lend.fn ?_ | exact LendL.nil | refine LendL.cons ?_ ?_)) ?_)
  ·
   first | assumption | omega | (simp; done) | (simp; omega)
  ·
   first | assumption | omega | (simp; done) | (simp; omega)
  rintro r h ⟨rfl, rfl⟩
  refine ⟨fun i => 45 + 200 * i, [0], ⟨rfl, rfl, rfl, rfl, rfl, (by first | exact (fun h => absurd h Bool.false_ne_true) | exact (fun _ => ⟨rfl, (noisl_of (by repeat (first | exact trivial | refine ⟨noisl_map (fun _ => rfl), ?_⟩ | refine ⟨?_, ?_⟩)))⟩))⟩, ?_⟩
  skip
  refine ax_q (q_mov rfl) ?_
  refine ax_q (q_ext rfl rfl) ?_
  refine ax_q (q_ext rfl rfl) ?_
  refine ax_q (q_mov rfl) ?_
  refine ax_q (q_mov rfl) ?_
  refine ax_nil ?_
  refine cx_keep rfl rfl ?_
  refine cx_seq ?_
  refine cx_seq ?_
  refine cx_ops ?_
  refine ax_q (q_mov rfl) ?_
  refine ax_q (q_ibin rfl rfl rfl) ?_
  refine ax_q (q_mov rfl) ?_
  apply ax_or rfl rfl
  ·
   intro g
   have g := nF g
   refine ax_q (q_mov rfl) ?_
   refine ax_q (q_ibin rfl rfl rfl) ?_
   exact ax_nil ⟨rfl, by repeat (first | exact trivial | refine ⟨rfl, ?_⟩ | refine ⟨?_, ?_⟩)⟩
  refine ax_q (q_mov rfl) ?_
  apply ax_or rfl rfl
  ·
   intro g
   have g := (fun h => And.intro (nF (or_F h).1) (nF (or_F h).2)) g
   refine ax_q (q_mov rfl) ?_
   refine ax_q (q_mov rfl) ?_
   first | refine ax_call rfl (vc_pure0 (c_sameRows (xs := (srtF R col false)) (ys := sortS (ltR col) R) ?_ ?_) hP rfl rfl ?_) | refine ax_call rfl (vc_lend0 (c_sameRows (xs := (srtF R col false)) (ys := sortS (ltR col) R) ?_ ?_) hP (by repeat (first | exact lal_id _ rfl | exact LAL.nil | refine LAL.cons ?_ ?_ | exact la_id _ rfl | exact LA.lend (lend_whole rfl (by first | (simp; done) | (rw [List.length_map]; rfl))) | refine LA.agg ?_ | refine LA.fn ?_ | refine LA.lend ?_ | exact Lend.d _ | exact Lend.zs _ | exact lend_whole rfl (by first | (simp; done) | (rw [List.length_map]; rfl)) | refine Lend.ptr rfl ?_ | refine Lend.fn ?_ | exact LendL.nil | refine LendL.cons ?_ ?_)) rfl rfl ?_)
   ·
    first | assumption | omega | (simp; done) | (simp; omega)
   ·
    first | assumption | omega | (simp; done) | (simp; omega)
   refine ax_q (q_not rfl) ?_
   exact ax_nil ⟨rfl, by repeat (first | exact trivial | refine ⟨rfl, ?_⟩ | refine ⟨?_, ?_⟩)⟩
  refine ax_q (q_mov rfl) ?_
  apply ax_or rfl rfl
  ·
   intro g
   have g := (fun h => And.intro ((fun h => And.intro (nF (or_F h).1) (nF (or_F h).2)) (or_F h).1) (bF (or_F h).2)) g
   refine ax_q (q_mov rfl) ?_
   first | refine ax_q (q_lenS_map rfl) ?_ | refine ax_q (q_lenS_osl rfl) ?_ | refine ax_q (q_lenS_zs rfl) ?_ | refine ax_q (q_lenS rfl) ?_
   refine ax_q (q_mov rfl) ?_
   first | refine ax_q (q_lenS_map rfl) ?_ | refine ax_q (q_lenS_osl rfl) ?_ | refine ax_q (q_lenS_zs rfl) ?_ | refine ax_q (q_lenS rfl) ?_
   refine ax_q (q_ibin rfl rfl rfl) ?_
   exact ax_nil ⟨rfl, by repeat (first | exact trivial | refine ⟨rfl, ?_⟩ | refine ⟨?_, ?_⟩)⟩
  refine ax_q (q_mov rfl) ?_
  apply ax_or rfl rfl
  ·
   intro g
   have g := (fun h => And.intro ((fun h => And.intro ((fun h => And.intro (nF (or_F h).1) (nF (or_F h).2)) (or_F h).1) (bF (or_F h).2)) (or_F h).1) (nF (or_F h).2)) g
   refine ax_q (q_mov rfl) ?_
   first | refine ax_q (q_lenS_map rfl) ?_ | refine ax_q (q_lenS_osl rfl) ?_ | refine ax_q (q_lenS_zs rfl) ?_ | refine ax_q (q_lenS rfl) ?_
   refine ax_q (q_mov rfl) ?_
   first | refine ax_q (q_lenS_map rfl) ?_ | refine ax_q (q_lenS_osl rfl) ?_ | refine ax_q (q_lenS_zs rfl) ?_ | refine ax_q (q_lenS rfl) ?_
   refine ax_q (q_ibin rfl rfl rfl) ?_
   exact ax_nil ⟨rfl, by repeat (first | exact trivial | refine ⟨rfl, ?_⟩ | refine ⟨?_, ?_⟩)⟩
  refine ax_nil ?_
  refine cx_keep rfl rfl ?_
  refine cx_cond rfl (fun h1 => ?_) (fun h1 => ?_)
  ·
   have h1 := (fun h => (or_T h).imp (fun h => (or_T h).imp (fun h => (or_T h).imp (fun h => (or_T h).imp nT nT) bT) nT) nT) h1
   exfalso
   rcases h1 with (((h | h) | h) | h) | h
   ·
    exact h rfl
   ·
    exact h rfl
   ·
    rw [show (srtF R col false) = sortS (ltR col) R from rfl, eqb_rfl] at h; cases h
   ·
    omega
   ·
    omega
  ·
   have h1 := (fun h => And.intro ((fun h => And.intro ((fun h => And.intro ((fun h => And.intro (nF (or_F h).1) (nF (or_F h).2)) (or_F h).1) (bF (or_F h).2)) (or_F h).1) (nF (or_F h).2)) (or_F h).1) (nF (or_F h).2)) h1
   refine cx_skip ?_
   refine cx_keep rfl rfl ?_
   refine cx_seq ?_
   refine cx_seq ?_
   refine cx_ops ?_
   refine ax_q (q_mov rfl) ?_
   refine ax_nil ?_
   refine cx_keep rfl rfl ?_
   refine cx_block ?_
   refine cx_loopU (fun n i => i ≤ R.length ∧ n = R.length - i) (fun i : Nat => [(13, int i)]) (fun _ => [(27, .rows 7 (R.map GRow.row)), (33, .rows 7 ((srtF R col false).map GRow.row)), (39, .rows 7 ((srtF R col true).map GRow.row))]) ⟨_, 0, ⟨Nat.zero_le _, rfl⟩, by repeat (first | exact trivial | refine ⟨rfl, ?_⟩ | refine ⟨?_, ?_⟩)⟩ ?_
   rintro n i ⟨hi, rfl⟩
   refine cx_seq ?_
   refine cx_seq ?_
   refine cx_ops ?_
   refine ax_q (q_mov rfl) ?_
   refine ax_q (q_mov rfl) ?_
   first | refine ax_q (q_lenS_map rfl) ?_ | refine ax_q (q_lenS_osl rfl) ?_ | refine ax_q (q_lenS_zs rfl) ?_ | refine ax_q (q_lenS rfl) ?_
   refine ax_q (q_ibin rfl rfl rfl) ?_
   refine ax_nil ?_
   refine cx_keep rfl rfl ?_
   refine cx_cond rfl (fun h2 => ?_) (fun h2 => ?_)
   ·
    have h2 := dT h2
    have hir : i < R.length := by omega
    refine cx_skip ?_
    refine cx_keep rfl rfl ?_
    refine cx_seq ?_
    refine cx_block ?_
    refine cx_seq ?_
    refine cx_seq ?_
    refine cx_draw ?_
    refine ax_q (q_mov rfl) ?_
    refine ax_q (q_mov rfl) ?_
    refine ax_q (q_ixo rfl rfl (by omega)) ?_
    refine ax_q (q_loadN_rptr (r := GRow.row ((srtF R col false)[i]'(by omega))) rfl rfl (mapAt (by omega)) (by decide)) ?_
    refine ax_q (q_mov rfl) ?_
    refine ax_q (q_mov rfl) ?_
    first | refine ax_q (q_lenS_map rfl) ?_ | refine ax_q (q_lenS_osl rfl) ?_ | refine ax_q (q_lenS_zs rfl) ?_ | refine ax_q (q_lenS rfl) ?_
    refine ax_qe (r' := int ((R.length : Int) - 1)) (q_ibin rfl rfl rfl) (by rw [wi (by omega) (by omega)]; exact congrArg AM.int (by omega)) ?_
    refine ax_q (q_mov rfl) ?_
    refine ax_qe (r' := int ((R.length - 1 - i : Nat) : Int)) (q_ibin rfl rfl rfl) (by rw [wi (by omega) (by omega)]; exact congrArg AM.int (by omega)) ?_
    refine ax_q (q_ixo rfl rfl (by omega)) ?_
    refine ax_q (q_loadN_rptr (r := GRow.row ((srtF R col true)[R.length - 1 - i]'(by omega))) rfl rfl (mapAt (by omega)) (by decide)) ?_
    refine ax_qe (r' := bool (!eqb ((srtF R col false)[i]'(by omega)) ((srtF R col true)[R.length - 1 - i]'(by omega)))) (GRow.q_eqs (a := (srtF R col false)[i]'(by omega)) (b := (srtF R col true)[R.length - 1 - i]'(by omega)) rfl rfl) (rfl) ?_
    refine ax_nil ?_
    refine cx_keep rfl rfl ?_
    refine cx_cond rfl (fun h3 => ?_) (fun h3 => ?_)
    ·
     have h3 := bT h3
     exfalso
     rw [down_at hir (by omega) (by omega), eqb_rfl] at h3
     cases h3
    ·
     skip
     refine cx_skip ?_
     refine cx_keep rfl rfl ?_
     refine cx_seq ?_
     refine cx_ops ?_
     refine ax_q (q_mov rfl) ?_
     refine ax_nil ?_
     refine cx_keep rfl rfl ?_
     refine cx_seq ?_
     refine cx_seq ?_
     refine cx_ops ?_
     refine ax_q (q_mov rfl) ?_
     refine ax_nil ?_
     refine cx_keep rfl rfl ?_
     refine cx_block ?_
     refine cx_loopU (fun n j => j ≤ R.length ∧ n = R.length - j) (fun j : Nat => [(15, int j), (14, bool (fndK R ((srtF R col false)[i]'(by omega)) j))]) (fun _ => [(27, .rows 7 (R.map GRow.row)), (33, .rows 7 ((srtF R col false).map GRow.row)), (39, .rows 7 ((srtF R col true).map GRow.row))]) ⟨_, 0, ⟨Nat.zero_le _, rfl⟩, by repeat (first | exact trivial | refine ⟨rfl, ?_⟩ | refine ⟨?_, ?_⟩)⟩ ?_
     rintro n j ⟨hj, rfl⟩
     refine cx_seq ?_
     refine cx_seq ?_
     refine cx_ops ?_
     refine ax_q (q_mov rfl) ?_
     refine ax_q (q_mov rfl) ?_
     first | refine ax_q (q_lenS_map rfl) ?_ | refine ax_q (q_lenS_osl rfl) ?_ | refine ax_q (q_lenS_zs rfl) ?_ | refine ax_q (q_lenS rfl) ?_
     refine ax_q (q_ibin rfl rfl rfl) ?_
     refine ax_nil ?_
     refine cx_keep rfl rfl ?_
     refine cx_cond rfl (fun h4 => ?_) (fun h4 => ?_)
     ·
      have h4 := dT h4
      have h4x : j < R.length := by omega
      refine cx_skip ?_
      refine cx_keep rfl rfl ?_
      refine cx_seq ?_
      refine cx_block ?_
      refine cx_draw ?_
      refine ax_q (q_mov rfl) ?_
      refine ax_q (q_mov rfl) ?_
      apply ax_or rfl rfl
      ·
       intro g
       refine ax_q (q_mov rfl) ?_
       refine ax_q (q_mov rfl) ?_
       refine ax_q (q_ixo rfl rfl (by omega)) ?_
       refine ax_q (q_loadN_rptr (r := GRow.row R[j]) rfl rfl (mapAt (by omega)) (by decide)) ?_
       refine ax_q (q_mov rfl) ?_
       refine ax_q (q_mov rfl) ?_
       refine ax_q (q_ixo rfl rfl (by omega)) ?_
       refine ax_q (q_loadN_rptr (r := GRow.row ((srtF R col false)[i]'(by omega))) rfl rfl (mapAt (by omega)) (by decide)) ?_
       refine ax_qe (r' := bool (eqb R[j] ((srtF R col false)[i]'(by omega)))) (GRow.q_eqs (a := R[j]) (b := (srtF R col false)[i]'(by omega)) rfl rfl) (rfl) ?_
       exact ax_nil ⟨rfl, by repeat (first | exact trivial | refine ⟨rfl, ?_⟩ | refine ⟨?_, ?_⟩)⟩
      refine ax_q (q_mov rfl) ?_
      refine ax_nil ?_
      refine cx_keep rfl rfl ?_
      refine cx_ops ?_
      refine ax_q (q_mov rfl) ?_
      refine ax_qe (r' := int ((j + 1 : Nat) : Int)) (q_ibin rfl rfl rfl) (by rw [wi (by omega) (by omega)]; rfl) ?_
      refine ax_q (q_mov rfl) ?_
      refine ax_nil ?_
      exact ⟨_, j + 1, by omega, ⟨by omega, rfl⟩, by rw [fndK_succ h4x]; exact (by repeat (first | exact trivial | refine ⟨rfl, ?_⟩ | refine ⟨?_, ?_⟩))⟩
     ·
      have h4 := dF h4
      obtain rfl : j = R.length := by omega
      refine cx_exit rfl ?_
      refine cx_keep rfl rfl ?_
      refine cx_seq ?_
      refine cx_seq ?_
      refine cx_ops ?_
      refine ax_q (q_mov rfl) ?_
      refine ax_q (q_not rfl) ?_
      refine ax_nil ?_
      refine cx_keep rfl rfl ?_
      refine cx_cond rfl (fun h5 => ?_) (fun h5 => ?_)
      ·
       have h5 := bT h5
       exfalso
       rw [fndK_all (up_in (by omega))] at h5
       cases h5
      ·
       skip
       refine cx_skip ?_
       refine cx_keep rfl rfl ?_
       refine cx_seq ?_
       refine cx_seq ?_
       refine cx_ops ?_
       refine ax_q (q_mov rfl) ?_
       refine ax_q (q_ibin rfl rfl rfl) ?_
       refine ax_q (q_mov rfl) ?_
       apply ax_or rfl rfl
       ·
        intro g
        have g := dF g
        refine ax_q (q_mov rfl) ?_
        refine ax_q (q_ibin rfl rfl rfl) ?_
        exact ax_nil ⟨rfl, by repeat (first | exact trivial | refine ⟨rfl, ?_⟩ | refine ⟨?_, ?_⟩)⟩
       refine ax_nil ?_
       refine cx_keep rfl rfl ?_
       refine cx_cond rfl (fun h6 => ?_) (fun h6 => ?_)
       ·
        have h6 := (fun h => (or_T h).imp dT nT) h6
        refine cx_exit rfl ?_
        refine cx_keep rfl rfl ?_
        refine cx_ops ?_
        refine ax_q (q_mov rfl) ?_
        refine ax_qe (r' := int ((i + 1 : Nat) : Int)) (q_ibin rfl rfl rfl) (by rw [wi (by omega) (by omega)]; rfl) ?_
        refine ax_q (q_mov rfl) ?_
        refine ax_nil ?_
        exact ⟨_, i + 1, by omega, ⟨by omega, rfl⟩, by repeat (first | exact trivial | refine ⟨rfl, ?_⟩ | refine ⟨?_, ?_⟩)⟩
       ·
        have h6 := (fun h => And.intro (dF (or_F h).1) (nF (or_F h).2)) h6
        have hro1 := hg.ok _ (up_in (k := col) (i := i - 1) (show i - 1 < (srtF R col false).length by omega))
        have hro2 := hg.ok _ (up_in (k := col) (i := i) (show i < (srtF R col false).length by omega))
        have hv1 := row_val hro1
        have hv2 := row_val hro2
        have hs1 := row_sz hro1
        have hs2 := row_sz hro2
        refine cx_skip ?_
        refine cx_keep rfl rfl ?_
        refine cx_seq ?_
        refine cx_draw ?_
        refine ax_q (q_mov rfl) ?_
        refine ax_q (q_mov rfl) ?_
        refine ax_qe (r' := int ((i - 1 : Nat) : Int)) (q_ibin rfl rfl rfl) (by rw [wi (by omega) (by omega)]; exact congrArg AM.int (by omega)) ?_
        refine ax_q (q_ixo rfl rfl (by omega)) ?_
        first | refine ax_q (q_fadr_ptr rfl) ?_ | refine ax_q (q_fadr_rptr rfl) ?_ | refine ax_q (q_fadr_ip rfl) ?_
        refine ax_q (q_loadN_rptr (r := GRow.row ((srtF R col false)[i - 1]'(by omega))) rfl rfl (mapAt (by omega)) (by decide)) ?_
        refine ax_q (q_mov rfl) ?_
        refine ax_q (q_mov rfl) ?_
        refine ax_q (q_ixo rfl rfl (by omega)) ?_
        first | refine ax_q (q_fadr_ptr rfl) ?_ | refine ax_q (q_fadr_rptr rfl) ?_ | refine ax_q (q_fadr_ip rfl) ?_
        refine ax_q (q_loadN_rptr (r := GRow.row ((srtF R col false)[i]'(by omega))) rfl rfl (mapAt (by omega)) (by decide)) ?_
        first | refine ax_callq rfl (c_CompareValues (a := ((srtF R col false)[i - 1]'(by omega)).N) (b := ((srtF R col false)[i]'(by omega)).N) ?_ ?_ ?_ ?_) hP (lal_id _ rfl) rfl ?_ | refine ax_callq rfl (c_CompareValues (a := ((srtF R col false)[i - 1]'(by omega)).N) (b := ((srtF R col false)[i]'(by omega)).N) ?_ ?_ ?_ ?_) hP (by repeat (first | exact lal_id _ rfl | exact LAL.nil | refine LAL.cons ?_ ?_ | exact la_id _ rfl | exact LA.lend (lend_whole rfl (by first | (simp; done) | (rw [List.length_map]; rfl))) | refine LA.agg ?_ | refine LA.fn ?_ | refine LA.lend ?_ | exact Lend.d _ | exact Lend.zs _ | exact lend_whole rfl (by first | (simp; done) | (rw [List.length_map]; rfl)) | refine Lend.ptr rfl ?_ | refine Lend.fn ?_ | exact LendL.nil | refine LendL.cons ?_ ?_)) rfl ?_
        ·
         exact hv1.1
        ·
         exact hv2.1
        ·
         exact hs1.1
        ·
         exact hs2.1
        refine ax_q (q_mov rfl) ?_
        refine ax_q (q_ext rfl rfl) ?_
        refine ax_q (q_ext rfl rfl) ?_
        refine ax_q (q_mov rfl) ?_
        refine ax_q (q_mov rfl) ?_
        refine ax_nil ?_
        refine cx_keep rfl rfl ?_
        refine cx_seq ?_
        refine cx_ops ?_
        refine ax_q (q_mov rfl) ?_
        refine ax_q (q_ibin rfl rfl rfl) ?_
        refine ax_q (q_mov rfl) ?_
        apply ax_or rfl rfl
        ·
         intro g
         have g := nF g
         refine ax_q (q_mov rfl) ?_
         refine ax_q (q_ibin rfl rfl rfl) ?_
         exact ax_nil ⟨rfl, by repeat (first | exact trivial | refine ⟨rfl, ?_⟩ | refine ⟨?_, ?_⟩)⟩
        refine ax_nil ?_
        refine cx_keep rfl rfl ?_
        refine cx_cond rfl (fun h7 => ?_) (fun h7 => ?_)
        ·
         have h7 := (fun h => (or_T h).imp nT dT) h7
         exfalso
         rcases h7 with h | h
         ·
          exact h rfl
         ·
          exact up_le2 (by omega) (by omega) (by omega) (by omega) h
        ·
         have h7 := (fun h => And.intro (nF (or_F h).1) (dF (or_F h).2)) h7
         refine cx_skip ?_
         refine cx_keep rfl rfl ?_
         refine cx_ops ?_
         refine ax_q (q_mov rfl) ?_
         refine ax_qe (r' := int ((i + 1 : Nat) : Int)) (q_ibin rfl rfl rfl) (by rw [wi (by omega) (by omega)]; rfl) ?_
         refine ax_q (q_mov rfl) ?_
         refine ax_nil ?_
         exact ⟨_, i + 1, by omega, ⟨by omega, rfl⟩, by repeat (first | exact trivial | refine ⟨rfl, ?_⟩ | refine ⟨?_, ?_⟩)⟩
   ·
    have h2 := dF h2
    have hir : i = R.length := by omega
    refine cx_exit rfl ?_
    refine cx_keep rfl rfl ?_
    refine cx_seq ?_
    refine cx_ops ?_
    refine ax_q (q_mov rfl) ?_
    refine ax_nil ?_
    refine cx_keep rfl rfl ?_
    refine cx_ret (ret0 rfl rfl ?_)
    exact ⟨rfl, rfl⟩

theorem own : ownKnob Try.prog.godebug = none := by kernel_rfl
theorem laid : laidOutB Try.prog = true := by kernel_rfl
theorem closedTs : closedT Try.prog [5, 22] = true := by kernel_rfl
theorem con (rows : List (List D)) (h : HasAll Try.prog Try.f5.params.toList rows) : Con Try.prog noMv 5 (argsAV Try.prog Try.f5.params.toList rows) [] (fun r h => r = AM.bool true ∧ h = []) := by
  rw [Try.params5] at h ⊢
  obtain ⟨d0, r0, rfl, h0, h⟩ := h
  obtain ⟨d1, r1, rfl, h1, h⟩ := h
  obtain rfl := h
  obtain ⟨a0, rfl, w0⟩ := (dec_slice (sz := 1) Try.underlying22 (by kernel_rfl) (dec_byte Try.underlying5)) h0
  obtain ⟨a1, rfl, w1⟩ := (dec_slice (sz := 1) Try.underlying22 (by kernel_rfl) (dec_byte Try.underlying5)) h1
  have e : argsAV Try.prog [22, 22] [[.sl 1 (a0.map byteRow)], [.sl 1 (a1.map byteRow)]] = [.d (.sl 1 (a0.map byteRow)), .d (.sl 1 (a1.map byteRow))] := by
    first | (simp only [argsAV, argAV, Try.underlying22]; done) | (simp only [argsAV, argAV, Try.underlying22]; rfl)
  show Con Try.prog noMv 5 (argsAV Try.prog [22, 22] [[.sl 1 (a0.map byteRow)], [.sl 1 (a1.map byteRow)]]) [] _
  rw [e]
  exact c_FnSort w0 w1
set_option maxRecDepth 100000 in
theorem lifted (os : Os) (started : os.Started) (H : Type) (enc : TypeId × Value → H) :
    ReturnsInHanded {} Try.checked os 5 .any (Rows.fnSortSpec.pre6 enc Try.prog Try.f5 Rows.fnSortRow.domain false) (Rows.fnSortSpec.post enc Try.prog Try.f5 false true false false) := by
  refine returnsInHanded_of_change (C := Try.checked) own started (by kernel_rfl) Try.func5
    (ChangeSpec.witness6 (enc := enc) (C := Try.checked) false ⟨#[], #[.slice none 0 0, .slice none 0 0], []⟩ 8 (by kernel_rfl) (by kernel_rfl) (by kernel_rfl) (by kernel_rfl)) ?_
  intro W base args ds gs before hval hW hcnd _
  refine law_contract closedTs laid (by kernel_rfl) rfl rfl Try.underlying4 con (fun hl => ?_) hval hW
  match ds, hl with
  | [x0, x1], _ => rfl
theorem over : Rows.fnSortRow.holds Try.pinned (OpenSpec.ofChange Rows.fnSortSpec) :=
  OpenClaim.holds_of_wide 5 Try.f5 rfl rfl rfl rfl rfl rfl rfl ⟨rfl, rfl, rfl, rfl, rfl⟩ rfl rfl rfl rfl rfl (by kernel_rfl) Try.func5 (by kernel_rfl)
    (of_decide_eq_true (by kernel_rfl)) (by unfold Func.isWrapper; first | (rw [if_pos (by decide +kernel)]; kernel_rfl) | (rw [if_neg (by decide +kernel)]; exact ⟨rfl, rfl⟩))
    (fun os started H enc _ => lifted os started H enc)
theorem proved : Rows.FnSortSaid := over
end fnSort
end Go.Proofs.Ytkingadnnilgiaa
#print axioms Go.Proofs.Ytkingadnnilgiaa.fnSort.proved
