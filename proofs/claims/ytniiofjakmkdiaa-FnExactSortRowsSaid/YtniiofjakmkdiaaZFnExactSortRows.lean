/- The law FnExactSortRows of the given program returns true for all arguments, and its arguments read behind the call as they read before: the statement FnExactSortRowsSaid, with no condition. -/
import Derived.Test.YtniiofjakmkdiaaW0
import Derived.Test.YtniiofjakmkdiaaRows
namespace Go.Proofs.Ytniiofjakmkdiaa
open Go Go.AM Go.ChangeShapes Go.RowKit
set_option linter.unusedVariables false
set_option linter.unusedSimpArgs false
namespace fnExactSortRows
set_option maxRecDepth 10000
/- loop.example/g00332/laws.FnExactSortRows -/
def k_c_FnExactSortRows : XCode :=
 .seq (.ops [.op (some 6) (.mov (.k (.bool false)))])
 (.keep [0, 1, 2] (.seq (.ops [.op (some 7) (.mov (.k (.int .i64 1048576)))])
 (.keep [0, 1, 2, 7] (.seq (.ops [.op (some 18) (.mov (.t 0)),
   .op (some 19) (.mov (.t 7)),
   .call (some 20) 4 [.t 18, .t 19],
   .op (some 7) (.mov (.t 20))])
 (.keep [0, 1, 2, 7] (.seq (.seq (.ops [.op (some 21) (.mov (.t 7)),
   .op (some 22) (.bin .lss (.t 21) (.k (.int .i64 0)))])
  (.keep [0, 1, 2, 22] (.cond (.t 22)
  (.seq (.ops [.op (some 6) (.mov (.k (.bool true)))])
   (.keep [6] (.ret)))
  (.skip))))
 (.keep [0, 1, 2] (.seq (.ops [.op (some 24) (.mov (.t 0)),
   .call (some 25) 6 [.t 24],
   .op (some 26) (.mov (.t 1)),
   .op (some 27) (.mov (.t 2)),
   .call (some 28) 5 [.t 25, .t 26, .t 27],
   .op (some 23) (.mov (.t 28)),
   .op (some 29) (.ext (.t 23) 0),
   .op (some 30) (.ext (.t 23) 1),
   .op (some 8) (.mov (.t 29)),
   .op (some 9) (.mov (.t 30))])
 (.keep [0, 1, 2, 8, 9] (.seq (.ops [.op (some 31) (.mov (.t 0)),
   .call (some 32) 6 [.t 31],
   .op (some 10) (.mov (.t 32))])
 (.keep [0, 1, 2, 8, 9, 10] (.seq (.ops [.op (some 34) (.mov (.t 10)),
   .op (some 35) (.mov (.t 1)),
   .op (some 36) (.mov (.t 2)),
   .call (some 37) 7 [.t 34, .t 35, .t 36],
   .op (some 33) (.mov (.t 37)),
   .op (some 38) (.ext (.t 33) 0),
   .op (some 39) (.ext (.t 33) 1),
   .op (some 11) (.mov (.t 38)),
   .op (some 12) (.mov (.t 39))])
 (.keep [0, 1, 2, 8, 9, 10, 11, 12] (.seq (.seq (.ops [.op (some 40) (.mov (.t 11)),
   .op (some 41) (.mov (.t 8)),
   .call (some 42) 8 [.t 40, .t 41],
   .op (some 43) (.not (.t 42)),
   .op (some 44) (.mov (.t 43)),
   .andor 48 false 4 44 [.op (some 45) (.mov (.t 12)), .op (some 46) (.mov (.t 9)), .op (some 47) (.bin .neq (.t 45) (.t 46))] (.t 47)])
  (.keep [0, 1, 2, 8, 9, 10, 11, 12, 48] (.cond (.t 48)
  (.seq (.ops [.op (some 6) (.mov (.k (.bool false)))])
   (.keep [6] (.ret)))
  (.skip))))
 (.keep [0, 1, 2, 8, 9, 10, 11, 12] (.seq (.seq (.ops [.op (some 49) (.mov (.t 10)),
   .op (some 50) (.mov (.t 0)),
   .call (some 51) 6 [.t 50],
   .call (some 52) 8 [.t 49, .t 51],
   .op (some 53) (.not (.t 52))])
  (.keep [0, 1, 2, 8, 9, 10, 11, 12, 53] (.cond (.t 53)
  (.seq (.ops [.op (some 6) (.mov (.k (.bool false)))])
   (.keep [6] (.ret)))
  (.skip))))
 (.keep [0, 1, 2, 8, 9, 10, 11, 12] (.seq (.ops [.op (some 13) (.mov (.k (.int .i64 1)))])
 (.keep [0, 1, 2, 8, 9, 10, 11, 12, 13] (.seq (.ops [.op (some 54) (.mov (.t 10)),
   .op (some 55) (.mov (.t 13)),
   .call (some 56) 9 [.t 54, .t 55],
   .op (some 13) (.mov (.t 56))])
 (.keep [0, 1, 2, 8, 9, 11, 12, 13] (.seq (.seq (.ops [.op (some 57) (.mov (.t 13)),
   .op (some 58) (.bin .lss (.t 57) (.k (.int .i64 0))),
   .op (some 59) (.mov (.t 58)),
   .andor 64 false 2 59 [.op (some 60) (.mov (.t 11)), .op (some 61) (.mov (.t 8)), .call (some 62) 8 [.t 60, .t 61], .op (some 63) (.not (.t 62))] (.t 63),
   .op (some 65) (.mov (.t 64)),
   .andor 69 false 8 65 [.op (some 66) (.mov (.t 12)), .op (some 67) (.mov (.t 9)), .op (some 68) (.bin .neq (.t 66) (.t 67))] (.t 68)])
  (.keep [0, 1, 2, 8, 9, 11, 69] (.cond (.t 69)
  (.seq (.ops [.op (some 6) (.mov (.k (.bool false)))])
   (.keep [6] (.ret)))
  (.skip))))
 (.keep [0, 1, 2, 8, 9, 11] (.seq (.ops [.op (some 14) (.mov (.k (.int .i64 1)))])
 (.keep [0, 1, 2, 8, 9, 11, 14] (.seq (.ops [.op (some 70) (.mov (.t 11)),
   .op (some 71) (.mov (.t 14)),
   .call (some 72) 9 [.t 70, .t 71],
   .op (some 14) (.mov (.t 72))])
 (.keep [0, 1, 2, 8, 9, 11, 14] (.seq (.ops [.op (some 15) (.mov (.k (.int .i64 1)))])
 (.keep [0, 1, 2, 8, 9, 11, 14, 15] (.seq (.ops [.op (some 73) (.mov (.t 11)),
   .op (some 74) (.mov (.t 15)),
   .call (some 75) 10 [.t 73, .t 74],
   .op (some 15) (.mov (.t 75))])
 (.keep [0, 1, 2, 8, 9, 11, 14, 15] (.seq (.seq (.ops [.op (some 76) (.mov (.t 15)),
   .op (some 77) (.bin .lss (.t 76) (.k (.int .i64 0)))])
  (.keep [0, 1, 2, 8, 9, 11, 14, 15, 77] (.cond (.t 77)
  (.seq (.ops [.op (some 6) (.mov (.k (.bool false)))])
   (.keep [6] (.ret)))
  (.skip))))
 (.keep [0, 1, 2, 8, 9, 11, 14, 15] (.seq (.seq (.ops [.op (some 78) (.mov (.t 15)),
   .op (some 79) (.mov (.t 14)),
   .op (some 80) (.bin .neq (.t 78) (.t 79))])
  (.keep [0, 1, 2, 8, 9, 11, 14, 80] (.cond (.t 80)
  (.seq (.ops [.op (some 6) (.mov (.k (.bool false)))])
   (.keep [6] (.ret)))
  (.skip))))
 (.keep [0, 1, 2, 8, 9, 11, 14] (.seq (.ops [.op (some 82) (.mov (.t 0)),
   .call (some 83) 6 [.t 82],
   .op (some 84) (.mov (.t 1)),
   .op (some 85) (.mov (.t 2)),
   .call (some 86) 7 [.t 83, .t 84, .t 85],
   .op (some 81) (.mov (.t 86)),
   .op (some 87) (.ext (.t 81) 0),
   .op (some 88) (.ext (.t 81) 1),
   .op (some 16) (.mov (.t 87)),
   .op (some 17) (.mov (.t 88))])
 (.keep [8, 9, 11, 14, 16, 17] (.seq (.seq (.ops [.op (some 89) (.mov (.t 16)),
   .op (some 90) (.mov (.t 8)),
   .call (some 91) 8 [.t 89, .t 90],
   .op (some 92) (.not (.t 91)),
   .op (some 93) (.mov (.t 92)),
   .andor 97 false 4 93 [.op (some 94) (.mov (.t 17)), .op (some 95) (.mov (.t 9)), .op (some 96) (.bin .neq (.t 94) (.t 95))] (.t 96)])
  (.keep [11, 14, 97] (.cond (.t 97)
  (.seq (.ops [.op (some 6) (.mov (.k (.bool false)))])
   (.keep [6] (.ret)))
  (.skip))))
 (.keep [11, 14] (.seq (.ops [.op (some 15) (.mov (.k (.int .i64 1)))])
 (.keep [11, 14, 15] (.seq (.ops [.op (some 98) (.mov (.t 11)),
   .op (some 99) (.mov (.t 15)),
   .call (some 100) 10 [.t 98, .t 99],
   .op (some 15) (.mov (.t 100))])
 (.keep [14, 15] (.seq (.seq (.ops [.op (some 101) (.mov (.t 15)),
   .op (some 102) (.bin .lss (.t 101) (.k (.int .i64 0)))])
  (.keep [14, 15, 102] (.cond (.t 102)
  (.seq (.ops [.op (some 6) (.mov (.k (.bool false)))])
   (.keep [6] (.ret)))
  (.skip))))
 (.keep [14, 15] (.seq (.seq (.ops [.op (some 103) (.mov (.t 15)),
   .op (some 104) (.mov (.t 14)),
   .op (some 105) (.bin .neq (.t 103) (.t 104))])
  (.keep [105] (.cond (.t 105)
  (.seq (.ops [.op (some 6) (.mov (.k (.bool false)))])
   (.keep [6] (.ret)))
  (.skip))))
 (.keep [] (.seq (.ops [.op (some 6) (.mov (.k (.bool true)))])
 (.keep [6] (.ret))))))))))))))))))))))))))))))))))))))))))))))))))
theorem k_c_FnExactSortRows_fits : fitsF Try.prog 3 ⟨106, k_c_FnExactSortRows, [.t 6]⟩ = true := by kernel_rfl
theorem c_FnExactSortRows {rows : List GRow} {column : Int} {down : Bool} (wrows : wfL GRow.wf rows) (wcolumn : wfInt column) (wdown : (fun _ => True) down) : Con Try.prog noMv 3 [.d (.sl 7 (rows.map GRow.row)), int column, bool down] [] (fun r h => r = bool true ∧ h = []) := by
 refine con_of2 k_c_FnExactSortRows_fits rfl fun C hP hmv => ?_
 unfold k_c_FnExactSortRows
 refine cx_seq ?_
 refine cx_ops ?_
 refine ax_q (q_mov rfl) ?_
 refine ax_nil ?_
 refine cx_keep rfl rfl ?_
 refine cx_seq ?_
 refine cx_ops ?_
 refine ax_q (q_mov rfl) ?_
 refine ax_nil ?_
 refine cx_keep rfl rfl ?_
 refine cx_seq ?_
 refine cx_ops ?_
 refine ax_q (q_mov rfl) ?_
 refine ax_q (q_mov rfl) ?_
 have sp0 := szF_spec (1048576) (szL GRow.sz rows)
 refine ax_call rfl (vc_pure0 (c_szRowS (by omega) (by omega) wrows) hP rfl rfl ?_)
 refine ax_q (q_mov rfl) ?_
 refine ax_nil ?_
 refine cx_keep rfl rfl ?_
 refine cx_seq ?_
 refine cx_seq ?_
 refine cx_ops ?_
 refine ax_q (q_mov rfl) ?_
 refine ax_q (q_ibin rfl rfl rfl) ?_
 refine ax_nil ?_
 refine cx_keep rfl rfl ?_
 refine cx_cond rfl (fun h0 => ?_) (fun h0 => ?_)
 ·
  have h0 := dT h0
  refine cx_seq ?_
  refine cx_ops ?_
  refine ax_q (q_mov rfl) ?_
  refine ax_nil ?_
  refine cx_keep rfl rfl ?_
  refine cx_ret (ret0 rfl rfl ?_)
  exact ⟨rfl, rfl⟩
 ·
  have h0 := dF h0
  have lrows0 : rows.length ≤ 1048576 := by
   have := @szL_len _ GRow.sz (rows)
   omega
  have hlen := @srtR_len rows column down
  have ⟨hl0, hsz⟩ := rows_sz (l := rows) (n := 1048576) (by omega)
  refine cx_skip ?_
  refine cx_keep rfl rfl ?_
  refine cx_seq ?_
  refine cx_ops ?_
  refine ax_q (q_mov rfl) ?_
  first | refine ax_call rfl (vc_pure (c_toRowS  ?_) hP rfl ?_) | refine ax_call rfl (vc_lend (c_toRowS  ?_) hP (by repeat (first | exact lal_id _ rfl | exact LAL.nil | refine LAL.cons ?_ ?_ | exact la_id _ rfl | exact LA.lend (lend_whole rfl (by first | (simp; done) | (rw [List.length_map]; rfl))) | refine LA.agg ?_ | refine LA.fn ?_ | refine LA.lend ?_ | exact Lend.d _ | exact Lend.zs _ | exact lend_whole rfl (by first | (simp; done) | (rw [List.length_map]; rfl)) | refine Lend.ptr rfl ?_ | refine Lend.fn ?_ | exact LendL.nil | refine LendL.cons ?_ ?_)) ?_)
  ·
   first | assumption | omega | (simp; done) | (simp; omega)
  rintro r h ⟨rfl, rfl⟩
  refine ⟨fun i => 25 + 200 * i, [0], ⟨rfl, rfl, rfl, rfl, rfl, (by first | exact (fun h => absurd h Bool.false_ne_true) | exact (fun _ => ⟨rfl, (noisl_of (by repeat (first | exact trivial | refine ⟨noisl_map (fun _ => rfl), ?_⟩ | refine ⟨?_, ?_⟩)))⟩))⟩, ?_⟩
  skip
  refine ax_q (q_mov rfl) ?_
  refine ax_q (q_mov rfl) ?_
  first | refine ax_call rfl (vc_pure (c_sSortRows  ?_ ?_) hP rfl ?_) | refine ax_call rfl (vc_lend (c_sSortRows  ?_ ?_) hP (by repeat (first | exact lal_id _ rfl | exact LAL.nil | refine LAL.cons ?_ ?_ | exact la_id _ rfl | exact LA.lend (lend_whole rfl (by first | (simp; done) | (rw [List.length_map]; rfl))) | refine LA.agg ?_ | refine LA.fn ?_ | refine LA.lend ?_ | exact Lend.d _ | exact Lend.zs _ | exact lend_whole rfl (by first | (simp; done) | (rw [List.length_map]; rfl)) | refine Lend.ptr rfl ?_ | refine Lend.fn ?_ | exact LendL.nil | refine LendL.cons ?_ ?_)) ?_)
  ·
   first | assumption | omega | (simp; done) | (simp; omega)
  ·
   first | assumption | omega | (simp; done) | (simp; omega)
  rintro r h ⟨rfl, rfl⟩
  refine ⟨fun i => 28 + 200 * i, [0], ⟨rfl, rfl, rfl, rfl, rfl, (by first | exact (fun h => absurd h Bool.false_ne_true) | exact (fun _ => ⟨rfl, (noisl_of (by repeat (first | exact trivial | refine ⟨noisl_map (fun _ => rfl), ?_⟩ | refine ⟨?_, ?_⟩)))⟩))⟩, ?_⟩
  skip
  refine ax_q (q_mov rfl) ?_
  refine ax_q (q_ext rfl rfl) ?_
  refine ax_q (q_ext rfl rfl) ?_
  refine ax_q (q_mov rfl) ?_
  refine ax_q (q_mov rfl) ?_
  refine ax_nil ?_
  refine cx_keep rfl rfl ?_
  refine cx_seq ?_
  refine cx_ops ?_
  refine ax_q (q_mov rfl) ?_
  first | refine ax_call rfl (vc_pure (c_toRowS  ?_) hP rfl ?_) | refine ax_call rfl (vc_lend (c_toRowS  ?_) hP (by repeat (first | exact lal_id _ rfl | exact LAL.nil | refine LAL.cons ?_ ?_ | exact la_id _ rfl | exact LA.lend (lend_whole rfl (by first | (simp; done) | (rw [List.length_map]; rfl))) | refine LA.agg ?_ | refine LA.fn ?_ | refine LA.lend ?_ | exact Lend.d _ | exact Lend.zs _ | exact lend_whole rfl (by first | (simp; done) | (rw [List.length_map]; rfl)) | refine Lend.ptr rfl ?_ | refine Lend.fn ?_ | exact LendL.nil | refine LendL.cons ?_ ?_)) ?_)
  ·
   first | assumption | omega | (simp; done) | (simp; omega)
  rintro r h ⟨rfl, rfl⟩
  refine ⟨fun i => 32 + 200 * i, [0], ⟨rfl, rfl, rfl, rfl, rfl, (by first | exact (fun h => absurd h Bool.false_ne_true) | exact (fun _ => ⟨rfl, (noisl_of (by repeat (first | exact trivial | refine ⟨noisl_map (fun _ => rfl), ?_⟩ | refine ⟨?_, ?_⟩)))⟩))⟩, ?_⟩
  skip
  refine ax_q (q_mov rfl) ?_
  refine ax_nil ?_
  refine cx_keep rfl rfl ?_
  refine cx_seq ?_
  refine cx_ops ?_
  refine ax_q (q_mov rfl) ?_
  refine ax_q (q_mov rfl) ?_
  refine ax_q (q_mov rfl) ?_
  first | refine ax_call rfl (vc_pure (c_SortRows  ?_ ?_) hP rfl ?_) | refine ax_call rfl (vc_lend (c_SortRows  ?_ ?_) hP (by repeat (first | exact lal_id _ rfl | exact LAL.nil | refine LAL.cons ?_ ?_ | exact la_id _ rfl | exact LA.lend (lend_whole rfl (by first | (simp; done) | (rw [List.length_map]; rfl))) | refine LA.agg ?_ | refine LA.fn ?_ | refine LA.lend ?_ | exact Lend.d _ | exact Lend.zs _ | exact lend_whole rfl (by first | (simp; done) | (rw [List.length_map]; rfl)) | refine Lend.ptr rfl ?_ | refine Lend.fn ?_ | exact LendL.nil | refine LendL.cons ?_ ?_)) ?_)
  ·
   first | assumption | omega | (simp; done) | (simp; omega)
  ·
   first | assumption | omega | (simp; done) | (simp; omega)
  rintro r h ⟨rfl, rfl⟩
  refine ⟨fun i => 37 + 200 * i, [0], ⟨rfl, rfl, rfl, rfl, rfl, (by first | exact (fun h => absurd h Bool.false_ne_true) | exact (fun _ => ⟨rfl, (noisl_of (by repeat (first | exact trivial | refine ⟨noisl_map (fun _ => rfl), ?_⟩ | refine ⟨?_, ?_⟩)))⟩))⟩, ?_⟩
  skip
  refine ax_q (q_mov rfl) ?_
  refine ax_q (q_ext rfl rfl) ?_
  refine ax_q (q_ext rfl rfl) ?_
  refine ax_q (q_mov rfl) ?_
  refine ax_q (q_mov rfl) ?_
  refine ax_nil ?_
  refine cx_keep rfl rfl ?_
  refine cx_seq ?_
  refine cx_seq ?_
  refine cx_ops ?_
  refine ax_q (q_mov rfl) ?_
  refine ax_q (q_mov rfl) ?_
  first | refine ax_call rfl (vc_pure0 (c_eqRowS  ?_) hP rfl rfl ?_) | refine ax_call rfl (vc_lend0 (c_eqRowS  ?_) hP (by repeat (first | exact lal_id _ rfl | exact LAL.nil | refine LAL.cons ?_ ?_ | exact la_id _ rfl | exact LA.lend (lend_whole rfl (by first | (simp; done) | (rw [List.length_map]; rfl))) | refine LA.agg ?_ | refine LA.fn ?_ | refine LA.lend ?_ | exact Lend.d _ | exact Lend.zs _ | exact lend_whole rfl (by first | (simp; done) | (rw [List.length_map]; rfl)) | refine Lend.ptr rfl ?_ | refine Lend.fn ?_ | exact LendL.nil | refine LendL.cons ?_ ?_)) rfl rfl ?_)
  ·
   first | assumption | omega | (simp; done) | (simp; omega)
  refine ax_q (q_not rfl) ?_
  refine ax_q (q_mov rfl) ?_
  apply ax_or rfl rfl
  ·
   intro g
   have g := bF g
   refine ax_q (q_mov rfl) ?_
   refine ax_q (q_mov rfl) ?_
   refine ax_q (q_ibin rfl rfl rfl) ?_
   exact ax_nil ⟨rfl, by repeat (first | exact trivial | refine ⟨rfl, ?_⟩ | refine ⟨?_, ?_⟩)⟩
  refine ax_nil ?_
  refine cx_keep rfl rfl ?_
  refine cx_cond rfl (fun h1 => ?_) (fun h1 => ?_)
  ·
   have h1 := (fun h => (or_T h).imp bT nT) h1
   first | exact absurd rfl h1 | (exfalso; omega) | exact absurd h1 (by simp [eqb_rfl] <;> omega)
  ·
   have h1 := (fun h => And.intro (bF (or_F h).1) (nF (or_F h).2)) h1
   refine cx_skip ?_
   refine cx_keep rfl rfl ?_
   refine cx_seq ?_
   refine cx_seq ?_
   refine cx_ops ?_
   refine ax_q (q_mov rfl) ?_
   refine ax_q (q_mov rfl) ?_
   first | refine ax_call rfl (vc_pure (c_toRowS  ?_) hP rfl ?_) | refine ax_call rfl (vc_lend (c_toRowS  ?_) hP (by repeat (first | exact lal_id _ rfl | exact LAL.nil | refine LAL.cons ?_ ?_ | exact la_id _ rfl | exact LA.lend (lend_whole rfl (by first | (simp; done) | (rw [List.length_map]; rfl))) | refine LA.agg ?_ | refine LA.fn ?_ | refine LA.lend ?_ | exact Lend.d _ | exact Lend.zs _ | exact lend_whole rfl (by first | (simp; done) | (rw [List.length_map]; rfl)) | refine Lend.ptr rfl ?_ | refine Lend.fn ?_ | exact LendL.nil | refine LendL.cons ?_ ?_)) ?_)
   ·
    first | assumption | omega | (simp; done) | (simp; omega)
   rintro r h ⟨rfl, rfl⟩
   refine ⟨fun i => 51 + 200 * i, [0], ⟨rfl, rfl, rfl, rfl, rfl, (by first | exact (fun h => absurd h Bool.false_ne_true) | exact (fun _ => ⟨rfl, (noisl_of (by repeat (first | exact trivial | refine ⟨noisl_map (fun _ => rfl), ?_⟩ | refine ⟨?_, ?_⟩)))⟩))⟩, ?_⟩
   skip
   first | refine ax_call rfl (vc_pure0 (c_eqRowS  ?_) hP rfl rfl ?_) | refine ax_call rfl (vc_lend0 (c_eqRowS  ?_) hP (by repeat (first | exact lal_id _ rfl | exact LAL.nil | refine LAL.cons ?_ ?_ | exact la_id _ rfl | exact LA.lend (lend_whole rfl (by first | (simp; done) | (rw [List.length_map]; rfl))) | refine LA.agg ?_ | refine LA.fn ?_ | refine LA.lend ?_ | exact Lend.d _ | exact Lend.zs _ | exact lend_whole rfl (by first | (simp; done) | (rw [List.length_map]; rfl)) | refine Lend.ptr rfl ?_ | refine Lend.fn ?_ | exact LendL.nil | refine LendL.cons ?_ ?_)) rfl rfl ?_)
   ·
    first | assumption | omega | (simp; done) | (simp; omega)
   refine ax_q (q_not rfl) ?_
   refine ax_nil ?_
   refine cx_keep rfl rfl ?_
   refine cx_cond rfl (fun h2 => ?_) (fun h2 => ?_)
   ·
    have h2 := bT h2
    first | exact absurd rfl h2 | (exfalso; omega) | exact absurd h2 (by simp [eqb_rfl] <;> omega)
   ·
    have h2 := bF h2
    refine cx_skip ?_
    refine cx_keep rfl rfl ?_
    refine cx_seq ?_
    refine cx_ops ?_
    refine ax_q (q_mov rfl) ?_
    refine ax_nil ?_
    refine cx_keep rfl rfl ?_
    refine cx_seq ?_
    refine cx_ops ?_
    refine ax_q (q_mov rfl) ?_
    refine ax_q (q_mov rfl) ?_
    refine ax_call rfl (vcall_own (c_markRowS (xs := rows) (k0 := 1) (by show _ ≤ _; omega)) hP hmv false (fun e => 32) [1000] ⟨rfl, rfl, rfl, rfl, (by repeat (first | exact trivial | refine ⟨rfl, ?_⟩)), rfl, rfl, rfl⟩ (.pass rfl rfl (.pass rfl rfl .nil)) ?_)
    rintro r h ⟨rfl, rfl⟩
    refine ⟨fun e => 32, [], ⟨rfl, rfl, rfl, rfl, (mem1 rfl), rfl, rfl, fun h => by cases h⟩, ?_⟩
    refine ax_q (q_mov rfl) ?_
    refine ax_nil ?_
    refine cx_keep rfl rfl ?_
    refine cx_seq ?_
    refine cx_seq ?_
    refine cx_ops ?_
    refine ax_q (q_mov rfl) ?_
    refine ax_q (q_ibin rfl rfl rfl) ?_
    refine ax_q (q_mov rfl) ?_
    apply ax_or rfl rfl
    ·
     intro g
     have g := dF g
     refine ax_q (q_mov rfl) ?_
     refine ax_q (q_mov rfl) ?_
     first | refine ax_call rfl (vc_pure0 (c_eqRowS  ?_) hP rfl rfl ?_) | refine ax_call rfl (vc_lend0 (c_eqRowS  ?_) hP (by repeat (first | exact lal_id _ rfl | exact LAL.nil | refine LAL.cons ?_ ?_ | exact la_id _ rfl | exact LA.lend (lend_whole rfl (by first | (simp; done) | (rw [List.length_map]; rfl))) | refine LA.agg ?_ | refine LA.fn ?_ | refine LA.lend ?_ | exact Lend.d _ | exact Lend.zs _ | exact lend_whole rfl (by first | (simp; done) | (rw [List.length_map]; rfl)) | refine Lend.ptr rfl ?_ | refine Lend.fn ?_ | exact LendL.nil | refine LendL.cons ?_ ?_)) rfl rfl ?_)
     ·
      first | assumption | omega | (simp; done) | (simp; omega)
     refine ax_q (q_not rfl) ?_
     exact ax_nil ⟨rfl, by repeat (first | exact trivial | refine ⟨rfl, ?_⟩ | refine ⟨?_, ?_⟩)⟩
    refine ax_q (q_mov rfl) ?_
    apply ax_or rfl rfl
    ·
     intro g
     have g := (fun h => And.intro (dF (or_F h).1) (bF (or_F h).2)) g
     refine ax_q (q_mov rfl) ?_
     refine ax_q (q_mov rfl) ?_
     refine ax_q (q_ibin rfl rfl rfl) ?_
     exact ax_nil ⟨rfl, by repeat (first | exact trivial | refine ⟨rfl, ?_⟩ | refine ⟨?_, ?_⟩)⟩
    refine ax_nil ?_
    refine cx_keep rfl rfl ?_
    refine cx_cond rfl (fun h3 => ?_) (fun h3 => ?_)
    ·
     have h3 := (fun h => (or_T h).imp (fun h => (or_T h).imp dT bT) nT) h3
     first | exact absurd rfl h3 | (exfalso; omega) | exact absurd h3 (by simp [eqb_rfl] <;> omega)
    ·
     have h3 := (fun h => And.intro ((fun h => And.intro (dF (or_F h).1) (bF (or_F h).2)) (or_F h).1) (nF (or_F h).2)) h3
     refine cx_skip ?_
     refine cx_keep rfl rfl ?_
     refine cx_seq ?_
     refine cx_ops ?_
     refine ax_q (q_mov rfl) ?_
     refine ax_nil ?_
     refine cx_keep rfl rfl ?_
     refine cx_seq ?_
     refine cx_ops ?_
     refine ax_q (q_mov rfl) ?_
     refine ax_q (q_mov rfl) ?_
     refine ax_call rfl (vcall_own (c_markRowS (xs := (srtRF rows column down).1) (k0 := 1) (by show _ ≤ _; omega)) hP hmv false (fun e => 37) [1000] ⟨rfl, rfl, rfl, rfl, (by repeat (first | exact trivial | refine ⟨rfl, ?_⟩)), rfl, rfl, rfl⟩ (.pass rfl rfl (.pass rfl rfl .nil)) ?_)
     rintro r h ⟨rfl, rfl⟩
     refine ⟨fun e => 37, [], ⟨rfl, rfl, rfl, rfl, (mem1 rfl), rfl, rfl, fun h => by cases h⟩, ?_⟩
     refine ax_q (q_mov rfl) ?_
     refine ax_nil ?_
     refine cx_keep rfl rfl ?_
     refine cx_seq ?_
     refine cx_ops ?_
     refine ax_q (q_mov rfl) ?_
     refine ax_nil ?_
     refine cx_keep rfl rfl ?_
     refine cx_seq ?_
     refine cx_ops ?_
     refine ax_q (q_mov rfl) ?_
     refine ax_q (q_mov rfl) ?_
     refine ax_call rfl (vc_lend0 (c_heldRowS (xs := (srtRF rows column down).1) (k0 := 1) (by show _ ≤ _; omega)) hP (by repeat (first | exact lal_id _ rfl | exact LAL.nil | refine LAL.cons ?_ ?_ | exact la_id _ rfl | exact LA.lend (lend_whole rfl (by simp [markL_len])) | refine LA.agg ?_ | refine LA.fn ?_ | refine LA.lend ?_ | exact Lend.d _ | exact Lend.zs _ | exact lend_whole rfl (by simp [markL_len]) | refine Lend.ptr rfl ?_ | refine Lend.fn ?_ | exact LendL.nil | refine LendL.cons ?_ ?_)) rfl rfl ?_)
     refine ax_q (q_mov rfl) ?_
     refine ax_nil ?_
     refine cx_keep rfl rfl ?_
     refine cx_seq ?_
     refine cx_seq ?_
     refine cx_ops ?_
     refine ax_q (q_mov rfl) ?_
     refine ax_q (q_ibin rfl rfl rfl) ?_
     refine ax_nil ?_
     refine cx_keep rfl rfl ?_
     refine cx_cond rfl (fun h4 => ?_) (fun h4 => ?_)
     ·
      have h4 := dT h4
      first | exact absurd rfl h4 | (exfalso; omega) | exact absurd h4 (by simp [eqb_rfl] <;> omega)
     ·
      have h4 := dF h4
      refine cx_skip ?_
      refine cx_keep rfl rfl ?_
      refine cx_seq ?_
      refine cx_seq ?_
      refine cx_ops ?_
      refine ax_q (q_mov rfl) ?_
      refine ax_q (q_mov rfl) ?_
      refine ax_q (q_ibin rfl rfl rfl) ?_
      refine ax_nil ?_
      refine cx_keep rfl rfl ?_
      refine cx_cond rfl (fun h5 => ?_) (fun h5 => ?_)
      ·
       have h5 := nT h5
       first | exact absurd rfl h5 | (exfalso; omega) | exact absurd h5 (by simp [eqb_rfl] <;> omega)
      ·
       have h5 := nF h5
       refine cx_skip ?_
       refine cx_keep rfl rfl ?_
       refine cx_seq ?_
       refine cx_ops ?_
       refine ax_q (q_mov rfl) ?_
       first | refine ax_call rfl (vc_pure (c_toRowS  ?_) hP rfl ?_) | refine ax_call rfl (vc_lend (c_toRowS  ?_) hP (by repeat (first | exact lal_id _ rfl | exact LAL.nil | refine LAL.cons ?_ ?_ | exact la_id _ rfl | exact LA.lend (lend_whole rfl (by first | (simp; done) | (rw [List.length_map]; rfl))) | refine LA.agg ?_ | refine LA.fn ?_ | refine LA.lend ?_ | exact Lend.d _ | exact Lend.zs _ | exact lend_whole rfl (by first | (simp; done) | (rw [List.length_map]; rfl)) | refine Lend.ptr rfl ?_ | refine Lend.fn ?_ | exact LendL.nil | refine LendL.cons ?_ ?_)) ?_)
       ·
        first | assumption | omega | (simp; done) | (simp; omega)
       rintro r h ⟨rfl, rfl⟩
       refine ⟨fun i => 83 + 200 * i, [0], ⟨rfl, rfl, rfl, rfl, rfl, (by first | exact (fun h => absurd h Bool.false_ne_true) | exact (fun _ => ⟨rfl, (noisl_of (by repeat (first | exact trivial | refine ⟨noisl_map (fun _ => rfl), ?_⟩ | refine ⟨?_, ?_⟩)))⟩))⟩, ?_⟩
       skip
       refine ax_q (q_mov rfl) ?_
       refine ax_q (q_mov rfl) ?_
       first | refine ax_call rfl (vc_pure (c_SortRows  ?_ ?_) hP rfl ?_) | refine ax_call rfl (vc_lend (c_SortRows  ?_ ?_) hP (by repeat (first | exact lal_id _ rfl | exact LAL.nil | refine LAL.cons ?_ ?_ | exact la_id _ rfl | exact LA.lend (lend_whole rfl (by first | (simp; done) | (rw [List.length_map]; rfl))) | refine LA.agg ?_ | refine LA.fn ?_ | refine LA.lend ?_ | exact Lend.d _ | exact Lend.zs _ | exact lend_whole rfl (by first | (simp; done) | (rw [List.length_map]; rfl)) | refine Lend.ptr rfl ?_ | refine Lend.fn ?_ | exact LendL.nil | refine LendL.cons ?_ ?_)) ?_)
       ·
        first | assumption | omega | (simp; done) | (simp; omega)
       ·
        first | assumption | omega | (simp; done) | (simp; omega)
       rintro r h ⟨rfl, rfl⟩
       refine ⟨fun i => 86 + 200 * i, [0], ⟨rfl, rfl, rfl, rfl, rfl, (by first | exact (fun h => absurd h Bool.false_ne_true) | exact (fun _ => ⟨rfl, (noisl_of (by repeat (first | exact trivial | refine ⟨noisl_map (fun _ => rfl), ?_⟩ | refine ⟨?_, ?_⟩)))⟩))⟩, ?_⟩
       skip
       refine ax_q (q_mov rfl) ?_
       refine ax_q (q_ext rfl rfl) ?_
       refine ax_q (q_ext rfl rfl) ?_
       refine ax_q (q_mov rfl) ?_
       refine ax_q (q_mov rfl) ?_
       refine ax_nil ?_
       refine cx_keep rfl rfl ?_
       refine cx_seq ?_
       refine cx_seq ?_
       refine cx_ops ?_
       refine ax_q (q_mov rfl) ?_
       refine ax_q (q_mov rfl) ?_
       first | refine ax_call rfl (vc_pure0 (c_eqRowS  ?_) hP rfl rfl ?_) | refine ax_call rfl (vc_lend0 (c_eqRowS  ?_) hP (by repeat (first | exact lal_id _ rfl | exact LAL.nil | refine LAL.cons ?_ ?_ | exact la_id _ rfl | exact LA.lend (lend_whole rfl (by first | (simp; done) | (rw [List.length_map]; rfl))) | refine LA.agg ?_ | refine LA.fn ?_ | refine LA.lend ?_ | exact Lend.d _ | exact Lend.zs _ | exact lend_whole rfl (by first | (simp; done) | (rw [List.length_map]; rfl)) | refine Lend.ptr rfl ?_ | refine Lend.fn ?_ | exact LendL.nil | refine LendL.cons ?_ ?_)) rfl rfl ?_)
       ·
        first | assumption | omega | (simp; done) | (simp; omega)
       refine ax_q (q_not rfl) ?_
       refine ax_q (q_mov rfl) ?_
       apply ax_or rfl rfl
       ·
        intro g
        have g := bF g
        refine ax_q (q_mov rfl) ?_
        refine ax_q (q_mov rfl) ?_
        refine ax_q (q_ibin rfl rfl rfl) ?_
        exact ax_nil ⟨rfl, by repeat (first | exact trivial | refine ⟨rfl, ?_⟩ | refine ⟨?_, ?_⟩)⟩
       refine ax_nil ?_
       refine cx_keep rfl rfl ?_
       refine cx_cond rfl (fun h6 => ?_) (fun h6 => ?_)
       ·
        have h6 := (fun h => (or_T h).imp bT nT) h6
        first | exact absurd rfl h6 | (exfalso; omega) | exact absurd h6 (by simp [eqb_rfl] <;> omega)
       ·
        have h6 := (fun h => And.intro (bF (or_F h).1) (nF (or_F h).2)) h6
        refine cx_skip ?_
        refine cx_keep rfl rfl ?_
        refine cx_seq ?_
        refine cx_ops ?_
        refine ax_q (q_mov rfl) ?_
        refine ax_nil ?_
        refine cx_keep rfl rfl ?_
        refine cx_seq ?_
        refine cx_ops ?_
        refine ax_q (q_mov rfl) ?_
        refine ax_q (q_mov rfl) ?_
        refine ax_call rfl (vc_lend0 (c_heldRowS (xs := (srtRF rows column down).1) (k0 := 1) (by show _ ≤ _; omega)) hP (by repeat (first | exact lal_id _ rfl | exact LAL.nil | refine LAL.cons ?_ ?_ | exact la_id _ rfl | exact LA.lend (lend_whole rfl (by simp [markL_len])) | refine LA.agg ?_ | refine LA.fn ?_ | refine LA.lend ?_ | exact Lend.d _ | exact Lend.zs _ | exact lend_whole rfl (by simp [markL_len]) | refine Lend.ptr rfl ?_ | refine Lend.fn ?_ | exact LendL.nil | refine LendL.cons ?_ ?_)) rfl rfl ?_)
        refine ax_q (q_mov rfl) ?_
        refine ax_nil ?_
        refine cx_keep rfl rfl ?_
        refine cx_seq ?_
        refine cx_seq ?_
        refine cx_ops ?_
        refine ax_q (q_mov rfl) ?_
        refine ax_q (q_ibin rfl rfl rfl) ?_
        refine ax_nil ?_
        refine cx_keep rfl rfl ?_
        refine cx_cond rfl (fun h7 => ?_) (fun h7 => ?_)
        ·
         have h7 := dT h7
         first | exact absurd rfl h7 | (exfalso; omega) | exact absurd h7 (by simp [eqb_rfl] <;> omega)
        ·
         have h7 := dF h7
         refine cx_skip ?_
         refine cx_keep rfl rfl ?_
         refine cx_seq ?_
         refine cx_seq ?_
         refine cx_ops ?_
         refine ax_q (q_mov rfl) ?_
         refine ax_q (q_mov rfl) ?_
         refine ax_q (q_ibin rfl rfl rfl) ?_
         refine ax_nil ?_
         refine cx_keep rfl rfl ?_
         refine cx_cond rfl (fun h8 => ?_) (fun h8 => ?_)
         ·
          have h8 := nT h8
          first | exact absurd rfl h8 | (exfalso; omega) | exact absurd h8 (by simp [eqb_rfl] <;> omega)
         ·
          have h8 := nF h8
          refine cx_skip ?_
          refine cx_keep rfl rfl ?_
          refine cx_seq ?_
          refine cx_ops ?_
          refine ax_q (q_mov rfl) ?_
          refine ax_nil ?_
          refine cx_keep rfl rfl ?_
          refine cx_ret (ret0 rfl rfl ?_)
          exact ⟨rfl, rfl⟩

theorem own : ownKnob Try.prog.godebug = none := by kernel_rfl
theorem laid : laidOutB Try.prog = true := by kernel_rfl
theorem closedTs : closedT Try.prog [3, 4, 9, 22, 33, 35] = true := by kernel_rfl
theorem con (rows : List (List D)) (h : HasAll Try.prog Try.f3.params.toList rows) : Con Try.prog noMv 3 (argsAV Try.prog Try.f3.params.toList rows) [] (fun r h => r = AM.bool true ∧ h = []) := by
  rw [Try.params3] at h ⊢
  obtain ⟨d0, r0, rfl, h0, h⟩ := h
  obtain ⟨d1, r1, rfl, h1, h⟩ := h
  obtain ⟨d2, r2, rfl, h2, h⟩ := h
  obtain rfl := h
  obtain ⟨a0, rfl, w0⟩ := (dec_slice (sz := 7) Try.underlying22 (by kernel_rfl) (GRow.dec Try.underlying35 rfl (dec_int Try.underlying3) (GValue.dec Try.underlying33 rfl (dec_int Try.underlying3) (dec_int Try.underlying3) (dec_str Try.underlying9)) (GValue.dec Try.underlying33 rfl (dec_int Try.underlying3) (dec_int Try.underlying3) (dec_str Try.underlying9)))) h0
  obtain ⟨a1, rfl, w1⟩ := (dec_int Try.underlying3) h1
  obtain ⟨a2, rfl, w2⟩ := (dec_bool Try.underlying4) h2
  have e : argsAV Try.prog [22, 3, 4] [[.sl 7 (a0.map GRow.row)], intRow a1, boolRow a2] = [.d (.sl 7 (a0.map GRow.row)), int a1, bool a2] := by
    first | (simp only [argsAV, argAV, Try.underlying22, Try.underlying3, Try.underlying4]; done) | (simp only [argsAV, argAV, Try.underlying22, Try.underlying3, Try.underlying4]; rfl)
  show Con Try.prog noMv 3 (argsAV Try.prog [22, 3, 4] [[.sl 7 (a0.map GRow.row)], intRow a1, boolRow a2]) [] _
  rw [e]
  exact c_FnExactSortRows w0 w1 w2
set_option maxRecDepth 100000 in
theorem lifted (os : Os) (started : os.Started) (H : Type) (enc : TypeId × Value → H) :
    ReturnsInHanded {} Try.checked os 3 .any (Rows.fnExactSortRowsSpec.pre6 enc Try.prog Try.f3 Rows.fnExactSortRowsRow.domain false) (Rows.fnExactSortRowsSpec.post enc Try.prog Try.f3 false true false false) := by
  refine returnsInHanded_of_change (C := Try.checked) own started (by kernel_rfl) Try.func3
    (ChangeSpec.witness6 (enc := enc) (C := Try.checked) false ⟨#[], #[.slice none 0 0, .int .i64 0, .bool false], []⟩ 8 (by kernel_rfl) (by kernel_rfl) (by kernel_rfl) (by kernel_rfl)) ?_
  intro W base args ds gs before hval hW hcnd _
  refine law_contract closedTs laid (by kernel_rfl) rfl rfl Try.underlying4 con (fun hl => ?_) hval hW (gok_none (by kernel_rfl))
  match ds, hl with
  | [x0, x1, x2], _ => rfl
theorem over : Rows.fnExactSortRowsRow.holds Try.pinned (OpenSpec.ofChange Rows.fnExactSortRowsSpec) :=
  OpenClaim.holds_of_wide 3 Try.f3 rfl rfl rfl rfl rfl rfl rfl ⟨rfl, rfl, rfl, rfl, rfl⟩ rfl rfl rfl rfl rfl (by kernel_rfl) Try.func3 (by kernel_rfl)
    (of_decide_eq_true (by kernel_rfl)) (by unfold Func.isWrapper; first | (rw [if_pos (by decide +kernel)]; kernel_rfl) | (rw [if_neg (by decide +kernel)]; exact ⟨rfl, rfl⟩))
    (fun os started H enc _ => lifted os started H enc)
theorem proved : Rows.FnExactSortRowsSaid := over
end fnExactSortRows
end Go.Proofs.Ytniiofjakmkdiaa
#print axioms Go.Proofs.Ytniiofjakmkdiaa.fnExactSortRows.proved
