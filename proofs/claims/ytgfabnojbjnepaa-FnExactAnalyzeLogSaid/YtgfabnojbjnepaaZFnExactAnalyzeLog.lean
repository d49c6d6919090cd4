/- The law FnExactAnalyzeLog of the given program returns true for all arguments, and its arguments read behind the call as they read before: the statement FnExactAnalyzeLogSaid, with no condition. -/
import Derived.Test.YtgfabnojbjnepaaW1
import Derived.Test.YtgfabnojbjnepaaRows
namespace Go.Proofs.Ytgfabnojbjnepaa
open Go Go.AM Go.ChangeShapes Go.RowKit
set_option linter.unusedVariables false
set_option linter.unusedSimpArgs false
namespace fnExactAnalyzeLog
set_option maxRecDepth 10000
/- loop.example/g00332/laws.FnExactAnalyzeLog -/
def k_c_FnExactAnalyzeLog : XCode :=
 .seq (.ops [.op (some 2) (.mov (.k (.bool false)))])
 (.keep [0] (.seq (.ops [.op (some 3) (.mov (.k (.int .i64 1048576)))])
 (.keep [0, 3] (.seq (.ops [.op (some 17) (.mov (.t 0)),
   .op (some 18) (.mov (.t 3)),
   .call (some 19) 4 [.t 17, .t 18],
   .op (some 3) (.mov (.t 19))])
 (.keep [0, 3] (.seq (.seq (.ops [.op (some 20) (.mov (.t 3)),
   .op (some 21) (.bin .lss (.t 20) (.k (.int .i64 0)))])
  (.keep [0, 21] (.cond (.t 21)
  (.seq (.ops [.op (some 2) (.mov (.k (.bool true)))])
   (.keep [2] (.ret)))
  (.skip))))
 (.keep [0] (.seq (.ops [.op (some 23) (.mov (.t 0)),
   .call (some 24) 6 [.t 23],
   .call (some 25) 5 [.t 24],
   .op (some 22) (.mov (.t 25)),
   .op (some 26) (.ext (.t 22) 0),
   .op (some 27) (.ext (.t 22) 1),
   .op (some 28) (.ext (.t 22) 2),
   .op (some 4) (.mov (.t 26)),
   .op (some 5) (.mov (.t 27)),
   .op (some 6) (.mov (.t 28))])
 (.keep [0, 4, 5, 6] (.seq (.ops [.op (some 29) (.mov (.t 0)),
   .call (some 30) 6 [.t 29],
   .op (some 7) (.mov (.t 30))])
 (.keep [0, 4, 5, 6, 7] (.seq (.ops [.op (some 32) (.mov (.t 7)),
   .call (some 33) 7 [.t 32],
   .op (some 31) (.mov (.t 33)),
   .op (some 34) (.ext (.t 31) 0),
   .op (some 35) (.ext (.t 31) 1),
   .op (some 36) (.ext (.t 31) 2),
   .op (some 8) (.mov (.t 34)),
   .op (some 9) (.mov (.t 35)),
   .op (some 10) (.mov (.t 36))])
 (.keep [0, 4, 5, 6, 7, 8, 9, 10] (.seq (.seq (.ops [.op (some 37) (.mov (.t 8)),
   .op (some 38) (.mov (.t 4)),
   .call (some 39) 8 [.t 37, .t 38],
   .op (some 40) (.not (.t 39)),
   .op (some 41) (.mov (.t 40)),
   .andor 46 false 4 41 [.op (some 42) (.mov (.t 9)), .op (some 43) (.mov (.t 5)), .call (some 44) 9 [.t 42, .t 43], .op (some 45) (.not (.t 44))] (.t 45),
   .op (some 47) (.mov (.t 46)),
   .andor 51 false 10 47 [.op (some 48) (.mov (.t 10)), .op (some 49) (.mov (.t 6)), .op (some 50) (.bin .neq (.t 48) (.t 49))] (.t 50)])
  (.keep [0, 4, 5, 6, 7, 8, 9, 10, 51] (.cond (.t 51)
  (.seq (.ops [.op (some 2) (.mov (.k (.bool false)))])
   (.keep [2] (.ret)))
  (.skip))))
 (.keep [0, 4, 5, 6, 7, 8, 9, 10] (.seq (.seq (.ops [.op (some 52) (.mov (.t 7)),
   .op (some 53) (.mov (.t 0)),
   .call (some 54) 6 [.t 53],
   .call (some 55) 10 [.t 52, .t 54],
   .op (some 56) (.not (.t 55))])
  (.keep [0, 4, 5, 6, 7, 8, 9, 10, 56] (.cond (.t 56)
  (.seq (.ops [.op (some 2) (.mov (.k (.bool false)))])
   (.keep [2] (.ret)))
  (.skip))))
 (.keep [0, 4, 5, 6, 7, 8, 9, 10] (.seq (.ops [.op (some 11) (.mov (.k (.int .i64 1)))])
 (.keep [0, 4, 5, 6, 7, 8, 9, 10, 11] (.seq (.ops [.op (some 57) (.mov (.t 7)),
   .op (some 58) (.mov (.t 11)),
   .call (some 59) 11 [.t 57, .t 58],
   .op (some 11) (.mov (.t 59))])
 (.keep [0, 4, 5, 6, 8, 9, 10, 11] (.seq (.seq (.ops [.op (some 60) (.mov (.t 11)),
   .op (some 61) (.bin .lss (.t 60) (.k (.int .i64 0))),
   .op (some 62) (.mov (.t 61)),
   .andor 67 false 2 62 [.op (some 63) (.mov (.t 8)), .op (some 64) (.mov (.t 4)), .call (some 65) 8 [.t 63, .t 64], .op (some 66) (.not (.t 65))] (.t 66),
   .op (some 68) (.mov (.t 67)),
   .andor 73 false 8 68 [.op (some 69) (.mov (.t 9)), .op (some 70) (.mov (.t 5)), .call (some 71) 9 [.t 69, .t 70], .op (some 72) (.not (.t 71))] (.t 72),
   .op (some 74) (.mov (.t 73)),
   .andor 78 false 14 74 [.op (some 75) (.mov (.t 10)), .op (some 76) (.mov (.t 6)), .op (some 77) (.bin .neq (.t 75) (.t 76))] (.t 77)])
  (.keep [0, 4, 5, 6, 8, 9, 78] (.cond (.t 78)
  (.seq (.ops [.op (some 2) (.mov (.k (.bool false)))])
   (.keep [2] (.ret)))
  (.skip))))
 (.keep [0, 4, 5, 6, 8, 9] (.seq (.ops [.op (some 12) (.mov (.k (.int .i64 1)))])
 (.keep [0, 4, 5, 6, 8, 9, 12] (.seq (.ops [.op (some 79) (.mov (.t 8)),
   .op (some 80) (.mov (.t 12)),
   .call (some 81) 12 [.t 79, .t 80],
   .op (some 12) (.mov (.t 81))])
 (.keep [0, 4, 5, 6, 8, 9, 12] (.seq (.ops [.op (some 82) (.mov (.t 9)),
   .op (some 83) (.mov (.t 12)),
   .call (some 84) 13 [.t 82, .t 83],
   .op (some 12) (.mov (.t 84))])
 (.keep [0, 4, 5, 6, 8, 9, 12] (.seq (.ops [.op (some 13) (.mov (.k (.int .i64 1)))])
 (.keep [0, 4, 5, 6, 8, 9, 12, 13] (.seq (.ops [.op (some 85) (.mov (.t 8)),
   .op (some 86) (.mov (.t 13)),
   .call (some 87) 14 [.t 85, .t 86],
   .op (some 13) (.mov (.t 87))])
 (.keep [0, 4, 5, 6, 8, 9, 12, 13] (.seq (.seq (.ops [.op (some 88) (.mov (.t 13)),
   .op (some 89) (.bin .lss (.t 88) (.k (.int .i64 0)))])
  (.keep [0, 4, 5, 6, 8, 9, 12, 13, 89] (.cond (.t 89)
  (.seq (.ops [.op (some 2) (.mov (.k (.bool false)))])
   (.keep [2] (.ret)))
  (.skip))))
 (.keep [0, 4, 5, 6, 8, 9, 12, 13] (.seq (.ops [.op (some 90) (.mov (.t 9)),
   .op (some 91) (.mov (.t 13)),
   .call (some 92) 15 [.t 90, .t 91],
   .op (some 13) (.mov (.t 92))])
 (.keep [0, 4, 5, 6, 8, 9, 12, 13] (.seq (.seq (.ops [.op (some 93) (.mov (.t 13)),
   .op (some 94) (.bin .lss (.t 93) (.k (.int .i64 0)))])
  (.keep [0, 4, 5, 6, 8, 9, 12, 13, 94] (.cond (.t 94)
  (.seq (.ops [.op (some 2) (.mov (.k (.bool false)))])
   (.keep [2] (.ret)))
  (.skip))))
 (.keep [0, 4, 5, 6, 8, 9, 12, 13] (.seq (.seq (.ops [.op (some 95) (.mov (.t 13)),
   .op (some 96) (.mov (.t 12)),
   .op (some 97) (.bin .neq (.t 95) (.t 96))])
  (.keep [0, 4, 5, 6, 8, 9, 12, 97] (.cond (.t 97)
  (.seq (.ops [.op (some 2) (.mov (.k (.bool false)))])
   (.keep [2] (.ret)))
  (.skip))))
 (.keep [0, 4, 5, 6, 8, 9, 12] (.seq (.ops [.op (some 99) (.mov (.t 0)),
   .call (some 100) 6 [.t 99],
   .call (some 101) 7 [.t 100],
   .op (some 98) (.mov (.t 101)),
   .op (some 102) (.ext (.t 98) 0),
   .op (some 103) (.ext (.t 98) 1),
   .op (some 104) (.ext (.t 98) 2),
   .op (some 14) (.mov (.t 102)),
   .op (some 15) (.mov (.t 103)),
   .op (some 16) (.mov (.t 104))])
 (.keep [4, 5, 6, 8, 9, 12, 14, 15, 16] (.seq (.seq (.ops [.op (some 105) (.mov (.t 14)),
   .op (some 106) (.mov (.t 4)),
   .call (some 107) 8 [.t 105, .t 106],
   .op (some 108) (.not (.t 107)),
   .op (some 109) (.mov (.t 108)),
   .andor 114 false 4 109 [.op (some 110) (.mov (.t 15)), .op (some 111) (.mov (.t 5)), .call (some 112) 9 [.t 110, .t 111], .op (some 113) (.not (.t 112))] (.t 113),
   .op (some 115) (.mov (.t 114)),
   .andor 119 false 10 115 [.op (some 116) (.mov (.t 16)), .op (some 117) (.mov (.t 6)), .op (some 118) (.bin .neq (.t 116) (.t 117))] (.t 118)])
  (.keep [8, 9, 12, 119] (.cond (.t 119)
  (.seq (.ops [.op (some 2) (.mov (.k (.bool false)))])
   (.keep [2] (.ret)))
  (.skip))))
 (.keep [8, 9, 12] (.seq (.ops [.op (some 13) (.mov (.k (.int .i64 1)))])
 (.keep [8, 9, 12, 13] (.seq (.ops [.op (some 120) (.mov (.t 8)),
   .op (some 121) (.mov (.t 13)),
   .call (some 122) 14 [.t 120, .t 121],
   .op (some 13) (.mov (.t 122))])
 (.keep [9, 12, 13] (.seq (.seq (.ops [.op (some 123) (.mov (.t 13)),
   .op (some 124) (.bin .lss (.t 123) (.k (.int .i64 0)))])
  (.keep [9, 12, 13, 124] (.cond (.t 124)
  (.seq (.ops [.op (some 2) (.mov (.k (.bool false)))])
   (.keep [2] (.ret)))
  (.skip))))
 (.keep [9, 12, 13] (.seq (.ops [.op (some 125) (.mov (.t 9)),
   .op (some 126) (.mov (.t 13)),
   .call (some 127) 15 [.t 125, .t 126],
   .op (some 13) (.mov (.t 127))])
 (.keep [12, 13] (.seq (.seq (.ops [.op (some 128) (.mov (.t 13)),
   .op (some 129) (.bin .lss (.t 128) (.k (.int .i64 0)))])
  (.keep [12, 13, 129] (.cond (.t 129)
  (.seq (.ops [.op (some 2) (.mov (.k (.bool false)))])
   (.keep [2] (.ret)))
  (.skip))))
 (.keep [12, 13] (.seq (.seq (.ops [.op (some 130) (.mov (.t 13)),
   .op (some 131) (.mov (.t 12)),
   .op (some 132) (.bin .neq (.t 130) (.t 131))])
  (.keep [132] (.cond (.t 132)
  (.seq (.ops [.op (some 2) (.mov (.k (.bool false)))])
   (.keep [2] (.ret)))
  (.skip))))
 (.keep [] (.seq (.ops [.op (some 2) (.mov (.k (.bool true)))])
 (.keep [2] (.ret))))))))))))))))))))))))))))))))))))))))))))))))))))))))))))
theorem k_c_FnExactAnalyzeLog_fits : fitsF Try.prog 3 ⟨133, k_c_FnExactAnalyzeLog, [.t 2]⟩ = true := by kernel_rfl
theorem c_FnExactAnalyzeLog {log : List GLogRecord} (wlog : wfL GLogRecord.wf log) : Con Try.prog noMv 3 [.d (.sl 10 (log.map GLogRecord.row))] [] (fun r h => r = bool true ∧ h = []) := by
 refine con_of2 k_c_FnExactAnalyzeLog_fits rfl fun C hP hmv => ?_
 unfold k_c_FnExactAnalyzeLog
 refine cx_seq ?_
 refine cx_ops ?_
 refine ax_q (q_mov rfl) ?_
 refine ax_nil ?_
 refine cx_keep rfl rfl ?_
 refine cx_seq ?_
 refine cx_ops ?_
 refine ax_q (q_mov rfl) ?_
 refine ax_nil ?_
 refine cx_keep rfl rfl ?_
 refine cx_seq ?_
 refine cx_ops ?_
 refine ax_q (q_mov rfl) ?_
 refine ax_q (q_mov rfl) ?_
 have sp0 := szF_spec (1048576) (szL GLogRecord.sz log)
 refine ax_call rfl (vc_pure0 (c_szLogRecordS (by omega) (by omega) wlog) hP rfl rfl ?_)
 refine ax_q (q_mov rfl) ?_
 refine ax_nil ?_
 refine cx_keep rfl rfl ?_
 refine cx_seq ?_
 refine cx_seq ?_
 refine cx_ops ?_
 refine ax_q (q_mov rfl) ?_
 refine ax_q (q_ibin rfl rfl rfl) ?_
 refine ax_nil ?_
 refine cx_keep rfl rfl ?_
 refine cx_cond rfl (fun h0 => ?_) (fun h0 => ?_)
 ·
  have h0 := dT h0
  refine cx_seq ?_
  refine cx_ops ?_
  refine ax_q (q_mov rfl) ?_
  refine ax_nil ?_
  refine cx_keep rfl rfl ?_
  refine cx_ret (ret0 rfl rfl ?_)
  exact ⟨rfl, rfl⟩
 ·
  have h0 := dF h0
  have llog0 : log.length ≤ 1048576 := by
   have := @szL_len _ GLogRecord.sz (log)
   omega
  have hw := log_sz (l := log) (n := 1048576) (by omega)
  have hv := hw.2
  have hlen := @analyzeF_len log
  refine cx_skip ?_
  refine cx_keep rfl rfl ?_
  refine cx_seq ?_
  refine cx_ops ?_
  refine ax_q (q_mov rfl) ?_
  first | refine ax_call rfl (vc_pure (c_toLogRecordS  ?_) hP rfl ?_) | refine ax_call rfl (vc_lend (c_toLogRecordS  ?_) hP (by repeat (first | exact lal_id _ rfl | exact LAL.nil | refine LAL.cons ?_ ?_ | exact la_id _ rfl | exact LA.lend (lend_whole rfl (by first | (simp; done) | (rw [List.length_map]; rfl))) | refine LA.agg ?_ | refine LA.fn ?_ | refine LA.lend ?_ | exact Lend.d _ | exact Lend.zs _ | exact lend_whole rfl (by first | (simp; done) | (rw [List.length_map]; rfl)) | refine Lend.ptr rfl ?_ | refine Lend.fn ?_ | exact LendL.nil | refine LendL.cons ?_ ?_)) ?_)
  ·
   first | assumption | omega | (simp; done) | (simp; omega)
  rintro r h ⟨rfl, rfl⟩
  refine ⟨fun i => 24 + 200 * i, [0], ⟨rfl, rfl, rfl, rfl, rfl, (by first | exact (fun h => absurd h Bool.false_ne_true) | exact (fun _ => ⟨rfl, (noisl_of (by repeat (first | exact trivial | refine ⟨noisl_map (fun _ => rfl), ?_⟩ | refine ⟨?_, ?_⟩)))⟩))⟩, ?_⟩
  skip
  first | refine ax_call rfl (vc_pure (c_sAnalyzeLog  ?_ ?_) hP rfl ?_) | refine ax_call rfl (vc_lend (c_sAnalyzeLog  ?_ ?_) hP (by repeat (first | exact lal_id _ rfl | exact LAL.nil | refine LAL.cons ?_ ?_ | exact la_id _ rfl | exact LA.lend (lend_whole rfl (by first | (simp; done) | (rw [List.length_map]; rfl))) | refine LA.agg ?_ | refine LA.fn ?_ | refine LA.lend ?_ | exact Lend.d _ | exact Lend.zs _ | exact lend_whole rfl (by first | (simp; done) | (rw [List.length_map]; rfl)) | refine Lend.ptr rfl ?_ | refine Lend.fn ?_ | exact LendL.nil | refine LendL.cons ?_ ?_)) ?_)
  ·
   first | assumption | omega | (simp; done) | (simp; omega)
  ·
   first | assumption | omega | (simp; done) | (simp; omega)
  rintro r h ⟨rfl, rfl⟩
  refine ⟨fun i => 25 + 200 * i, [0, 1], ⟨rfl, rfl, rfl, rfl, rfl, (by first | exact (fun h => absurd h Bool.false_ne_true) | exact (fun _ => ⟨rfl, (noisl_of (by repeat (first | exact trivial | refine ⟨noisl_map (fun _ => rfl), ?_⟩ | refine ⟨?_, ?_⟩)))⟩))⟩, ?_⟩
  skip
  refine ax_q (q_mov rfl) ?_
  refine ax_q (q_ext rfl rfl) ?_
  refine ax_q (q_ext rfl rfl) ?_
  refine ax_q (q_ext rfl rfl) ?_
  refine ax_q (q_mov rfl) ?_
  refine ax_q (q_mov rfl) ?_
  refine ax_q (q_mov rfl) ?_
  refine ax_nil ?_
  refine cx_keep rfl rfl ?_
  refine cx_seq ?_
  refine cx_ops ?_
  refine ax_q (q_mov rfl) ?_
  first | refine ax_call rfl (vc_pure (c_toLogRecordS  ?_) hP rfl ?_) | refine ax_call rfl (vc_lend (c_toLogRecordS  ?_) hP (by repeat (first | exact lal_id _ rfl | exact LAL.nil | refine LAL.cons ?_ ?_ | exact la_id _ rfl | exact LA.lend (lend_whole rfl (by first | (simp; done) | (rw [List.length_map]; rfl))) | refine LA.agg ?_ | refine LA.fn ?_ | refine LA.lend ?_ | exact Lend.d _ | exact Lend.zs _ | exact lend_whole rfl (by first | (simp; done) | (rw [List.length_map]; rfl)) | refine Lend.ptr rfl ?_ | refine Lend.fn ?_ | exact LendL.nil | refine LendL.cons ?_ ?_)) ?_)
  ·
   first | assumption | omega | (simp; done) | (simp; omega)
  rintro r h ⟨rfl, rfl⟩
  refine ⟨fun i => 30 + 200 * i, [0], ⟨rfl, rfl, rfl, rfl, rfl, (by first | exact (fun h => absurd h Bool.false_ne_true) | exact (fun _ => ⟨rfl, (noisl_of (by repeat (first | exact trivial | refine ⟨noisl_map (fun _ => rfl), ?_⟩ | refine ⟨?_, ?_⟩)))⟩))⟩, ?_⟩
  skip
  refine ax_q (q_mov rfl) ?_
  refine ax_nil ?_
  refine cx_keep rfl rfl ?_
  refine cx_seq ?_
  refine cx_ops ?_
  refine ax_q (q_mov rfl) ?_
  first | refine ax_call rfl (vc_pure (c_AnalyzeLog  ?_ ?_) hP rfl ?_) | refine ax_call rfl (vc_lend (c_AnalyzeLog  ?_ ?_) hP (by repeat (first | exact lal_id _ rfl | exact LAL.nil | refine LAL.cons ?_ ?_ | exact la_id _ rfl | exact LA.lend (lend_whole rfl (by first | (simp; done) | (rw [List.length_map]; rfl))) | refine LA.agg ?_ | refine LA.fn ?_ | refine LA.lend ?_ | exact Lend.d _ | exact Lend.zs _ | exact lend_whole rfl (by first | (simp; done) | (rw [List.length_map]; rfl)) | refine Lend.ptr rfl ?_ | refine Lend.fn ?_ | exact LendL.nil | refine LendL.cons ?_ ?_)) ?_)
  ·
   first | assumption | omega | (simp; done) | (simp; omega)
  ·
   first | assumption | omega | (simp; done) | (simp; omega)
  rintro r h ⟨rfl, rfl⟩
  refine ⟨fun i => 33 + 200 * i, [0, 1], ⟨rfl, rfl, rfl, rfl, rfl, (by first | exact (fun h => absurd h Bool.false_ne_true) | exact (fun _ => ⟨rfl, (noisl_of (by repeat (first | exact trivial | refine ⟨noisl_map (fun _ => rfl), ?_⟩ | refine ⟨?_, ?_⟩)))⟩))⟩, ?_⟩
  skip
  refine ax_q (q_mov rfl) ?_
  refine ax_q (q_ext rfl rfl) ?_
  refine ax_q (q_ext rfl rfl) ?_
  refine ax_q (q_ext rfl rfl) ?_
  refine ax_q (q_mov rfl) ?_
  refine ax_q (q_mov rfl) ?_
  refine ax_q (q_mov rfl) ?_
  refine ax_nil ?_
  refine cx_keep rfl rfl ?_
  refine cx_seq ?_
  refine cx_seq ?_
  refine cx_ops ?_
  refine ax_q (q_mov rfl) ?_
  refine ax_q (q_mov rfl) ?_
  first | refine ax_call rfl (vc_pure0 (c_eqDirtyS  ?_) hP rfl rfl ?_) | refine ax_call rfl (vc_lend0 (c_eqDirtyS  ?_) hP (by repeat (first | exact lal_id _ rfl | exact LAL.nil | refine LAL.cons ?_ ?_ | exact la_id _ rfl | exact LA.lend (lend_whole rfl (by first | (simp; done) | (rw [List.length_map]; rfl))) | refine LA.agg ?_ | refine LA.fn ?_ | refine LA.lend ?_ | exact Lend.d _ | exact Lend.zs _ | exact lend_whole rfl (by first | (simp; done) | (rw [List.length_map]; rfl)) | refine Lend.ptr rfl ?_ | refine Lend.fn ?_ | exact LendL.nil | refine LendL.cons ?_ ?_)) rfl rfl ?_)
  ·
   first | assumption | omega | (simp; done) | (simp; omega)
  refine ax_q (q_not rfl) ?_
  refine ax_q (q_mov rfl) ?_
  apply ax_or rfl rfl
  ·
   intro g
   have g := bF g
   refine ax_q (q_mov rfl) ?_
   refine ax_q (q_mov rfl) ?_
   first | refine ax_call rfl (vc_pure0 (c_eqTxS  ?_) hP rfl rfl ?_) | refine ax_call rfl (vc_lend0 (c_eqTxS  ?_) hP (by repeat (first | exact lal_id _ rfl | exact LAL.nil | refine LAL.cons ?_ ?_ | exact la_id _ rfl | exact LA.lend (lend_whole rfl (by first | (simp; done) | (rw [List.length_map]; rfl))) | refine LA.agg ?_ | refine LA.fn ?_ | refine LA.lend ?_ | exact Lend.d _ | exact Lend.zs _ | exact lend_whole rfl (by first | (simp; done) | (rw [List.length_map]; rfl)) | refine Lend.ptr rfl ?_ | refine Lend.fn ?_ | exact LendL.nil | refine LendL.cons ?_ ?_)) rfl rfl ?_)
   ·
    first | assumption | omega | (simp; done) | (simp; omega)
   refine ax_q (q_not rfl) ?_
   exact ax_nil ⟨rfl, by repeat (first | exact trivial | refine ⟨rfl, ?_⟩ | refine ⟨?_, ?_⟩)⟩
  refine ax_q (q_mov rfl) ?_
  apply ax_or rfl rfl
  ·
   intro g
   have g := (fun h => And.intro (bF (or_F h).1) (bF (or_F h).2)) g
   refine ax_q (q_mov rfl) ?_
   refine ax_q (q_mov rfl) ?_
   refine ax_q (q_ibin rfl rfl rfl) ?_
   exact ax_nil ⟨rfl, by repeat (first | exact trivial | refine ⟨rfl, ?_⟩ | refine ⟨?_, ?_⟩)⟩
  refine ax_nil ?_
  refine cx_keep rfl rfl ?_
  refine cx_cond rfl (fun h1 => ?_) (fun h1 => ?_)
  ·
   have h1 := (fun h => (or_T h).imp (fun h => (or_T h).imp bT bT) nT) h1
   first | exact absurd rfl h1 | (exfalso; omega) | exact absurd h1 (by simp [eqb_rfl] <;> omega)
  ·
   have h1 := (fun h => And.intro ((fun h => And.intro (bF (or_F h).1) (bF (or_F h).2)) (or_F h).1) (nF (or_F h).2)) h1
   refine cx_skip ?_
   refine cx_keep rfl rfl ?_
   refine cx_seq ?_
   refine cx_seq ?_
   refine cx_ops ?_
   refine ax_q (q_mov rfl) ?_
   refine ax_q (q_mov rfl) ?_
   first | refine ax_call rfl (vc_pure (c_toLogRecordS  ?_) hP rfl ?_) | refine ax_call rfl (vc_lend (c_toLogRecordS  ?_) hP (by repeat (first | exact lal_id _ rfl | exact LAL.nil | refine LAL.cons ?_ ?_ | exact la_id _ rfl | exact LA.lend (lend_whole rfl (by first | (simp; done) | (rw [List.length_map]; rfl))) | refine LA.agg ?_ | refine LA.fn ?_ | refine LA.lend ?_ | exact Lend.d _ | exact Lend.zs _ | exact lend_whole rfl (by first | (simp; done) | (rw [List.length_map]; rfl)) | refine Lend.ptr rfl ?_ | refine Lend.fn ?_ | exact LendL.nil | refine LendL.cons ?_ ?_)) ?_)
   ·
    first | assumption | omega | (simp; done) | (simp; omega)
   rintro r h ⟨rfl, rfl⟩
   refine ⟨fun i => 54 + 200 * i, [0], ⟨rfl, rfl, rfl, rfl, rfl, (by first | exact (fun h => absurd h Bool.false_ne_true) | exact (fun _ => ⟨rfl, (noisl_of (by repeat (first | exact trivial | refine ⟨noisl_map (fun _ => rfl), ?_⟩ | refine ⟨?_, ?_⟩)))⟩))⟩, ?_⟩
   skip
   first | refine ax_call rfl (vc_pure0 (c_eqLogRecordS  ?_) hP rfl rfl ?_) | refine ax_call rfl (vc_lend0 (c_eqLogRecordS  ?_) hP (by repeat (first | exact lal_id _ rfl | exact LAL.nil | refine LAL.cons ?_ ?_ | exact la_id _ rfl | exact LA.lend (lend_whole rfl (by first | (simp; done) | (rw [List.length_map]; rfl))) | refine LA.agg ?_ | refine LA.fn ?_ | refine LA.lend ?_ | exact Lend.d _ | exact Lend.zs _ | exact lend_whole rfl (by first | (simp; done) | (rw [List.length_map]; rfl)) | refine Lend.ptr rfl ?_ | refine Lend.fn ?_ | exact LendL.nil | refine LendL.cons ?_ ?_)) rfl rfl ?_)
   ·
    first | assumption | omega | (simp; done) | (simp; omega)
   refine ax_q (q_not rfl) ?_
   refine ax_nil ?_
   refine cx_keep rfl rfl ?_
   refine cx_cond rfl (fun h2 => ?_) (fun h2 => ?_)
   ·
    have h2 := bT h2
    first | exact absurd rfl h2 | (exfalso; omega) | exact absurd h2 (by simp [eqb_rfl] <;> omega)
   ·
    have h2 := bF h2
    refine cx_skip ?_
    refine cx_keep rfl rfl ?_
    refine cx_seq ?_
    refine cx_ops ?_
    refine ax_q (q_mov rfl) ?_
    refine ax_nil ?_
    refine cx_keep rfl rfl ?_
    refine cx_seq ?_
    refine cx_ops ?_
    refine ax_q (q_mov rfl) ?_
    refine ax_q (q_mov rfl) ?_
    refine ax_call rfl (vcall_own (c_markLogRecordS (xs := log) (k0 := 1) (by show _ ≤ _; omega)) hP hmv false (fun e => 30) [1000] ⟨rfl, rfl, rfl, rfl, (by repeat (first | exact trivial | refine ⟨rfl, ?_⟩)), rfl, rfl, rfl⟩ (.pass rfl rfl (.pass rfl rfl .nil)) ?_)
    rintro r h ⟨rfl, rfl⟩
    refine ⟨fun e => 30, [], ⟨rfl, rfl, rfl, rfl, (mem1 rfl), rfl, rfl, fun h => by cases h⟩, ?_⟩
    refine ax_q (q_mov rfl) ?_
    refine ax_nil ?_
    refine cx_keep rfl rfl ?_
    refine cx_seq ?_
    refine cx_seq ?_
    refine cx_ops ?_
    refine ax_q (q_mov rfl) ?_
    refine ax_q (q_ibin rfl rfl rfl) ?_
    refine ax_q (q_mov rfl) ?_
    apply ax_or rfl rfl
    ·
     intro g
     have g := dF g
     refine ax_q (q_mov rfl) ?_
     refine ax_q (q_mov rfl) ?_
     first | refine ax_call rfl (vc_pure0 (c_eqDirtyS  ?_) hP rfl rfl ?_) | refine ax_call rfl (vc_lend0 (c_eqDirtyS  ?_) hP (by repeat (first | exact lal_id _ rfl | exact LAL.nil | refine LAL.cons ?_ ?_ | exact la_id _ rfl | exact LA.lend (lend_whole rfl (by first | (simp; done) | (rw [List.length_map]; rfl))) | refine LA.agg ?_ | refine LA.fn ?_ | refine LA.lend ?_ | exact Lend.d _ | exact Lend.zs _ | exact lend_whole rfl (by first | (simp; done) | (rw [List.length_map]; rfl)) | refine Lend.ptr rfl ?_ | refine Lend.fn ?_ | exact LendL.nil | refine LendL.cons ?_ ?_)) rfl rfl ?_)
     ·
      first | assumption | omega | (simp; done) | (simp; omega)
     refine ax_q (q_not rfl) ?_
     exact ax_nil ⟨rfl, by repeat (first | exact trivial | refine ⟨rfl, ?_⟩ | refine ⟨?_, ?_⟩)⟩
    refine ax_q (q_mov rfl) ?_
    apply ax_or rfl rfl
    ·
     intro g
     have g := (fun h => And.intro (dF (or_F h).1) (bF (or_F h).2)) g
     refine ax_q (q_mov rfl) ?_
     refine ax_q (q_mov rfl) ?_
     first | refine ax_call rfl (vc_pure0 (c_eqTxS  ?_) hP rfl rfl ?_) | refine ax_call rfl (vc_lend0 (c_eqTxS  ?_) hP (by repeat (first | exact lal_id _ rfl | exact LAL.nil | refine LAL.cons ?_ ?_ | exact la_id _ rfl | exact LA.lend (lend_whole rfl (by first | (simp; done) | (rw [List.length_map]; rfl))) | refine LA.agg ?_ | refine LA.fn ?_ | refine LA.lend ?_ | exact Lend.d _ | exact Lend.zs _ | exact lend_whole rfl (by first | (simp; done) | (rw [List.length_map]; rfl)) | refine Lend.ptr rfl ?_ | refine Lend.fn ?_ | exact LendL.nil | refine LendL.cons ?_ ?_)) rfl rfl ?_)
     ·
      first | assumption | omega | (simp; done) | (simp; omega)
     refine ax_q (q_not rfl) ?_
     exact ax_nil ⟨rfl, by repeat (first | exact trivial | refine ⟨rfl, ?_⟩ | refine ⟨?_, ?_⟩)⟩
    refine ax_q (q_mov rfl) ?_
    apply ax_or rfl rfl
    ·
     intro g
     have g := (fun h => And.intro ((fun h => And.intro (dF (or_F h).1) (bF (or_F h).2)) (or_F h).1) (bF (or_F h).2)) g
     refine ax_q (q_mov rfl) ?_
     refine ax_q (q_mov rfl) ?_
     refine ax_q (q_ibin rfl rfl rfl) ?_
     exact ax_nil ⟨rfl, by repeat (first | exact trivial | refine ⟨rfl, ?_⟩ | refine ⟨?_, ?_⟩)⟩
    refine ax_nil ?_
    refine cx_keep rfl rfl ?_
    refine cx_cond rfl (fun h3 => ?_) (fun h3 => ?_)
    ·
     have h3 := (fun h => (or_T h).imp (fun h => (or_T h).imp (fun h => (or_T h).imp dT bT) bT) nT) h3
     first | exact absurd rfl h3 | (exfalso; omega) | exact absurd h3 (by simp [eqb_rfl] <;> omega)
    ·
     have h3 := (fun h => And.intro ((fun h => And.intro ((fun h => And.intro (dF (or_F h).1) (bF (or_F h).2)) (or_F h).1) (bF (or_F h).2)) (or_F h).1) (nF (or_F h).2)) h3
     refine cx_skip ?_
     refine cx_keep rfl rfl ?_
     refine cx_seq ?_
     refine cx_ops ?_
     refine ax_q (q_mov rfl) ?_
     refine ax_nil ?_
     refine cx_keep rfl rfl ?_
     refine cx_seq ?_
     refine cx_ops ?_
     refine ax_q (q_mov rfl) ?_
     refine ax_q (q_mov rfl) ?_
     refine ax_call rfl (vcall_own (c_markDirtyS (xs := (analyzeF log).1.1) (k0 := 1) (by show _ ≤ _; omega)) hP hmv false (fun e => 33) [1000] ⟨rfl, rfl, rfl, rfl, (by repeat (first | exact trivial | refine ⟨rfl, ?_⟩)), rfl, rfl, rfl⟩ (.pass rfl rfl (.pass rfl rfl .nil)) ?_)
     rintro r h ⟨rfl, rfl⟩
     refine ⟨fun e => 33, [], ⟨rfl, rfl, rfl, rfl, (mem1 rfl), rfl, rfl, fun h => by cases h⟩, ?_⟩
     refine ax_q (q_mov rfl) ?_
     refine ax_nil ?_
     refine cx_keep rfl rfl ?_
     refine cx_seq ?_
     refine cx_ops ?_
     refine ax_q (q_mov rfl) ?_
     refine ax_q (q_mov rfl) ?_
     refine ax_call rfl (vcall_own (c_markTxS (xs := (analyzeF log).1.2) (k0 := 1 + 2 * (analyzeF log).1.1.length) (by show _ ≤ _; omega)) hP hmv false (fun e => 233) [1000] ⟨rfl, rfl, rfl, rfl, (by repeat (first | exact trivial | refine ⟨rfl, ?_⟩)), rfl, rfl, rfl⟩ (.pass rfl rfl (.pass rfl rfl .nil)) ?_)
     rintro r h ⟨rfl, rfl⟩
     refine ⟨fun e => 233, [], ⟨rfl, rfl, rfl, rfl, (mem1 rfl), rfl, rfl, fun h => by cases h⟩, ?_⟩
     refine ax_q (q_mov rfl) ?_
     refine ax_nil ?_
     refine cx_keep rfl rfl ?_
     refine cx_seq ?_
     refine cx_ops ?_
     refine ax_q (q_mov rfl) ?_
     refine ax_nil ?_
     refine cx_keep rfl rfl ?_
     refine cx_seq ?_
     refine cx_ops ?_
     refine ax_q (q_mov rfl) ?_
     refine ax_q (q_mov rfl) ?_
     refine ax_call rfl (vc_lend0 (c_heldDirtyS (xs := (analyzeF log).1.1) (k0 := 1) (by show _ ≤ _; omega)) hP (by repeat (first | exact lal_id _ rfl | exact LAL.nil | refine LAL.cons ?_ ?_ | exact la_id _ rfl | exact LA.lend (lend_whole rfl (by simp [markL_len])) | refine LA.agg ?_ | refine LA.fn ?_ | refine LA.lend ?_ | exact Lend.d _ | exact Lend.zs _ | exact lend_whole rfl (by simp [markL_len]) | refine Lend.ptr rfl ?_ | refine Lend.fn ?_ | exact LendL.nil | refine LendL.cons ?_ ?_)) rfl rfl ?_)
     refine ax_q (q_mov rfl) ?_
     refine ax_nil ?_
     refine cx_keep rfl rfl ?_
     refine cx_seq ?_
     refine cx_seq ?_
     refine cx_ops ?_
     refine ax_q (q_mov rfl) ?_
     refine ax_q (q_ibin rfl rfl rfl) ?_
     refine ax_nil ?_
     refine cx_keep rfl rfl ?_
     refine cx_cond rfl (fun h4 => ?_) (fun h4 => ?_)
     ·
      have h4 := dT h4
      first | exact absurd rfl h4 | (exfalso; omega) | exact absurd h4 (by simp [eqb_rfl] <;> omega)
     ·
      have h4 := dF h4
      refine cx_skip ?_
      refine cx_keep rfl rfl ?_
      refine cx_seq ?_
      refine cx_ops ?_
      refine ax_q (q_mov rfl) ?_
      refine ax_q (q_mov rfl) ?_
      refine ax_call rfl (vc_lend0 (c_heldTxS (xs := (analyzeF log).1.2) (k0 := 1 + 2 * (analyzeF log).1.1.length) (by show _ ≤ _; omega)) hP (by repeat (first | exact lal_id _ rfl | exact LAL.nil | refine LAL.cons ?_ ?_ | exact la_id _ rfl | exact LA.lend (lend_whole rfl (by simp [markL_len])) | refine LA.agg ?_ | refine LA.fn ?_ | refine LA.lend ?_ | exact Lend.d _ | exact Lend.zs _ | exact lend_whole rfl (by simp [markL_len]) | refine Lend.ptr rfl ?_ | refine Lend.fn ?_ | exact LendL.nil | refine LendL.cons ?_ ?_)) rfl rfl ?_)
      refine ax_q (q_mov rfl) ?_
      refine ax_nil ?_
      refine cx_keep rfl rfl ?_
      refine cx_seq ?_
      refine cx_seq ?_
      refine cx_ops ?_
      refine ax_q (q_mov rfl) ?_
      refine ax_q (q_ibin rfl rfl rfl) ?_
      refine ax_nil ?_
      refine cx_keep rfl rfl ?_
      refine cx_cond rfl (fun h5 => ?_) (fun h5 => ?_)
      ·
       have h5 := dT h5
       first | exact absurd rfl h5 | (exfalso; omega) | exact absurd h5 (by simp [eqb_rfl] <;> omega)
      ·
       have h5 := dF h5
       refine cx_skip ?_
       refine cx_keep rfl rfl ?_
       refine cx_seq ?_
       refine cx_seq ?_
       refine cx_ops ?_
       refine ax_q (q_mov rfl) ?_
       refine ax_q (q_mov rfl) ?_
       refine ax_q (q_ibin rfl rfl rfl) ?_
       refine ax_nil ?_
       refine cx_keep rfl rfl ?_
       refine cx_cond rfl (fun h6 => ?_) (fun h6 => ?_)
       ·
        have h6 := nT h6
        first | exact absurd rfl h6 | (exfalso; omega) | exact absurd h6 (by simp [eqb_rfl] <;> omega)
       ·
        have h6 := nF h6
        refine cx_skip ?_
        refine cx_keep rfl rfl ?_
        refine cx_seq ?_
        refine cx_ops ?_
        refine ax_q (q_mov rfl) ?_
        first | refine ax_call rfl (vc_pure (c_toLogRecordS  ?_) hP rfl ?_) | refine ax_call rfl (vc_lend (c_toLogRecordS  ?_) hP (by repeat (first | exact lal_id _ rfl | exact LAL.nil | refine LAL.cons ?_ ?_ | exact la_id _ rfl | exact LA.lend (lend_whole rfl (by first | (simp; done) | (rw [List.length_map]; rfl))) | refine LA.agg ?_ | refine LA.fn ?_ | refine LA.lend ?_ | exact Lend.d _ | exact Lend.zs _ | exact lend_whole rfl (by first | (simp; done) | (rw [List.length_map]; rfl)) | refine Lend.ptr rfl ?_ | refine Lend.fn ?_ | exact LendL.nil | refine LendL.cons ?_ ?_)) ?_)
        ·
         first | assumption | omega | (simp; done) | (simp; omega)
        rintro r h ⟨rfl, rfl⟩
        refine ⟨fun i => 100 + 200 * i, [0], ⟨rfl, rfl, rfl, rfl, rfl, (by first | exact (fun h => absurd h Bool.false_ne_true) | exact (fun _ => ⟨rfl, (noisl_of (by repeat (first | exact trivial | refine ⟨noisl_map (fun _ => rfl), ?_⟩ | refine ⟨?_, ?_⟩)))⟩))⟩, ?_⟩
        skip
        first | refine ax_call rfl (vc_pure (c_AnalyzeLog  ?_ ?_) hP rfl ?_) | refine ax_call rfl (vc_lend (c_AnalyzeLog  ?_ ?_) hP (by repeat (first | exact lal_id _ rfl | exact LAL.nil | refine LAL.cons ?_ ?_ | exact la_id _ rfl | exact LA.lend (lend_whole rfl (by first | (simp; done) | (rw [List.length_map]; rfl))) | refine LA.agg ?_ | refine LA.fn ?_ | refine LA.lend ?_ | exact Lend.d _ | exact Lend.zs _ | exact lend_whole rfl (by first | (simp; done) | (rw [List.length_map]; rfl)) | refine Lend.ptr rfl ?_ | refine Lend.fn ?_ | exact LendL.nil | refine LendL.cons ?_ ?_)) ?_)
        ·
         first | assumption | omega | (simp; done) | (simp; omega)
        ·
         first | assumption | omega | (simp; done) | (simp; omega)
        rintro r h ⟨rfl, rfl⟩
        refine ⟨fun i => 101 + 200 * i, [0, 1], ⟨rfl, rfl, rfl, rfl, rfl, (by first | exact (fun h => absurd h Bool.false_ne_true) | exact (fun _ => ⟨rfl, (noisl_of (by repeat (first | exact trivial | refine ⟨noisl_map (fun _ => rfl), ?_⟩ | refine ⟨?_, ?_⟩)))⟩))⟩, ?_⟩
        skip
        refine ax_q (q_mov rfl) ?_
        refine ax_q (q_ext rfl rfl) ?_
        refine ax_q (q_ext rfl rfl) ?_
        refine ax_q (q_ext rfl rfl) ?_
        refine ax_q (q_mov rfl) ?_
        refine ax_q (q_mov rfl) ?_
        refine ax_q (q_mov rfl) ?_
        refine ax_nil ?_
        refine cx_keep rfl rfl ?_
        refine cx_seq ?_
        refine cx_seq ?_
        refine cx_ops ?_
        refine ax_q (q_mov rfl) ?_
        refine ax_q (q_mov rfl) ?_
        first | refine ax_call rfl (vc_pure0 (c_eqDirtyS  ?_) hP rfl rfl ?_) | refine ax_call rfl (vc_lend0 (c_eqDirtyS  ?_) hP (by repeat (first | exact lal_id _ rfl | exact LAL.nil | refine LAL.cons ?_ ?_ | exact la_id _ rfl | exact LA.lend (lend_whole rfl (by first | (simp; done) | (rw [List.length_map]; rfl))) | refine LA.agg ?_ | refine LA.fn ?_ | refine LA.lend ?_ | exact Lend.d _ | exact Lend.zs _ | exact lend_whole rfl (by first | (simp; done) | (rw [List.length_map]; rfl)) | refine Lend.ptr rfl ?_ | refine Lend.fn ?_ | exact LendL.nil | refine LendL.cons ?_ ?_)) rfl rfl ?_)
        ·
         first | assumption | omega | (simp; done) | (simp; omega)
        refine ax_q (q_not rfl) ?_
        refine ax_q (q_mov rfl) ?_
        apply ax_or rfl rfl
        ·
         intro g
         have g := bF g
         refine ax_q (q_mov rfl) ?_
         refine ax_q (q_mov rfl) ?_
         first | refine ax_call rfl (vc_pure0 (c_eqTxS  ?_) hP rfl rfl ?_) | refine ax_call rfl (vc_lend0 (c_eqTxS  ?_) hP (by repeat (first | exact lal_id _ rfl | exact LAL.nil | refine LAL.cons ?_ ?_ | exact la_id _ rfl | exact LA.lend (lend_whole rfl (by first | (simp; done) | (rw [List.length_map]; rfl))) | refine LA.agg ?_ | refine LA.fn ?_ | refine LA.lend ?_ | exact Lend.d _ | exact Lend.zs _ | exact lend_whole rfl (by first | (simp; done) | (rw [List.length_map]; rfl)) | refine Lend.ptr rfl ?_ | refine Lend.fn ?_ | exact LendL.nil | refine LendL.cons ?_ ?_)) rfl rfl ?_)
         ·
          first | assumption | omega | (simp; done) | (simp; omega)
         refine ax_q (q_not rfl) ?_
         exact ax_nil ⟨rfl, by repeat (first | exact trivial | refine ⟨rfl, ?_⟩ | refine ⟨?_, ?_⟩)⟩
        refine ax_q (q_mov rfl) ?_
        apply ax_or rfl rfl
        ·
         intro g
         have g := (fun h => And.intro (bF (or_F h).1) (bF (or_F h).2)) g
         refine ax_q (q_mov rfl) ?_
         refine ax_q (q_mov rfl) ?_
         refine ax_q (q_ibin rfl rfl rfl) ?_
         exact ax_nil ⟨rfl, by repeat (first | exact trivial | refine ⟨rfl, ?_⟩ | refine ⟨?_, ?_⟩)⟩
        refine ax_nil ?_
        refine cx_keep rfl rfl ?_
        refine cx_cond rfl (fun h7 => ?_) (fun h7 => ?_)
        ·
         have h7 := (fun h => (or_T h).imp (fun h => (or_T h).imp bT bT) nT) h7
         first | exact absurd rfl h7 | (exfalso; omega) | exact absurd h7 (by simp [eqb_rfl] <;> omega)
        ·
         have h7 := (fun h => And.intro ((fun h => And.intro (bF (or_F h).1) (bF (or_F h).2)) (or_F h).1) (nF (or_F h).2)) h7
         refine cx_skip ?_
         refine cx_keep rfl rfl ?_
         refine cx_seq ?_
         refine cx_ops ?_
         refine ax_q (q_mov rfl) ?_
         refine ax_nil ?_
         refine cx_keep rfl rfl ?_
         refine cx_seq ?_
         refine cx_ops ?_
         refine ax_q (q_mov rfl) ?_
         refine ax_q (q_mov rfl) ?_
         refine ax_call rfl (vc_lend0 (c_heldDirtyS (xs := (analyzeF log).1.1) (k0 := 1) (by show _ ≤ _; omega)) hP (by repeat (first | exact lal_id _ rfl | exact LAL.nil | refine LAL.cons ?_ ?_ | exact la_id _ rfl | exact LA.lend (lend_whole rfl (by simp [markL_len])) | refine LA.agg ?_ | refine LA.fn ?_ | refine LA.lend ?_ | exact Lend.d _ | exact Lend.zs _ | exact lend_whole rfl (by simp [markL_len]) | refine Lend.ptr rfl ?_ | refine Lend.fn ?_ | exact LendL.nil | refine LendL.cons ?_ ?_)) rfl rfl ?_)
         refine ax_q (q_mov rfl) ?_
         refine ax_nil ?_
         refine cx_keep rfl rfl ?_
         refine cx_seq ?_
         refine cx_seq ?_
         refine cx_ops ?_
         refine ax_q (q_mov rfl) ?_
         refine ax_q (q_ibin rfl rfl rfl) ?_
         refine ax_nil ?_
         refine cx_keep rfl rfl ?_
         refine cx_cond rfl (fun h8 => ?_) (fun h8 => ?_)
         ·
          have h8 := dT h8
          first | exact absurd rfl h8 | (exfalso; omega) | exact absurd h8 (by simp [eqb_rfl] <;> omega)
         ·
          have h8 := dF h8
          refine cx_skip ?_
          refine cx_keep rfl rfl ?_
          refine cx_seq ?_
          refine cx_ops ?_
          refine ax_q (q_mov rfl) ?_
          refine ax_q (q_mov rfl) ?_
          refine ax_call rfl (vc_lend0 (c_heldTxS (xs := (analyzeF log).1.2) (k0 := 1 + 2 * (analyzeF log).1.1.length) (by show _ ≤ _; omega)) hP (by repeat (first | exact lal_id _ rfl | exact LAL.nil | refine LAL.cons ?_ ?_ | exact la_id _ rfl | exact LA.lend (lend_whole rfl (by simp [markL_len])) | refine LA.agg ?_ | refine LA.fn ?_ | refine LA.lend ?_ | exact Lend.d _ | exact Lend.zs _ | exact lend_whole rfl (by simp [markL_len]) | refine Lend.ptr rfl ?_ | refine Lend.fn ?_ | exact LendL.nil | refine LendL.cons ?_ ?_)) rfl rfl ?_)
          refine ax_q (q_mov rfl) ?_
          refine ax_nil ?_
          refine cx_keep rfl rfl ?_
          refine cx_seq ?_
          refine cx_seq ?_
          refine cx_ops ?_
          refine ax_q (q_mov rfl) ?_
          refine ax_q (q_ibin rfl rfl rfl) ?_
          refine ax_nil ?_
          refine cx_keep rfl rfl ?_
          refine cx_cond rfl (fun h9 => ?_) (fun h9 => ?_)
          ·
           have h9 := dT h9
           first | exact absurd rfl h9 | (exfalso; omega) | exact absurd h9 (by simp [eqb_rfl] <;> omega)
          ·
           have h9 := dF h9
           refine cx_skip ?_
           refine cx_keep rfl rfl ?_
           refine cx_seq ?_
           refine cx_seq ?_
           refine cx_ops ?_
           refine ax_q (q_mov rfl) ?_
           refine ax_q (q_mov rfl) ?_
           refine ax_q (q_ibin rfl rfl rfl) ?_
           refine ax_nil ?_
           refine cx_keep rfl rfl ?_
           refine cx_cond rfl (fun h10 => ?_) (fun h10 => ?_)
           ·
            have h10 := nT h10
            first | exact absurd rfl h10 | (exfalso; omega) | exact absurd h10 (by simp [eqb_rfl] <;> omega)
           ·
            have h10 := nF h10
            refine cx_skip ?_
            refine cx_keep rfl rfl ?_
            refine cx_seq ?_
            refine cx_ops ?_
            refine ax_q (q_mov rfl) ?_
            refine ax_nil ?_
            refine cx_keep rfl rfl ?_
            refine cx_ret (ret0 rfl rfl ?_)
            exact ⟨rfl, rfl⟩

theorem own : ownKnob Try.prog.godebug = none := by kernel_rfl
theorem laid : laidOutB Try.prog = true := by kernel_rfl
theorem closedTs : closedT Try.prog [3, 9, 22, 39] = true := by kernel_rfl
theorem con (rows : List (List D)) (h : HasAll Try.prog Try.f3.params.toList rows) : Con Try.prog noMv 3 (argsAV Try.prog Try.f3.params.toList rows) [] (fun r h => r = AM.bool true ∧ h = []) := by
  rw [Try.params3] at h ⊢
  obtain ⟨d0, r0, rfl, h0, h⟩ := h
  obtain rfl := h
  obtain ⟨a0, rfl, w0⟩ := (dec_slice (sz := 10) Try.underlying22 (by kernel_rfl) (GLogRecord.dec Try.underlying39 rfl (dec_int Try.underlying3) (dec_int Try.underlying3) (dec_int Try.underlying3) (dec_int Try.underlying3) (dec_int Try.underlying3) (dec_int Try.underlying3) (dec_int Try.underlying3) (dec_int Try.underlying3) (dec_str Try.underlying9) (dec_str Try.underlying9))) h0
  have e : argsAV Try.prog [22] [[.sl 10 (a0.map GLogRecord.row)]] = [.d (.sl 10 (a0.map GLogRecord.row))] := by
    first | (simp only [argsAV, argAV, Try.underlying22]; done) | (simp only [argsAV, argAV, Try.underlying22]; rfl)
  show Con Try.prog noMv 3 (argsAV Try.prog [22] [[.sl 10 (a0.map GLogRecord.row)]]) [] _
  rw [e]
  exact c_FnExactAnalyzeLog w0
set_option maxRecDepth 100000 in
theorem lifted (os : Os) (started : os.Started) (H : Type) (enc : TypeId × Value → H) :
    ReturnsInHanded {} Try.checked os 3 .any (Rows.fnExactAnalyzeLogSpec.pre6 enc Try.prog Try.f3 Rows.fnExactAnalyzeLogRow.domain false) (Rows.fnExactAnalyzeLogSpec.post enc Try.prog Try.f3 false true false false) := by
  refine returnsInHanded_of_change (C := Try.checked) own started (by kernel_rfl) Try.func3
    (ChangeSpec.witness6 (enc := enc) (C := Try.checked) false ⟨#[], #[.slice none 0 0], []⟩ 8 (by kernel_rfl) (by kernel_rfl) (by kernel_rfl) (by kernel_rfl)) ?_
  intro W base args ds gs before hval hW hcnd _
  refine law_contract closedTs laid (by kernel_rfl) rfl rfl Try.underlying4 con (fun hl => ?_) hval hW
  match ds, hl with
  | [x0], _ => rfl
theorem over : Rows.fnExactAnalyzeLogRow.holds Try.pinned (OpenSpec.ofChange Rows.fnExactAnalyzeLogSpec) :=
  OpenClaim.holds_of_wide 3 Try.f3 rfl rfl rfl rfl rfl rfl rfl ⟨rfl, rfl, rfl, rfl, rfl⟩ rfl rfl rfl rfl rfl (by kernel_rfl) Try.func3 (by kernel_rfl)
    (of_decide_eq_true (by kernel_rfl)) (by unfold Func.isWrapper; first | (rw [if_pos (by decide +kernel)]; kernel_rfl) | (rw [if_neg (by decide +kernel)]; exact ⟨rfl, rfl⟩))
    (fun os started H enc _ => lifted os started H enc)
theorem proved : Rows.FnExactAnalyzeLogSaid := over
end fnExactAnalyzeLog
end Go.Proofs.Ytgfabnojbjnepaa
#print axioms Go.Proofs.Ytgfabnojbjnepaa.fnExactAnalyzeLog.proved
