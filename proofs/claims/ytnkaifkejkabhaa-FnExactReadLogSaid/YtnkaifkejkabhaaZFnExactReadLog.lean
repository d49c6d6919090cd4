/- The law FnExactReadLog of the given program returns true for all arguments, and its arguments read behind the call as they read before: the statement FnExactReadLogSaid, with no condition. -/
import Derived.Test.YtnkaifkejkabhaaW1
import Derived.Test.YtnkaifkejkabhaaRows
namespace Go.Proofs.Ytnkaifkejkabhaa
open Go Go.AM Go.ChangeShapes Go.RowKit
set_option linter.unusedVariables false
set_option linter.unusedSimpArgs false
namespace fnExactReadLog
set_option maxRecDepth 10000
/- loop.example/g00332/laws.FnExactReadLog -/
def k_c_FnExactReadLog : XCode :=
 .seq (.ops [.op (some 2) (.box (.t 0)),
   .op (some 4) (.mov (.k (.bool false)))])
 (.keep [1, 2] (.seq (.ops [.op (some 5) (.mov (.k (.int .i64 1048576)))])
 (.keep [1, 2, 5] (.seq (.ops [.op (some 16) (.loadN 4 (.t 2)),
   .op (some 17) (.mov (.t 5)),
   .call (some 18) 4 [.t 16, .t 17],
   .op (some 5) (.mov (.t 18))])
 (.keep [1, 2, 5] (.seq (.seq (.ops [.op (some 19) (.mov (.t 5)),
   .op (some 20) (.bin .lss (.t 19) (.k (.int .i64 0)))])
  (.keep [1, 2, 20] (.cond (.t 20)
  (.seq (.ops [.op (some 4) (.mov (.k (.bool true)))])
   (.keep [4] (.ret)))
  (.skip))))
 (.keep [1, 2] (.seq (.ops [.op (some 22) (.loadN 4 (.t 2)),
   .call (some 23) 6 [.t 22],
   .op (some 24) (.mov (.t 1)),
   .call (some 25) 5 [.t 23, .t 24],
   .op (some 21) (.mov (.t 25)),
   .op (some 26) (.ext (.t 21) 0),
   .op (some 27) (.ext (.t 21) 1),
   .op (some 6) (.mov (.t 26)),
   .op (some 7) (.mov (.t 27))])
 (.keep [1, 2, 6, 7] (.seq (.ops [.op (some 28) (.loadN 4 (.t 2)),
   .call (some 29) 6 [.t 28],
   .op (some 8) (.alloc [.nils 1, .nils 2, .bool false, .nils 1]),
   .op none (.store 4 (.t 8) (.t 29))])
 (.keep [1, 2, 6, 7, 8] (.seq (.ops [.op (some 31) (.loadN 4 (.t 8)),
   .op (some 32) (.mov (.t 1)),
   .call (some 33) 7 [.t 31, .t 32],
   .op (some 30) (.mov (.t 33)),
   .op (some 34) (.ext (.t 30) 0),
   .op (some 35) (.ext (.t 30) 1),
   .op (some 9) (.mov (.t 34)),
   .op (some 10) (.mov (.t 35))])
 (.keep [1, 2, 6, 7, 8, 9, 10] (.seq (.seq (.ops [.op (some 36) (.mov (.t 9)),
   .op (some 37) (.mov (.t 6)),
   .call (some 38) 8 [.t 36, .t 37],
   .op (some 39) (.not (.t 38)),
   .op (some 40) (.mov (.t 39)),
   .andor 44 false 4 40 [.op (some 41) (.mov (.t 10)), .op (some 42) (.mov (.t 7)), .op (some 43) (.bin .neq (.t 41) (.t 42))] (.t 43)])
  (.keep [1, 2, 6, 7, 8, 9, 10, 44] (.cond (.t 44)
  (.seq (.ops [.op (some 4) (.mov (.k (.bool false)))])
   (.keep [4] (.ret)))
  (.skip))))
 (.keep [1, 2, 6, 7, 8, 9, 10] (.seq (.seq (.drawE [[], [], [1], [0, 1, 2], [0, 1, 2, 3]] [.op (some 45) (.loadN 4 (.t 8)),
   .op (some 46) (.loadN 4 (.t 2)),
   .call (some 47) 6 [.t 46]]
   [.call (some 48) 9 [.t 45, .t 47],
   .op (some 49) (.not (.t 48))])
  (.keep [1, 2, 6, 7, 8, 9, 10, 49] (.cond (.t 49)
  (.seq (.ops [.op (some 4) (.mov (.k (.bool false)))])
   (.keep [4] (.ret)))
  (.skip))))
 (.keep [1, 2, 6, 7, 8, 9, 10] (.seq (.ops [.op (some 11) (.mov (.k (.int .i64 1)))])
 (.keep [1, 2, 6, 7, 8, 9, 10, 11] (.seq (.ops [.op (some 50) (.loadN 4 (.t 8)),
   .op (some 51) (.mov (.t 11)),
   .call (some 52) 10 [.t 50, .t 51],
   .op (some 11) (.mov (.t 52))])
 (.keep [1, 2, 6, 7, 9, 10, 11] (.seq (.seq (.ops [.op (some 53) (.mov (.t 11)),
   .op (some 54) (.bin .lss (.t 53) (.k (.int .i64 0))),
   .op (some 55) (.mov (.t 54)),
   .andor 60 false 2 55 [.op (some 56) (.mov (.t 9)), .op (some 57) (.mov (.t 6)), .call (some 58) 8 [.t 56, .t 57], .op (some 59) (.not (.t 58))] (.t 59),
   .op (some 61) (.mov (.t 60)),
   .andor 65 false 8 61 [.op (some 62) (.mov (.t 10)), .op (some 63) (.mov (.t 7)), .op (some 64) (.bin .neq (.t 62) (.t 63))] (.t 64)])
  (.keep [1, 2, 6, 7, 9, 65] (.cond (.t 65)
  (.seq (.ops [.op (some 4) (.mov (.k (.bool false)))])
   (.keep [4] (.ret)))
  (.skip))))
 (.keep [1, 2, 6, 7, 9] (.seq (.ops [.op (some 12) (.mov (.k (.int .i64 1)))])
 (.keep [1, 2, 6, 7, 9, 12] (.seq (.ops [.op (some 66) (.mov (.t 9)),
   .op (some 67) (.mov (.t 12)),
   .call (some 68) 11 [.t 66, .t 67],
   .op (some 12) (.mov (.t 68))])
 (.keep [1, 2, 6, 7, 9, 12] (.seq (.ops [.op (some 13) (.mov (.k (.int .i64 1)))])
 (.keep [1, 2, 6, 7, 9, 12, 13] (.seq (.ops [.op (some 69) (.mov (.t 9)),
   .op (some 70) (.mov (.t 13)),
   .call (some 71) 12 [.t 69, .t 70],
   .op (some 13) (.mov (.t 71))])
 (.keep [1, 2, 6, 7, 9, 12, 13] (.seq (.seq (.ops [.op (some 72) (.mov (.t 13)),
   .op (some 73) (.bin .lss (.t 72) (.k (.int .i64 0)))])
  (.keep [1, 2, 6, 7, 9, 12, 13, 73] (.cond (.t 73)
  (.seq (.ops [.op (some 4) (.mov (.k (.bool false)))])
   (.keep [4] (.ret)))
  (.skip))))
 (.keep [1, 2, 6, 7, 9, 12, 13] (.seq (.seq (.ops [.op (some 74) (.mov (.t 13)),
   .op (some 75) (.mov (.t 12)),
   .op (some 76) (.bin .neq (.t 74) (.t 75))])
  (.keep [1, 2, 6, 7, 9, 12, 76] (.cond (.t 76)
  (.seq (.ops [.op (some 4) (.mov (.k (.bool false)))])
   (.keep [4] (.ret)))
  (.skip))))
 (.keep [1, 2, 6, 7, 9, 12] (.seq (.ops [.op (some 78) (.loadN 4 (.t 2)),
   .call (some 79) 6 [.t 78],
   .op (some 80) (.mov (.t 1)),
   .call (some 81) 7 [.t 79, .t 80],
   .op (some 77) (.mov (.t 81)),
   .op (some 82) (.ext (.t 77) 0),
   .op (some 83) (.ext (.t 77) 1),
   .op (some 14) (.mov (.t 82)),
   .op (some 15) (.mov (.t 83))])
 (.keep [6, 7, 9, 12, 14, 15] (.seq (.seq (.ops [.op (some 84) (.mov (.t 14)),
   .op (some 85) (.mov (.t 6)),
   .call (some 86) 8 [.t 84, .t 85],
   .op (some 87) (.not (.t 86)),
   .op (some 88) (.mov (.t 87)),
   .andor 92 false 4 88 [.op (some 89) (.mov (.t 15)), .op (some 90) (.mov (.t 7)), .op (some 91) (.bin .neq (.t 89) (.t 90))] (.t 91)])
  (.keep [9, 12, 92] (.cond (.t 92)
  (.seq (.ops [.op (some 4) (.mov (.k (.bool false)))])
   (.keep [4] (.ret)))
  (.skip))))
 (.keep [9, 12] (.seq (.ops [.op (some 13) (.mov (.k (.int .i64 1)))])
 (.keep [9, 12, 13] (.seq (.ops [.op (some 93) (.mov (.t 9)),
   .op (some 94) (.mov (.t 13)),
   .call (some 95) 12 [.t 93, .t 94],
   .op (some 13) (.mov (.t 95))])
 (.keep [12, 13] (.seq (.seq (.ops [.op (some 96) (.mov (.t 13)),
   .op (some 97) (.bin .lss (.t 96) (.k (.int .i64 0)))])
  (.keep [12, 13, 97] (.cond (.t 97)
  (.seq (.ops [.op (some 4) (.mov (.k (.bool false)))])
   (.keep [4] (.ret)))
  (.skip))))
 (.keep [12, 13] (.seq (.seq (.ops [.op (some 98) (.mov (.t 13)),
   .op (some 99) (.mov (.t 12)),
   .op (some 100) (.bin .neq (.t 98) (.t 99))])
  (.keep [100] (.cond (.t 100)
  (.seq (.ops [.op (some 4) (.mov (.k (.bool false)))])
   (.keep [4] (.ret)))
  (.skip))))
 (.keep [] (.seq (.ops [.op (some 4) (.mov (.k (.bool true)))])
 (.keep [4] (.ret))))))))))))))))))))))))))))))))))))))))))))))))))
theorem k_c_FnExactReadLog_fits : fitsF Try.prog 3 ⟨101, k_c_FnExactReadLog, [.t 4]⟩ = true := by kernel_rfl
theorem c_FnExactReadLog {d : GDisk} {top : Int} (wd : d.wf) (wtop : wfInt top) : Con Try.prog noMv 3 [d.av, int top] [] (fun r h => r = bool true ∧ h = []) := by
 refine con_of2 k_c_FnExactReadLog_fits rfl fun C hP hmv => ?_
 unfold k_c_FnExactReadLog
 refine cx_seq ?_
 refine cx_ops ?_
 refine ax_e (e_box rfl rfl (by decide) rfl rfl rfl) ?_
 refine ax_q (q_mov rfl) ?_
 refine ax_nil ?_
 refine cx_keep rfl rfl ?_
 refine cx_seq ?_
 refine cx_ops ?_
 refine ax_q (q_mov rfl) ?_
 refine ax_nil ?_
 refine cx_keep rfl rfl ?_
 refine cx_seq ?_
 refine cx_ops ?_
 refine ax_q (q_ldN rfl rfl rfl) ?_
 refine ax_q (q_mov rfl) ?_
 have sp0 := szF_spec (1048576) (GDisk.sz d)
 refine ax_call rfl (vc_pure0 (c_szDisk (by omega) (by omega) wd) hP rfl rfl ?_)
 refine ax_q (q_mov rfl) ?_
 refine ax_nil ?_
 refine cx_keep rfl rfl ?_
 refine cx_seq ?_
 refine cx_seq ?_
 refine cx_ops ?_
 refine ax_q (q_mov rfl) ?_
 refine ax_q (q_ibin rfl rfl rfl) ?_
 refine ax_nil ?_
 refine cx_keep rfl rfl ?_
 refine cx_cond rfl (fun h0 => ?_) (fun h0 => ?_)
 ·
  have h0 := dT h0
  refine cx_seq ?_
  refine cx_ops ?_
  refine ax_q (q_mov rfl) ?_
  refine ax_nil ?_
  refine cx_keep rfl rfl ?_
  refine cx_ret (ret0 rfl rfl ?_)
  exact ⟨rfl, rfl⟩
 ·
  have h0 := dF h0
  have ⟨ld0, ld1, ld2⟩ : d.Sectors.length ≤ 1048576 ∧ d.Cache.length ≤ 1048576 ∧ d.Keep.length ≤ 1048576 := by
   have : GDisk.sz d = szL List.length d.Sectors + szL GPending.sz d.Cache + szL (fun _ => 0) d.Keep := rfl
   have := @szL_len _ List.length (d.Sectors)
   have := @szL_len _ GPending.sz (d.Cache)
   have := @szL_len _ (fun _ => 0) (d.Keep)
   omega
  have hlen := @readF_len d top
  refine cx_skip ?_
  refine cx_keep rfl rfl ?_
  refine cx_seq ?_
  refine cx_ops ?_
  refine ax_q (q_ldN rfl rfl rfl) ?_
  first | refine ax_call rfl (vc_pure (c_toDisk  ?_ ?_ ?_) hP rfl ?_) | refine ax_call rfl (vc_lend (c_toDisk  ?_ ?_ ?_) hP (by repeat (first | exact lal_id _ rfl | exact LAL.nil | refine LAL.cons ?_ ?_ | exact la_id _ rfl | exact LA.lend (lend_whole rfl (by first | (simp; done) | (rw [List.length_map]; rfl))) | refine LA.agg ?_ | refine LA.fn ?_ | refine LA.lend ?_ | exact Lend.d _ | exact Lend.zs _ | exact lend_whole rfl (by first | (simp; done) | (rw [List.length_map]; rfl)) | refine Lend.ptr rfl ?_ | refine Lend.fn ?_ | exact LendL.nil | refine LendL.cons ?_ ?_)) ?_)
  ·
   first | assumption | omega | (simp; done) | (simp; omega)
  ·
   first | assumption | omega | (simp; done) | (simp; omega)
  ·
   first | assumption | omega | (simp; done) | (simp; omega)
  rintro r h ⟨rfl, rfl⟩
  refine ⟨fun i => 23 + 200 * i, [0, 1, 2], ⟨rfl, rfl, rfl, rfl, rfl, (by first | exact (fun h => absurd h Bool.false_ne_true) | exact (fun _ => ⟨rfl, (noisl_of (by repeat (first | exact trivial | refine ⟨noisl_map (fun _ => rfl), ?_⟩ | refine ⟨?_, ?_⟩)))⟩))⟩, ?_⟩
  skip
  refine ax_q (q_mov rfl) ?_
  first | refine ax_call rfl (vc_pure (c_sReadLog  ?_ ?_ ?_) hP rfl ?_) | refine ax_call rfl (vc_lend (c_sReadLog  ?_ ?_ ?_) hP (by repeat (first | exact lal_id _ rfl | exact LAL.nil | refine LAL.cons ?_ ?_ | exact la_id _ rfl | exact LA.lend (lend_whole rfl (by first | (simp; done) | (rw [List.length_map]; rfl))) | refine LA.agg ?_ | refine LA.fn ?_ | refine LA.lend ?_ | exact Lend.d _ | exact Lend.zs _ | exact lend_whole rfl (by first | (simp; done) | (rw [List.length_map]; rfl)) | refine Lend.ptr rfl ?_ | refine Lend.fn ?_ | exact LendL.nil | refine LendL.cons ?_ ?_)) ?_)
  ·
   first | assumption | omega | (simp; done) | (simp; omega)
  ·
   first | assumption | omega | (simp; done) | (simp; omega)
  ·
   first | assumption | omega | (simp; done) | (simp; omega)
  rintro r h ⟨rfl, rfl⟩
  refine ⟨fun i => 25 + 200 * i, [0], ⟨rfl, rfl, rfl, rfl, rfl, (by first | exact (fun h => absurd h Bool.false_ne_true) | exact (fun _ => ⟨rfl, (noisl_of (by repeat (first | exact trivial | refine ⟨noisl_map (fun _ => rfl), ?_⟩ | refine ⟨?_, ?_⟩)))⟩))⟩, ?_⟩
  skip
  refine ax_q (q_mov rfl) ?_
  refine ax_q (q_ext rfl rfl) ?_
  refine ax_q (q_ext rfl rfl) ?_
  refine ax_q (q_mov rfl) ?_
  refine ax_q (q_mov rfl) ?_
  refine ax_nil ?_
  refine cx_keep rfl rfl ?_
  refine cx_seq ?_
  refine cx_ops ?_
  refine ax_q (q_ldN rfl rfl rfl) ?_
  first | refine ax_call rfl (vc_pure (c_toDisk  ?_ ?_ ?_) hP rfl ?_) | refine ax_call rfl (vc_lend (c_toDisk  ?_ ?_ ?_) hP (by repeat (first | exact lal_id _ rfl | exact LAL.nil | refine LAL.cons ?_ ?_ | exact la_id _ rfl | exact LA.lend (lend_whole rfl (by first | (simp; done) | (rw [List.length_map]; rfl))) | refine LA.agg ?_ | refine LA.fn ?_ | refine LA.lend ?_ | exact Lend.d _ | exact Lend.zs _ | exact lend_whole rfl (by first | (simp; done) | (rw [List.length_map]; rfl)) | refine Lend.ptr rfl ?_ | refine Lend.fn ?_ | exact LendL.nil | refine LendL.cons ?_ ?_)) ?_)
  ·
   first | assumption | omega | (simp; done) | (simp; omega)
  ·
   first | assumption | omega | (simp; done) | (simp; omega)
  ·
   first | assumption | omega | (simp; done) | (simp; omega)
  rintro r h ⟨rfl, rfl⟩
  refine ⟨fun i => 29 + 200 * i, [0, 1, 2], ⟨rfl, rfl, rfl, rfl, rfl, (by first | exact (fun h => absurd h Bool.false_ne_true) | exact (fun _ => ⟨rfl, (noisl_of (by repeat (first | exact trivial | refine ⟨noisl_map (fun _ => rfl), ?_⟩ | refine ⟨?_, ?_⟩)))⟩))⟩, ?_⟩
  skip
  refine ax_e (e_alloc (by decide) rfl rfl) ?_
  refine ax_e (e_st rfl rfl rfl rfl rfl rfl rfl) ?_
  refine ax_nil ?_
  refine cx_keep rfl rfl ?_
  refine cx_seq ?_
  refine cx_ops ?_
  refine ax_q (q_ldN rfl rfl rfl) ?_
  refine ax_q (q_mov rfl) ?_
  first | refine ax_call rfl (vc_pure (c_ReadLog  ?_ ?_ ?_) hP rfl ?_) | refine ax_call rfl (vc_lend (c_ReadLog  ?_ ?_ ?_) hP (by repeat (first | exact lal_id _ rfl | exact LAL.nil | refine LAL.cons ?_ ?_ | exact la_id _ rfl | exact LA.lend (lend_whole rfl (by first | (simp; done) | (rw [List.length_map]; rfl))) | refine LA.agg ?_ | refine LA.fn ?_ | refine LA.lend ?_ | exact Lend.d _ | exact Lend.zs _ | exact lend_whole rfl (by first | (simp; done) | (rw [List.length_map]; rfl)) | refine Lend.ptr rfl ?_ | refine Lend.fn ?_ | exact LendL.nil | refine LendL.cons ?_ ?_)) ?_)
  ·
   first | assumption | omega | (simp; done) | (simp; omega)
  ·
   first | assumption | omega | (simp; done) | (simp; omega)
  ·
   first | assumption | omega | (simp; done) | (simp; omega)
  rintro r h ⟨rfl, rfl⟩
  refine ⟨fun i => 33 + 200 * i, [0], ⟨rfl, rfl, rfl, rfl, rfl, (by first | exact (fun h => absurd h Bool.false_ne_true) | exact (fun _ => ⟨rfl, (noisl_of (by repeat (first | exact trivial | refine ⟨noisl_map (fun _ => rfl), ?_⟩ | refine ⟨?_, ?_⟩)))⟩))⟩, ?_⟩
  skip
  refine ax_q (q_mov rfl) ?_
  refine ax_q (q_ext rfl rfl) ?_
  refine ax_q (q_ext rfl rfl) ?_
  refine ax_q (q_mov rfl) ?_
  refine ax_q (q_mov rfl) ?_
  refine ax_nil ?_
  refine cx_keep rfl rfl ?_
  refine cx_seq ?_
  refine cx_seq ?_
  refine cx_ops ?_
  refine ax_q (q_mov rfl) ?_
  refine ax_q (q_mov rfl) ?_
  first | refine ax_call rfl (vc_pure0 (c_eqLogRecordS  ?_) hP rfl rfl ?_) | refine ax_call rfl (vc_lend0 (c_eqLogRecordS  ?_) hP (by repeat (first | exact lal_id _ rfl | exact LAL.nil | refine LAL.cons ?_ ?_ | exact la_id _ rfl | exact LA.lend (lend_whole rfl (by first | (simp; done) | (rw [List.length_map]; rfl))) | refine LA.agg ?_ | refine LA.fn ?_ | refine LA.lend ?_ | exact Lend.d _ | exact Lend.zs _ | exact lend_whole rfl (by first | (simp; done) | (rw [List.length_map]; rfl)) | refine Lend.ptr rfl ?_ | refine Lend.fn ?_ | exact LendL.nil | refine LendL.cons ?_ ?_)) rfl rfl ?_)
  ·
   first | assumption | omega | (simp; done) | (simp; omega)
  refine ax_q (q_not rfl) ?_
  refine ax_q (q_mov rfl) ?_
  apply ax_or rfl rfl
  ·
   intro g
   have g := bF g
   refine ax_q (q_mov rfl) ?_
   refine ax_q (q_mov rfl) ?_
   refine ax_q (q_ibin rfl rfl rfl) ?_
   exact ax_nil ⟨rfl, by repeat (first | exact trivial | refine ⟨rfl, ?_⟩ | refine ⟨?_, ?_⟩)⟩
  refine ax_nil ?_
  refine cx_keep rfl rfl ?_
  refine cx_cond rfl (fun h1 => ?_) (fun h1 => ?_)
  ·
   have h1 := (fun h => (or_T h).imp bT nT) h1
   first | exact absurd rfl h1 | (exfalso; omega) | exact absurd h1 (by simp [eqb_rfl] <;> omega)
  ·
   have h1 := (fun h => And.intro (bF (or_F h).1) (nF (or_F h).2)) h1
   refine cx_skip ?_
   refine cx_keep rfl rfl ?_
   refine cx_seq ?_
   refine cx_seq ?_
   refine cx_drawL 0 45 (fun _ => false) (fun _ => true) [] ([]) [[8], [2], [46]] [[], [], []] rfl ?_
   first | refine ⟨⟨45, _, []⟩, .inl ⟨rfl, rfl, rfl, locl_of (loc_q (q_ldN rfl rfl rfl))⟩, ?_⟩
   first | refine ⟨_, .inr ⟨rfl, _, rfl, .inr ⟨rfl, rfl, .inr rfl, rfl, rfl⟩, loc_q (q_ldN rfl rfl rfl)⟩, ?_⟩
   first | refine ⟨_, .inr ⟨rfl, _, rfl, .inr ⟨rfl, rfl, .inr rfl, rfl, rfl⟩, loc_call (fun i => 47 + 200 * i) false rfl (c_toDisk  (by first | assumption | omega | (simp; done) | (simp; omega)) (by first | assumption | omega | (simp; done) | (simp; omega)) (by first | assumption | omega | (simp; done) | (simp; omega))) hP (.inr ⟨rfl, rfl, rfl⟩) rfl rfl (fun h => by cases h)⟩, ?_⟩ | refine ⟨_, .inr ⟨rfl, _, rfl, .inr ⟨rfl, rfl, .inr rfl, rfl, rfl⟩, loc_call (fun i => 47 + 200 * i) true rfl (c_toDisk  (by first | assumption | omega | (simp; done) | (simp; omega)) (by first | assumption | omega | (simp; done) | (simp; omega)) (by first | assumption | omega | (simp; done) | (simp; omega))) hP (.inl ⟨rfl, (by repeat (first | exact lal_id _ rfl | exact LAL.nil | refine LAL.cons ?_ ?_ | exact la_id _ rfl | exact LA.lend (lend_whole rfl (by first | (simp; done) | (rw [List.length_map]; rfl))) | refine LA.agg ?_ | refine LA.fn ?_ | refine LA.lend ?_ | exact Lend.d _ | exact Lend.zs _ | exact lend_whole rfl (by first | (simp; done) | (rw [List.length_map]; rfl)) | refine Lend.ptr rfl ?_ | refine Lend.fn ?_ | exact LendL.nil | refine LendL.cons ?_ ?_))⟩) rfl rfl (fun _ => ⟨rfl, noisl_of (by repeat (first | exact trivial | refine ⟨noisl_map (fun _ => rfl), ?_⟩ | refine ⟨?_, ?_⟩))⟩)⟩, ?_⟩
   refine ⟨rfl, ?_⟩
   first | refine ax_call rfl (vc_pure0 (c_eqDisk  ?_ ?_ ?_) hP rfl rfl ?_) | refine ax_call rfl (vc_lend0 (c_eqDisk  ?_ ?_ ?_) hP (by repeat (first | exact lal_id _ rfl | exact LAL.nil | refine LAL.cons ?_ ?_ | exact la_id _ rfl | exact LA.lend (lend_whole rfl (by first | (simp; done) | (rw [List.length_map]; rfl))) | refine LA.agg ?_ | refine LA.fn ?_ | refine LA.lend ?_ | exact Lend.d _ | exact Lend.zs _ | exact lend_whole rfl (by first | (simp; done) | (rw [List.length_map]; rfl)) | refine Lend.ptr rfl ?_ | refine Lend.fn ?_ | exact LendL.nil | refine LendL.cons ?_ ?_)) rfl rfl ?_)
   ·
    first | assumption | omega | (simp; done) | (simp; omega)
   ·
    first | assumption | omega | (simp; done) | (simp; omega)
   ·
    first | assumption | omega | (simp; done) | (simp; omega)
   refine ax_q (q_not rfl) ?_
   refine ax_nil ?_
   refine cx_keep rfl rfl ?_
   refine cx_cond rfl (fun h2 => ?_) (fun h2 => ?_)
   ·
    have h2 := bT h2
    first | exact absurd rfl h2 | (exfalso; omega) | exact absurd h2 (by simp [eqb_rfl] <;> omega)
   ·
    have h2 := bF h2
    refine cx_skip ?_
    refine cx_keep rfl rfl ?_
    refine cx_seq ?_
    refine cx_ops ?_
    refine ax_q (q_mov rfl) ?_
    refine ax_nil ?_
    refine cx_keep rfl rfl ?_
    refine cx_seq ?_
    refine cx_ops ?_
    refine ax_q (q_ldN rfl rfl rfl) ?_
    refine ax_q (q_mov rfl) ?_
    refine ax_call rfl (vcall_own (c_markDisk (a := d) (k0 := 1) (by show _ ≤ _; first | omega | (simp only [GDisk.mkN]; omega))) hP hmv false (fun e => bif Nat.beq e 1000 then 29 else bif Nat.beq e 1001 then 229 else 429) [1000, 1001, 1002] ⟨rfl, rfl, rfl, rfl, (by repeat (first | exact trivial | refine ⟨rfl, ?_⟩)), rfl, rfl, rfl⟩ (.pass rfl rfl (.pass rfl rfl .nil)) ?_)
    rintro r h ⟨rfl, rfl⟩
    refine ⟨fun e => bif Nat.beq e 1000 then 29 else bif Nat.beq e 1001 then 229 else 429, [], ⟨rfl, rfl, rfl, rfl, (mem3 rfl rfl rfl), rfl, rfl, fun h => by cases h⟩, ?_⟩
    refine ax_q (q_mov rfl) ?_
    refine ax_nil ?_
    refine cx_keep rfl rfl ?_
    refine cx_seq ?_
    refine cx_seq ?_
    refine cx_ops ?_
    refine ax_q (q_mov rfl) ?_
    refine ax_q (q_ibin rfl rfl rfl) ?_
    refine ax_q (q_mov rfl) ?_
    apply ax_or rfl rfl
    ·
     intro g
     have g := dF g
     refine ax_q (q_mov rfl) ?_
     refine ax_q (q_mov rfl) ?_
     first | refine ax_call rfl (vc_pure0 (c_eqLogRecordS  ?_) hP rfl rfl ?_) | refine ax_call rfl (vc_lend0 (c_eqLogRecordS  ?_) hP (by repeat (first | exact lal_id _ rfl | exact LAL.nil | refine LAL.cons ?_ ?_ | exact la_id _ rfl | exact LA.lend (lend_whole rfl (by first | (simp; done) | (rw [List.length_map]; rfl))) | refine LA.agg ?_ | refine LA.fn ?_ | refine LA.lend ?_ | exact Lend.d _ | exact Lend.zs _ | exact lend_whole rfl (by first | (simp; done) | (rw [List.length_map]; rfl)) | refine Lend.ptr rfl ?_ | refine Lend.fn ?_ | exact LendL.nil | refine LendL.cons ?_ ?_)) rfl rfl ?_)
     ·
      first | assumption | omega | (simp; done) | (simp; omega)
     refine ax_q (q_not rfl) ?_
     exact ax_nil ⟨rfl, by repeat (first | exact trivial | refine ⟨rfl, ?_⟩ | refine ⟨?_, ?_⟩)⟩
    refine ax_q (q_mov rfl) ?_
    apply ax_or rfl rfl
    ·
     intro g
     have g := (fun h => And.intro (dF (or_F h).1) (bF (or_F h).2)) g
     refine ax_q (q_mov rfl) ?_
     refine ax_q (q_mov rfl) ?_
     refine ax_q (q_ibin rfl rfl rfl) ?_
     exact ax_nil ⟨rfl, by repeat (first | exact trivial | refine ⟨rfl, ?_⟩ | refine ⟨?_, ?_⟩)⟩
    refine ax_nil ?_
    refine cx_keep rfl rfl ?_
    refine cx_cond rfl (fun h3 => ?_) (fun h3 => ?_)
    ·
     have h3 := (fun h => (or_T h).imp (fun h => (or_T h).imp dT bT) nT) h3
     first | exact absurd rfl h3 | (exfalso; omega) | exact absurd h3 (by simp [eqb_rfl] <;> omega)
    ·
     have h3 := (fun h => And.intro ((fun h => And.intro (dF (or_F h).1) (bF (or_F h).2)) (or_F h).1) (nF (or_F h).2)) h3
     refine cx_skip ?_
     refine cx_keep rfl rfl ?_
     refine cx_seq ?_
     refine cx_ops ?_
     refine ax_q (q_mov rfl) ?_
     refine ax_nil ?_
     refine cx_keep rfl rfl ?_
     refine cx_seq ?_
     refine cx_ops ?_
     refine ax_q (q_mov rfl) ?_
     refine ax_q (q_mov rfl) ?_
     refine ax_call rfl (vcall_own (c_markLogRecordS (xs := (readF d top).1) (k0 := 1) (by show _ ≤ _; first | omega | (simp only [GDisk.mkN]; omega))) hP hmv false (fun e => 33) [1000] ⟨rfl, rfl, rfl, rfl, (by repeat (first | exact trivial | refine ⟨rfl, ?_⟩)), rfl, rfl, rfl⟩ (.pass rfl rfl (.pass rfl rfl .nil)) ?_)
     rintro r h ⟨rfl, rfl⟩
     refine ⟨fun e => 33, [], ⟨rfl, rfl, rfl, rfl, (mem1 rfl), rfl, rfl, fun h => by cases h⟩, ?_⟩
     refine ax_q (q_mov rfl) ?_
     refine ax_nil ?_
     refine cx_keep rfl rfl ?_
     refine cx_seq ?_
     refine cx_ops ?_
     refine ax_q (q_mov rfl) ?_
     refine ax_nil ?_
     refine cx_keep rfl rfl ?_
     refine cx_seq ?_
     refine cx_ops ?_
     refine ax_q (q_mov rfl) ?_
     refine ax_q (q_mov rfl) ?_
     refine ax_call rfl (vc_lend0 (c_heldLogRecordS (xs := (readF d top).1) (k0 := 1) (by show _ ≤ _; first | omega | (simp only [GDisk.mkN]; omega))) hP (by repeat (first | exact lal_id _ rfl | exact LAL.nil | refine LAL.cons ?_ ?_ | exact la_id _ rfl | exact LA.lend (lend_whole rfl (by simp [GDisk.mkS, markL_len])) | refine LA.agg ?_ | refine LA.fn ?_ | refine LA.lend ?_ | exact Lend.d _ | exact Lend.zs _ | exact lend_whole rfl (by simp [GDisk.mkS, markL_len]) | refine Lend.ptr rfl ?_ | refine Lend.fn ?_ | exact LendL.nil | refine LendL.cons ?_ ?_)) rfl rfl ?_)
     refine ax_q (q_mov rfl) ?_
     refine ax_nil ?_
     refine cx_keep rfl rfl ?_
     refine cx_seq ?_
     refine cx_seq ?_
     refine cx_ops ?_
     refine ax_q (q_mov rfl) ?_
     refine ax_q (q_ibin rfl rfl rfl) ?_
     refine ax_nil ?_
     refine cx_keep rfl rfl ?_
     refine cx_cond rfl (fun h4 => ?_) (fun h4 => ?_)
     ·
      have h4 := dT h4
      first | exact absurd rfl h4 | (exfalso; omega) | exact absurd h4 (by simp [eqb_rfl] <;> omega)
     ·
      have h4 := dF h4
      refine cx_skip ?_
      refine cx_keep rfl rfl ?_
      refine cx_seq ?_
      refine cx_seq ?_
      refine cx_ops ?_
      refine ax_q (q_mov rfl) ?_
      refine ax_q (q_mov rfl) ?_
      refine ax_q (q_ibin rfl rfl rfl) ?_
      refine ax_nil ?_
      refine cx_keep rfl rfl ?_
      refine cx_cond rfl (fun h5 => ?_) (fun h5 => ?_)
      ·
       have h5 := nT h5
       first | exact absurd rfl h5 | (exfalso; omega) | exact absurd h5 (by simp [eqb_rfl] <;> omega)
      ·
       have h5 := nF h5
       refine cx_skip ?_
       refine cx_keep rfl rfl ?_
       refine cx_seq ?_
       refine cx_ops ?_
       refine ax_q (q_ldN rfl rfl rfl) ?_
       first | refine ax_call rfl (vc_pure (c_toDisk  ?_ ?_ ?_) hP rfl ?_) | refine ax_call rfl (vc_lend (c_toDisk  ?_ ?_ ?_) hP (by repeat (first | exact lal_id _ rfl | exact LAL.nil | refine LAL.cons ?_ ?_ | exact la_id _ rfl | exact LA.lend (lend_whole rfl (by first | (simp; done) | (rw [List.length_map]; rfl))) | refine LA.agg ?_ | refine LA.fn ?_ | refine LA.lend ?_ | exact Lend.d _ | exact Lend.zs _ | exact lend_whole rfl (by first | (simp; done) | (rw [List.length_map]; rfl)) | refine Lend.ptr rfl ?_ | refine Lend.fn ?_ | exact LendL.nil | refine LendL.cons ?_ ?_)) ?_)
       ·
        first | assumption | omega | (simp; done) | (simp; omega)
       ·
        first | assumption | omega | (simp; done) | (simp; omega)
       ·
        first | assumption | omega | (simp; done) | (simp; omega)
       rintro r h ⟨rfl, rfl⟩
       refine ⟨fun i => 79 + 200 * i, [0, 1, 2], ⟨rfl, rfl, rfl, rfl, rfl, (by first | exact (fun h => absurd h Bool.false_ne_true) | exact (fun _ => ⟨rfl, (noisl_of (by repeat (first | exact trivial | refine ⟨noisl_map (fun _ => rfl), ?_⟩ | refine ⟨?_, ?_⟩)))⟩))⟩, ?_⟩
       skip
       refine ax_q (q_mov rfl) ?_
       first | refine ax_call rfl (vc_pure (c_ReadLog  ?_ ?_ ?_) hP rfl ?_) | refine ax_call rfl (vc_lend (c_ReadLog  ?_ ?_ ?_) hP (by repeat (first | exact lal_id _ rfl | exact LAL.nil | refine LAL.cons ?_ ?_ | exact la_id _ rfl | exact LA.lend (lend_whole rfl (by first | (simp; done) | (rw [List.length_map]; rfl))) | refine LA.agg ?_ | refine LA.fn ?_ | refine LA.lend ?_ | exact Lend.d _ | exact Lend.zs _ | exact lend_whole rfl (by first | (simp; done) | (rw [List.length_map]; rfl)) | refine Lend.ptr rfl ?_ | refine Lend.fn ?_ | exact LendL.nil | refine LendL.cons ?_ ?_)) ?_)
       ·
        first | assumption | omega | (simp; done) | (simp; omega)
       ·
        first | assumption | omega | (simp; done) | (simp; omega)
       ·
        first | assumption | omega | (simp; done) | (simp; omega)
       rintro r h ⟨rfl, rfl⟩
       refine ⟨fun i => 81 + 200 * i, [0], ⟨rfl, rfl, rfl, rfl, rfl, (by first | exact (fun h => absurd h Bool.false_ne_true) | exact (fun _ => ⟨rfl, (noisl_of (by repeat (first | exact trivial | refine ⟨noisl_map (fun _ => rfl), ?_⟩ | refine ⟨?_, ?_⟩)))⟩))⟩, ?_⟩
       skip
       refine ax_q (q_mov rfl) ?_
       refine ax_q (q_ext rfl rfl) ?_
       refine ax_q (q_ext rfl rfl) ?_
       refine ax_q (q_mov rfl) ?_
       refine ax_q (q_mov rfl) ?_
       refine ax_nil ?_
       refine cx_keep rfl rfl ?_
       refine cx_seq ?_
       refine cx_seq ?_
       refine cx_ops ?_
       refine ax_q (q_mov rfl) ?_
       refine ax_q (q_mov rfl) ?_
       first | refine ax_call rfl (vc_pure0 (c_eqLogRecordS  ?_) hP rfl rfl ?_) | refine ax_call rfl (vc_lend0 (c_eqLogRecordS  ?_) hP (by repeat (first | exact lal_id _ rfl | exact LAL.nil | refine LAL.cons ?_ ?_ | exact la_id _ rfl | exact LA.lend (lend_whole rfl (by first | (simp; done) | (rw [List.length_map]; rfl))) | refine LA.agg ?_ | refine LA.fn ?_ | refine LA.lend ?_ | exact Lend.d _ | exact Lend.zs _ | exact lend_whole rfl (by first | (simp; done) | (rw [List.length_map]; rfl)) | refine Lend.ptr rfl ?_ | refine Lend.fn ?_ | exact LendL.nil | refine LendL.cons ?_ ?_)) rfl rfl ?_)
       ·
        first | assumption | omega | (simp; done) | (simp; omega)
       refine ax_q (q_not rfl) ?_
       refine ax_q (q_mov rfl) ?_
       apply ax_or rfl rfl
       ·
        intro g
        have g := bF g
        refine ax_q (q_mov rfl) ?_
        refine ax_q (q_mov rfl) ?_
        refine ax_q (q_ibin rfl rfl rfl) ?_
        exact ax_nil ⟨rfl, by repeat (first | exact trivial | refine ⟨rfl, ?_⟩ | refine ⟨?_, ?_⟩)⟩
       refine ax_nil ?_
       refine cx_keep rfl rfl ?_
       refine cx_cond rfl (fun h6 => ?_) (fun h6 => ?_)
       ·
        have h6 := (fun h => (or_T h).imp bT nT) h6
        first | exact absurd rfl h6 | (exfalso; omega) | exact absurd h6 (by simp [eqb_rfl] <;> omega)
       ·
        have h6 := (fun h => And.intro (bF (or_F h).1) (nF (or_F h).2)) h6
        refine cx_skip ?_
        refine cx_keep rfl rfl ?_
        refine cx_seq ?_
        refine cx_ops ?_
        refine ax_q (q_mov rfl) ?_
        refine ax_nil ?_
        refine cx_keep rfl rfl ?_
        refine cx_seq ?_
        refine cx_ops ?_
        refine ax_q (q_mov rfl) ?_
        refine ax_q (q_mov rfl) ?_
        refine ax_call rfl (vc_lend0 (c_heldLogRecordS (xs := (readF d top).1) (k0 := 1) (by show _ ≤ _; first | omega | (simp only [GDisk.mkN]; omega))) hP (by repeat (first | exact lal_id _ rfl | exact LAL.nil | refine LAL.cons ?_ ?_ | exact la_id _ rfl | exact LA.lend (lend_whole rfl (by simp [GDisk.mkS, markL_len])) | refine LA.agg ?_ | refine LA.fn ?_ | refine LA.lend ?_ | exact Lend.d _ | exact Lend.zs _ | exact lend_whole rfl (by simp [GDisk.mkS, markL_len]) | refine Lend.ptr rfl ?_ | refine Lend.fn ?_ | exact LendL.nil | refine LendL.cons ?_ ?_)) rfl rfl ?_)
        refine ax_q (q_mov rfl) ?_
        refine ax_nil ?_
        refine cx_keep rfl rfl ?_
        refine cx_seq ?_
        refine cx_seq ?_
        refine cx_ops ?_
        refine ax_q (q_mov rfl) ?_
        refine ax_q (q_ibin rfl rfl rfl) ?_
        refine ax_nil ?_
        refine cx_keep rfl rfl ?_
        refine cx_cond rfl (fun h7 => ?_) (fun h7 => ?_)
        ·
         have h7 := dT h7
         first | exact absurd rfl h7 | (exfalso; omega) | exact absurd h7 (by simp [eqb_rfl] <;> omega)
        ·
         have h7 := dF h7
         refine cx_skip ?_
         refine cx_keep rfl rfl ?_
         refine cx_seq ?_
         refine cx_seq ?_
         refine cx_ops ?_
         refine ax_q (q_mov rfl) ?_
         refine ax_q (q_mov rfl) ?_
         refine ax_q (q_ibin rfl rfl rfl) ?_
         refine ax_nil ?_
         refine cx_keep rfl rfl ?_
         refine cx_cond rfl (fun h8 => ?_) (fun h8 => ?_)
         ·
          have h8 := nT h8
          first | exact absurd rfl h8 | (exfalso; omega) | exact absurd h8 (by simp [eqb_rfl] <;> omega)
         ·
          have h8 := nF h8
          refine cx_skip ?_
          refine cx_keep rfl rfl ?_
          refine cx_seq ?_
          refine cx_ops ?_
          refine ax_q (q_mov rfl) ?_
          refine ax_nil ?_
          refine cx_keep rfl rfl ?_
          refine cx_ret (ret0 rfl rfl ?_)
          exact ⟨rfl, rfl⟩

theorem own : ownKnob Try.prog.godebug = none := by kernel_rfl
theorem laid : laidOutB Try.prog = true := by kernel_rfl
theorem closedTs : closedT Try.prog [3, 4, 9, 22, 23, 24, 26, 59] = true := by kernel_rfl
theorem con (rows : List (List D)) (h : HasAll Try.prog Try.f3.params.toList rows) : Con Try.prog noMv 3 (argsAV Try.prog Try.f3.params.toList rows) [] (fun r h => r = AM.bool true ∧ h = []) := by
  rw [Try.params3] at h ⊢
  obtain ⟨d0, r0, rfl, h0, h⟩ := h
  obtain ⟨d1, r1, rfl, h1, h⟩ := h
  obtain rfl := h
  obtain ⟨a0, rfl, w0⟩ := (GDisk.dec Try.underlying26 rfl (dec_slice (sz := 1) Try.underlying22 (by kernel_rfl) (dec_str Try.underlying9)) (dec_slice (sz := 2) Try.underlying23 (by kernel_rfl) (GPending.dec Try.underlying59 rfl (dec_int Try.underlying3) (dec_str Try.underlying9))) (dec_bool Try.underlying4) (dec_slice (sz := 1) Try.underlying24 (by kernel_rfl) (dec_int Try.underlying3))) h0
  obtain ⟨a1, rfl, w1⟩ := (dec_int Try.underlying3) h1
  have e : argsAV Try.prog [26, 3] [GDisk.row a0, intRow a1] = [a0.av, int a1] := by
    first | (simp only [argsAV, argAV, Try.underlying26, Try.underlying3]; done) | (simp only [argsAV, argAV, Try.underlying26, Try.underlying3]; rfl)
  show Con Try.prog noMv 3 (argsAV Try.prog [26, 3] [GDisk.row a0, intRow a1]) [] _
  rw [e]
  exact c_FnExactReadLog w0 w1
set_option maxRecDepth 100000 in
theorem lifted (os : Os) (started : os.Started) (H : Type) (enc : TypeId × Value → H) :
    ReturnsInHanded {} Try.checked os 3 .any (Rows.fnExactReadLogSpec.pre6 enc Try.prog Try.f3 Rows.fnExactReadLogRow.domain false) (Rows.fnExactReadLogSpec.post enc Try.prog Try.f3 false true false false) := by
  refine returnsInHanded_of_change (C := Try.checked) own started (by kernel_rfl) Try.func3
    (ChangeSpec.witness6 (enc := enc) (C := Try.checked) false ⟨#[], #[.agg #[.slice none 0 0, .slice none 0 0, .bool false, .slice none 0 0], .int .i64 0], []⟩ 8 (by kernel_rfl) (by kernel_rfl) (by kernel_rfl) (by kernel_rfl)) ?_
  intro W base args ds gs before hval hW hcnd _
  refine law_contract closedTs laid (by kernel_rfl) rfl rfl Try.underlying4 con (fun hl => ?_) hval hW
  match ds, hl with
  | [x0, x1], _ => rfl
theorem over : Rows.fnExactReadLogRow.holds Try.pinned (OpenSpec.ofChange Rows.fnExactReadLogSpec) :=
  OpenClaim.holds_of_wide 3 Try.f3 rfl rfl rfl rfl rfl rfl rfl ⟨rfl, rfl, rfl, rfl, rfl⟩ rfl rfl rfl rfl rfl (by kernel_rfl) Try.func3 (by kernel_rfl)
    (of_decide_eq_true (by kernel_rfl)) (by unfold Func.isWrapper; first | (rw [if_pos (by decide +kernel)]; kernel_rfl) | (rw [if_neg (by decide +kernel)]; exact ⟨rfl, rfl⟩))
    (fun os started H enc _ => lifted os started H enc)
theorem proved : Rows.FnExactReadLogSaid := over
end fnExactReadLog
end Go.Proofs.Ytnkaifkejkabhaa
#print axioms Go.Proofs.Ytnkaifkejkabhaa.fnExactReadLog.proved
