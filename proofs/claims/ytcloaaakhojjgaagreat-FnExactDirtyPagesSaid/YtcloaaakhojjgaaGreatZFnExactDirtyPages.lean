/- The law FnExactDirtyPages of the given program returns true for all arguments, and its arguments read behind the call as they read before: the statement FnExactDirtyPagesSaid, with no condition. -/
import Derived.Test.YtcloaaakhojjgaaGreatW2
import Derived.Test.YtcloaaakhojjgaaGreatRows
namespace Go.Proofs.YtcloaaakhojjgaaGreat
open Go Go.AM Go.ChangeShapes Go.RowKit
set_option linter.unusedVariables false
set_option linter.unusedSimpArgs false
namespace fnExactDirtyPages
set_option maxRecDepth 10000
/- loop.example/g00332/laws.FnExactDirtyPages -/
def k_c_FnExactDirtyPages : XCode :=
 .seq (.ops [.op (some 1) (.box (.t 0)),
   .op (some 2) (.mov (.k (.bool false)))])
 (.keep [1] (.seq (.ops [.op (some 3) (.mov (.k (.int .i64 1048576)))])
 (.keep [1, 3] (.seq (.ops [.op (some 14) (.loadN 9 (.t 1)),
   .op (some 15) (.mov (.t 3)),
   .call (some 16) 15 [.t 14, .t 15],
   .op (some 3) (.mov (.t 16))])
 (.keep [1, 3] (.seq (.seq (.ops [.op (some 17) (.mov (.t 3)),
   .op (some 18) (.bin .lss (.t 17) (.k (.int .i64 0)))])
  (.keep [1, 18] (.cond (.t 18)
  (.seq (.ops [.op (some 2) (.mov (.k (.bool true)))])
   (.keep [2] (.ret)))
  (.skip))))
 (.keep [1] (.seq (.ops [.op (some 20) (.loadN 9 (.t 1)),
   .call (some 21) 17 [.t 20],
   .call (some 22) 16 [.t 21],
   .op (some 19) (.mov (.t 22)),
   .op (some 23) (.ext (.t 19) 0),
   .op (some 24) (.ext (.t 19) 1),
   .op (some 4) (.mov (.t 23)),
   .op (some 5) (.mov (.t 24))])
 (.keep [1, 4, 5] (.seq (.ops [.op (some 25) (.loadN 9 (.t 1)),
   .call (some 26) 17 [.t 25],
   .op (some 6) (.alloc [.nils 1, .nils 2, .bool false, .nils 1, .int .i64 0, .nils 10, .int .i64 0, .nils 5, .int .i64 0]),
   .op none (.store 9 (.t 6) (.t 26))])
 (.keep [1, 4, 5, 6] (.seq (.ops [.op (some 28) (.loadN 9 (.t 6)),
   .call (some 29) 18 [.t 28],
   .op (some 27) (.mov (.t 29)),
   .op (some 30) (.ext (.t 27) 0),
   .op (some 31) (.ext (.t 27) 1),
   .op (some 7) (.mov (.t 30)),
   .op (some 8) (.mov (.t 31))])
 (.keep [1, 4, 5, 6, 7, 8] (.seq (.seq (.ops [.op (some 32) (.mov (.t 7)),
   .op (some 33) (.mov (.t 4)),
   .call (some 34) 19 [.t 32, .t 33],
   .op (some 35) (.not (.t 34)),
   .op (some 36) (.mov (.t 35)),
   .andor 40 false 4 36 [.op (some 37) (.mov (.t 8)), .op (some 38) (.mov (.t 5)), .op (some 39) (.bin .neq (.t 37) (.t 38))] (.t 39)])
  (.keep [1, 4, 5, 6, 7, 8, 40] (.cond (.t 40)
  (.seq (.ops [.op (some 2) (.mov (.k (.bool false)))])
   (.keep [2] (.ret)))
  (.skip))))
 (.keep [1, 4, 5, 6, 7, 8] (.seq (.seq (.drawE [[], [], [1], [0, 1, 2], [0, 1, 2, 3]] [.op (some 41) (.loadN 9 (.t 6)),
   .op (some 42) (.loadN 9 (.t 1)),
   .call (some 43) 17 [.t 42]]
   [.call (some 44) 20 [.t 41, .t 43],
   .op (some 45) (.not (.t 44))])
  (.keep [1, 4, 5, 6, 7, 8, 45] (.cond (.t 45)
  (.seq (.ops [.op (some 2) (.mov (.k (.bool false)))])
   (.keep [2] (.ret)))
  (.skip))))
 (.keep [1, 4, 5, 6, 7, 8] (.seq (.ops [.op (some 9) (.mov (.k (.int .i64 1)))])
 (.keep [1, 4, 5, 6, 7, 8, 9] (.seq (.ops [.op (some 46) (.loadN 9 (.t 6)),
   .op (some 47) (.mov (.t 9)),
   .call (some 48) 21 [.t 46, .t 47],
   .op (some 9) (.mov (.t 48))])
 (.keep [1, 4, 5, 7, 8, 9] (.seq (.seq (.ops [.op (some 49) (.mov (.t 9)),
   .op (some 50) (.bin .lss (.t 49) (.k (.int .i64 0))),
   .op (some 51) (.mov (.t 50)),
   .andor 56 false 2 51 [.op (some 52) (.mov (.t 7)), .op (some 53) (.mov (.t 4)), .call (some 54) 19 [.t 52, .t 53], .op (some 55) (.not (.t 54))] (.t 55),
   .op (some 57) (.mov (.t 56)),
   .andor 61 false 8 57 [.op (some 58) (.mov (.t 8)), .op (some 59) (.mov (.t 5)), .op (some 60) (.bin .neq (.t 58) (.t 59))] (.t 60)])
  (.keep [1, 4, 5, 7, 61] (.cond (.t 61)
  (.seq (.ops [.op (some 2) (.mov (.k (.bool false)))])
   (.keep [2] (.ret)))
  (.skip))))
 (.keep [1, 4, 5, 7] (.seq (.ops [.op (some 10) (.mov (.k (.int .i64 1)))])
 (.keep [1, 4, 5, 7, 10] (.seq (.ops [.op (some 62) (.mov (.t 7)),
   .op (some 63) (.mov (.t 10)),
   .call (some 64) 22 [.t 62, .t 63],
   .op (some 10) (.mov (.t 64))])
 (.keep [1, 4, 5, 7, 10] (.seq (.ops [.op (some 11) (.mov (.k (.int .i64 1)))])
 (.keep [1, 4, 5, 7, 10, 11] (.seq (.ops [.op (some 65) (.mov (.t 7)),
   .op (some 66) (.mov (.t 11)),
   .call (some 67) 23 [.t 65, .t 66],
   .op (some 11) (.mov (.t 67))])
 (.keep [1, 4, 5, 7, 10, 11] (.seq (.seq (.ops [.op (some 68) (.mov (.t 11)),
   .op (some 69) (.bin .lss (.t 68) (.k (.int .i64 0)))])
  (.keep [1, 4, 5, 7, 10, 11, 69] (.cond (.t 69)
  (.seq (.ops [.op (some 2) (.mov (.k (.bool false)))])
   (.keep [2] (.ret)))
  (.skip))))
 (.keep [1, 4, 5, 7, 10, 11] (.seq (.seq (.ops [.op (some 70) (.mov (.t 11)),
   .op (some 71) (.mov (.t 10)),
   .op (some 72) (.bin .neq (.t 70) (.t 71))])
  (.keep [1, 4, 5, 7, 10, 72] (.cond (.t 72)
  (.seq (.ops [.op (some 2) (.mov (.k (.bool false)))])
   (.keep [2] (.ret)))
  (.skip))))
 (.keep [1, 4, 5, 7, 10] (.seq (.ops [.op (some 74) (.loadN 9 (.t 1)),
   .call (some 75) 17 [.t 74],
   .call (some 76) 18 [.t 75],
   .op (some 73) (.mov (.t 76)),
   .op (some 77) (.ext (.t 73) 0),
   .op (some 78) (.ext (.t 73) 1),
   .op (some 12) (.mov (.t 77)),
   .op (some 13) (.mov (.t 78))])
 (.keep [4, 5, 7, 10, 12, 13] (.seq (.seq (.ops [.op (some 79) (.mov (.t 12)),
   .op (some 80) (.mov (.t 4)),
   .call (some 81) 19 [.t 79, .t 80],
   .op (some 82) (.not (.t 81)),
   .op (some 83) (.mov (.t 82)),
   .andor 87 false 4 83 [.op (some 84) (.mov (.t 13)), .op (some 85) (.mov (.t 5)), .op (some 86) (.bin .neq (.t 84) (.t 85))] (.t 86)])
  (.keep [7, 10, 87] (.cond (.t 87)
  (.seq (.ops [.op (some 2) (.mov (.k (.bool false)))])
   (.keep [2] (.ret)))
  (.skip))))
 (.keep [7, 10] (.seq (.ops [.op (some 11) (.mov (.k (.int .i64 1)))])
 (.keep [7, 10, 11] (.seq (.ops [.op (some 88) (.mov (.t 7)),
   .op (some 89) (.mov (.t 11)),
   .call (some 90) 23 [.t 88, .t 89],
   .op (some 11) (.mov (.t 90))])
 (.keep [10, 11] (.seq (.seq (.ops [.op (some 91) (.mov (.t 11)),
   .op (some 92) (.bin .lss (.t 91) (.k (.int .i64 0)))])
  (.keep [10, 11, 92] (.cond (.t 92)
  (.seq (.ops [.op (some 2) (.mov (.k (.bool false)))])
   (.keep [2] (.ret)))
  (.skip))))
 (.keep [10, 11] (.seq (.seq (.ops [.op (some 93) (.mov (.t 11)),
   .op (some 94) (.mov (.t 10)),
   .op (some 95) (.bin .neq (.t 93) (.t 94))])
  (.keep [95] (.cond (.t 95)
  (.seq (.ops [.op (some 2) (.mov (.k (.bool false)))])
   (.keep [2] (.ret)))
  (.skip))))
 (.keep [] (.seq (.ops [.op (some 2) (.mov (.k (.bool true)))])
 (.keep [2] (.ret))))))))))))))))))))))))))))))))))))))))))))))))))
theorem k_c_FnExactDirtyPages_fits : fitsF Tryz.prog 4 ⟨96, k_c_FnExactDirtyPages, [.t 2]⟩ = true := by kernel_rfl
theorem c_FnExactDirtyPages {s : GStore} (ws : s.wf) : Con Tryz.prog noMv 4 [s.av] [] (fun r h => r = bool true ∧ h = []) := by
 refine con_of2 k_c_FnExactDirtyPages_fits rfl fun C hP hmv => ?_
 unfold k_c_FnExactDirtyPages
 refine cx_seq ?_
 refine cx_ops ?_
 refine ax_e (e_box rfl rfl (by decide) rfl rfl rfl) ?_
 refine ax_q (q_mov rfl) ?_
 refine ax_nil ?_
 refine cx_keep rfl rfl ?_
 refine cx_seq ?_
 refine cx_ops ?_
 refine ax_q (q_mov rfl) ?_
 refine ax_nil ?_
 refine cx_keep rfl rfl ?_
 refine cx_seq ?_
 refine cx_ops ?_
 refine ax_q (q_ldN rfl rfl rfl) ?_
 refine ax_q (q_mov rfl) ?_
 have sp0 := szF_spec (1048576) (GStore.sz s)
 refine ax_call rfl (vc_pure0 (c_szStore (by omega) (by omega) ws) hP rfl rfl ?_)
 refine ax_q (q_mov rfl) ?_
 refine ax_nil ?_
 refine cx_keep rfl rfl ?_
 refine cx_seq ?_
 refine cx_seq ?_
 refine cx_ops ?_
 refine ax_q (q_mov rfl) ?_
 refine ax_q (q_ibin rfl rfl rfl) ?_
 refine ax_nil ?_
 refine cx_keep rfl rfl ?_
 refine cx_cond rfl (fun h0 => ?_) (fun h0 => ?_)
 ·
  have h0 := dT h0
  refine cx_seq ?_
  refine cx_ops ?_
  refine ax_q (q_mov rfl) ?_
  refine ax_nil ?_
  refine cx_keep rfl rfl ?_
  refine cx_ret (ret0 rfl rfl ?_)
  exact ⟨rfl, rfl⟩
 ·
  have h0 := dF h0
  have ⟨ls0, ls1, ls2, ls3, ls4⟩ : s.Disk.Sectors.length ≤ 1048576 ∧ s.Disk.Cache.length ≤ 1048576 ∧ s.Disk.Keep.length ≤ 1048576 ∧ s.Log.length ≤ 1048576 ∧ s.Frames.length ≤ 1048576 := by
   have : GStore.sz s = GDisk.sz s.Disk + szL GLogRecord.sz s.Log + szL GFrame.sz s.Frames := rfl
   have : GDisk.sz s.Disk = szL List.length s.Disk.Sectors + szL GPending.sz s.Disk.Cache + szL (fun _ => 0) s.Disk.Keep := rfl
   have := @szL_len _ List.length (s.Disk.Sectors)
   have := @szL_len _ GPending.sz (s.Disk.Cache)
   have := @szL_len _ (fun _ => 0) (s.Disk.Keep)
   have := @szL_len _ GLogRecord.sz (s.Log)
   have := @szL_len _ GFrame.sz (s.Frames)
   omega
  have hb := stB_of (s := s) ws (by omega)
  have hmk : GStore.mkN 1 s ≤ 1000000000000000000 := store_mkN (by omega)
  have hdl := @dirtyF_len s
  refine cx_skip ?_
  refine cx_keep rfl rfl ?_
  refine cx_seq ?_
  refine cx_ops ?_
  refine ax_q (q_ldN rfl rfl rfl) ?_
  first | refine ax_call rfl (vc_pure (c_toStore  ?_) hP rfl ?_) | refine ax_call rfl (vc_lend (c_toStore  ?_) hP (by repeat (first | exact lal_id _ rfl | exact LAL.nil | refine LAL.cons ?_ ?_ | exact la_id _ rfl | exact LA.lend (lend_whole rfl (by first | (simp; done) | (rw [List.length_map]; rfl))) | refine LA.agg ?_ | refine LA.fn ?_ | refine LA.lend ?_ | exact Lend.d _ | exact Lend.zs _ | exact lend_whole rfl (by first | (simp; done) | (rw [List.length_map]; rfl)) | refine Lend.ptr rfl ?_ | refine Lend.fn ?_ | exact Lend.osld rfl (by rw [List.length_map]) (nn_map (fun _ => rfl)) | exact LendL.nil | refine LendL.cons ?_ ?_)) ?_)
  ·
   first | assumption | omega | (simp; done) | (simp; omega)
  rintro r h ⟨rfl, rfl⟩
  refine ⟨fun i => 21 + 200 * i, [0, 1, 2, 3, 4], ⟨rfl, rfl, rfl, rfl, rfl, (by first | exact (fun h => absurd h Bool.false_ne_true) | exact (fun _ => ⟨rfl, (noisl_of (by repeat (first | exact trivial | refine ⟨noisl_map (fun _ => rfl), ?_⟩ | refine ⟨?_, ?_⟩)))⟩))⟩, ?_⟩
  skip
  first | refine ax_call rfl (vc_pure (c_sDirtyPages  ?_) hP rfl ?_) | refine ax_call rfl (vc_lend (c_sDirtyPages  ?_) hP (by repeat (first | exact lal_id _ rfl | exact LAL.nil | refine LAL.cons ?_ ?_ | exact la_id _ rfl | exact LA.lend (lend_whole rfl (by first | (simp; done) | (rw [List.length_map]; rfl))) | refine LA.agg ?_ | refine LA.fn ?_ | refine LA.lend ?_ | exact Lend.d _ | exact Lend.zs _ | exact lend_whole rfl (by first | (simp; done) | (rw [List.length_map]; rfl)) | refine Lend.ptr rfl ?_ | refine Lend.fn ?_ | exact Lend.osld rfl (by rw [List.length_map]) (nn_map (fun _ => rfl)) | exact LendL.nil | refine LendL.cons ?_ ?_)) ?_)
  ·
   first | assumption | omega | (simp; done) | (simp; omega)
  rintro r h ⟨rfl, rfl⟩
  refine ⟨fun i => 22 + 200 * i, [0], ⟨rfl, rfl, rfl, rfl, rfl, (by first | exact (fun h => absurd h Bool.false_ne_true) | exact (fun _ => ⟨rfl, (noisl_of (by repeat (first | exact trivial | refine ⟨noisl_map (fun _ => rfl), ?_⟩ | refine ⟨?_, ?_⟩)))⟩))⟩, ?_⟩
  skip
  refine ax_q (q_mov rfl) ?_
  refine ax_q (q_ext rfl rfl) ?_
  refine ax_q (q_ext rfl rfl) ?_
  refine ax_q (q_mov rfl) ?_
  refine ax_q (q_mov rfl) ?_
  refine ax_nil ?_
  refine cx_keep rfl rfl ?_
  refine cx_seq ?_
  refine cx_ops ?_
  refine ax_q (q_ldN rfl rfl rfl) ?_
  first | refine ax_call rfl (vc_pure (c_toStore  ?_) hP rfl ?_) | refine ax_call rfl (vc_lend (c_toStore  ?_) hP (by repeat (first | exact lal_id _ rfl | exact LAL.nil | refine LAL.cons ?_ ?_ | exact la_id _ rfl | exact LA.lend (lend_whole rfl (by first | (simp; done) | (rw [List.length_map]; rfl))) | refine LA.agg ?_ | refine LA.fn ?_ | refine LA.lend ?_ | exact Lend.d _ | exact Lend.zs _ | exact lend_whole rfl (by first | (simp; done) | (rw [List.length_map]; rfl)) | refine Lend.ptr rfl ?_ | refine Lend.fn ?_ | exact Lend.osld rfl (by rw [List.length_map]) (nn_map (fun _ => rfl)) | exact LendL.nil | refine LendL.cons ?_ ?_)) ?_)
  ·
   first | assumption | omega | (simp; done) | (simp; omega)
  rintro r h ⟨rfl, rfl⟩
  refine ⟨fun i => 26 + 200 * i, [0, 1, 2, 3, 4], ⟨rfl, rfl, rfl, rfl, rfl, (by first | exact (fun h => absurd h Bool.false_ne_true) | exact (fun _ => ⟨rfl, (noisl_of (by repeat (first | exact trivial | refine ⟨noisl_map (fun _ => rfl), ?_⟩ | refine ⟨?_, ?_⟩)))⟩))⟩, ?_⟩
  skip
  refine ax_e (e_alloc (by decide) rfl rfl) ?_
  refine ax_e (e_st rfl rfl rfl rfl rfl rfl rfl) ?_
  refine ax_nil ?_
  refine cx_keep rfl rfl ?_
  refine cx_seq ?_
  refine cx_ops ?_
  refine ax_q (q_ldN rfl rfl rfl) ?_
  first | refine ax_call rfl (vc_pure (c_DirtyPages  ?_) hP rfl ?_) | refine ax_call rfl (vc_lend (c_DirtyPages  ?_) hP (by repeat (first | exact lal_id _ rfl | exact LAL.nil | refine LAL.cons ?_ ?_ | exact la_id _ rfl | exact LA.lend (lend_whole rfl (by first | (simp; done) | (rw [List.length_map]; rfl))) | refine LA.agg ?_ | refine LA.fn ?_ | refine LA.lend ?_ | exact Lend.d _ | exact Lend.zs _ | exact lend_whole rfl (by first | (simp; done) | (rw [List.length_map]; rfl)) | refine Lend.ptr rfl ?_ | refine Lend.fn ?_ | exact Lend.osld rfl (by rw [List.length_map]) (nn_map (fun _ => rfl)) | exact LendL.nil | refine LendL.cons ?_ ?_)) ?_)
  ·
   first | assumption | omega | (simp; done) | (simp; omega)
  rintro r h ⟨rfl, rfl⟩
  refine ⟨fun i => 29 + 200 * i, [0], ⟨rfl, rfl, rfl, rfl, rfl, (by first | exact (fun h => absurd h Bool.false_ne_true) | exact (fun _ => ⟨rfl, (noisl_of (by repeat (first | exact trivial | refine ⟨noisl_map (fun _ => rfl), ?_⟩ | refine ⟨?_, ?_⟩)))⟩))⟩, ?_⟩
  skip
  refine ax_q (q_mov rfl) ?_
  refine ax_q (q_ext rfl rfl) ?_
  refine ax_q (q_ext rfl rfl) ?_
  refine ax_q (q_mov rfl) ?_
  refine ax_q (q_mov rfl) ?_
  refine ax_nil ?_
  refine cx_keep rfl rfl ?_
  refine cx_seq ?_
  refine cx_seq ?_
  refine cx_ops ?_
  refine ax_q (q_mov rfl) ?_
  refine ax_q (q_mov rfl) ?_
  first | refine ax_call rfl (vc_pure0 (c_eqIntS  ?_) hP rfl rfl ?_) | refine ax_call rfl (vc_lend0 (c_eqIntS  ?_) hP (by repeat (first | exact lal_id _ rfl | exact LAL.nil | refine LAL.cons ?_ ?_ | exact la_id _ rfl | exact LA.lend (lend_whole rfl (by first | (simp; done) | (rw [List.length_map]; rfl))) | refine LA.agg ?_ | refine LA.fn ?_ | refine LA.lend ?_ | exact Lend.d _ | exact Lend.zs _ | exact lend_whole rfl (by first | (simp; done) | (rw [List.length_map]; rfl)) | refine Lend.ptr rfl ?_ | refine Lend.fn ?_ | exact Lend.osld rfl (by rw [List.length_map]) (nn_map (fun _ => rfl)) | exact LendL.nil | refine LendL.cons ?_ ?_)) rfl rfl ?_)
  ·
   first | assumption | omega | (simp; done) | (simp; omega)
  refine ax_q (q_not rfl) ?_
  refine ax_q (q_mov rfl) ?_
  apply ax_or rfl rfl
  ·
   intro g
   have g := bF g
   refine ax_q (q_mov rfl) ?_
   refine ax_q (q_mov rfl) ?_
   refine ax_q (q_ibin rfl rfl rfl) ?_
   exact ax_nil ⟨rfl, by repeat (first | exact trivial | refine ⟨rfl, ?_⟩ | refine ⟨?_, ?_⟩)⟩
  refine ax_nil ?_
  refine cx_keep rfl rfl ?_
  refine cx_cond rfl (fun h1 => ?_) (fun h1 => ?_)
  ·
   have h1 := (fun h => (or_T h).imp bT nT) h1
   first | exact absurd rfl h1 | (exfalso; omega) | exact absurd h1 (by simp [eqb_rfl] <;> omega)
  ·
   have h1 := (fun h => And.intro (bF (or_F h).1) (nF (or_F h).2)) h1
   refine cx_skip ?_
   refine cx_keep rfl rfl ?_
   refine cx_seq ?_
   refine cx_seq ?_
   refine cx_drawL 0 41 (fun _ => false) (fun _ => true) [] ([]) [[6], [1], [42]] [[], [], []] rfl ?_
   first | refine ⟨⟨41, _, []⟩, .inl ⟨rfl, rfl, rfl, locl_of (loc_q (q_ldN rfl rfl rfl))⟩, ?_⟩
   first | refine ⟨_, .inr ⟨rfl, _, rfl, .inr ⟨rfl, rfl, .inr rfl, rfl, rfl⟩, loc_q (q_ldN rfl rfl rfl)⟩, ?_⟩
   first | refine ⟨_, .inr ⟨rfl, _, rfl, .inr ⟨rfl, rfl, .inr rfl, rfl, rfl⟩, loc_call (fun i => 43 + 200 * i) false rfl (c_toStore  (by first | assumption | omega | (simp; done) | (simp; omega))) hP (.inr ⟨rfl, rfl, rfl⟩) rfl rfl (fun h => by cases h)⟩, ?_⟩ | refine ⟨_, .inr ⟨rfl, _, rfl, .inr ⟨rfl, rfl, .inr rfl, rfl, rfl⟩, loc_call (fun i => 43 + 200 * i) true rfl (c_toStore  (by first | assumption | omega | (simp; done) | (simp; omega))) hP (.inl ⟨rfl, (by repeat (first | exact lal_id _ rfl | exact LAL.nil | refine LAL.cons ?_ ?_ | exact la_id _ rfl | exact LA.lend (lend_whole rfl (by first | (simp; done) | (rw [List.length_map]; rfl))) | refine LA.agg ?_ | refine LA.fn ?_ | refine LA.lend ?_ | exact Lend.d _ | exact Lend.zs _ | exact lend_whole rfl (by first | (simp; done) | (rw [List.length_map]; rfl)) | refine Lend.ptr rfl ?_ | refine Lend.fn ?_ | exact Lend.osld rfl (by rw [List.length_map]) (nn_map (fun _ => rfl)) | exact LendL.nil | refine LendL.cons ?_ ?_))⟩) rfl rfl (fun _ => ⟨rfl, noisl_of (by repeat (first | exact trivial | refine ⟨noisl_map (fun _ => rfl), ?_⟩ | refine ⟨?_, ?_⟩))⟩)⟩, ?_⟩
   refine ⟨rfl, ?_⟩
   first | refine ax_call rfl (vc_pure0 (c_eqStore  ?_) hP rfl rfl ?_) | refine ax_call rfl (vc_lend0 (c_eqStore  ?_) hP (by repeat (first | exact lal_id _ rfl | exact LAL.nil | refine LAL.cons ?_ ?_ | exact la_id _ rfl | exact LA.lend (lend_whole rfl (by first | (simp; done) | (rw [List.length_map]; rfl))) | refine LA.agg ?_ | refine LA.fn ?_ | refine LA.lend ?_ | exact Lend.d _ | exact Lend.zs _ | exact lend_whole rfl (by first | (simp; done) | (rw [List.length_map]; rfl)) | refine Lend.ptr rfl ?_ | refine Lend.fn ?_ | exact Lend.osld rfl (by rw [List.length_map]) (nn_map (fun _ => rfl)) | exact LendL.nil | refine LendL.cons ?_ ?_)) rfl rfl ?_)
   ·
    first | assumption | omega | (simp; done) | (simp; omega)
   refine ax_q (q_not rfl) ?_
   refine ax_nil ?_
   refine cx_keep rfl rfl ?_
   refine cx_cond rfl (fun h2 => ?_) (fun h2 => ?_)
   ·
    have h2 := bT h2
    first | exact absurd rfl h2 | (exfalso; omega) | exact absurd h2 (by simp [eqb_rfl] <;> omega)
   ·
    have h2 := bF h2
    refine cx_skip ?_
    refine cx_keep rfl rfl ?_
    refine cx_seq ?_
    refine cx_ops ?_
    refine ax_q (q_mov rfl) ?_
    refine ax_nil ?_
    refine cx_keep rfl rfl ?_
    refine cx_seq ?_
    refine cx_ops ?_
    refine ax_q (q_ldN rfl rfl rfl) ?_
    refine ax_q (q_mov rfl) ?_
    refine ax_call rfl (vcall_own (c_markStore (a := s) (k0 := 1) (by show _ ≤ _; first | omega | assumption)) hP hmv false (fun e => bif Nat.beq e 1000 then 26 else bif Nat.beq e 1001 then 226 else bif Nat.beq e 1002 then 426 else bif Nat.beq e 1003 then 626 else 826) [1000, 1001, 1002, 1003, 1004] ⟨rfl, rfl, rfl, rfl, (by repeat (first | exact trivial | refine ⟨rfl, ?_⟩)), rfl, rfl, rfl⟩ (.pass rfl rfl (.pass rfl rfl .nil)) ?_)
    rintro r h ⟨rs9, rfl, rfl⟩
    refine ⟨fun e => bif Nat.beq e 1000 then 26 else bif Nat.beq e 1001 then 226 else bif Nat.beq e 1002 then 426 else bif Nat.beq e 1003 then 626 else 826, [], ⟨rfl, rfl, rfl, rfl, (mem5 rfl rfl rfl rfl rfl), rfl, rfl, fun h => by cases h⟩, ?_⟩
    refine ax_q (q_mov rfl) ?_
    refine ax_nil ?_
    refine cx_keep rfl rfl ?_
    refine cx_seq ?_
    refine cx_seq ?_
    refine cx_ops ?_
    refine ax_q (q_mov rfl) ?_
    refine ax_q (q_ibin rfl rfl rfl) ?_
    refine ax_q (q_mov rfl) ?_
    apply ax_or rfl rfl
    ·
     intro g
     have g := dF g
     refine ax_q (q_mov rfl) ?_
     refine ax_q (q_mov rfl) ?_
     first | refine ax_call rfl (vc_pure0 (c_eqIntS  ?_) hP rfl rfl ?_) | refine ax_call rfl (vc_lend0 (c_eqIntS  ?_) hP (by repeat (first | exact lal_id _ rfl | exact LAL.nil | refine LAL.cons ?_ ?_ | exact la_id _ rfl | exact LA.lend (lend_whole rfl (by first | (simp; done) | (rw [List.length_map]; rfl))) | refine LA.agg ?_ | refine LA.fn ?_ | refine LA.lend ?_ | exact Lend.d _ | exact Lend.zs _ | exact lend_whole rfl (by first | (simp; done) | (rw [List.length_map]; rfl)) | refine Lend.ptr rfl ?_ | refine Lend.fn ?_ | exact Lend.osld rfl (by rw [List.length_map]) (nn_map (fun _ => rfl)) | exact LendL.nil | refine LendL.cons ?_ ?_)) rfl rfl ?_)
     ·
      first | assumption | omega | (simp; done) | (simp; omega)
     refine ax_q (q_not rfl) ?_
     exact ax_nil ⟨rfl, by repeat (first | exact trivial | refine ⟨rfl, ?_⟩ | refine ⟨?_, ?_⟩)⟩
    refine ax_q (q_mov rfl) ?_
    apply ax_or rfl rfl
    ·
     intro g
     have g := (fun h => And.intro (dF (or_F h).1) (bF (or_F h).2)) g
     refine ax_q (q_mov rfl) ?_
     refine ax_q (q_mov rfl) ?_
     refine ax_q (q_ibin rfl rfl rfl) ?_
     exact ax_nil ⟨rfl, by repeat (first | exact trivial | refine ⟨rfl, ?_⟩ | refine ⟨?_, ?_⟩)⟩
    refine ax_nil ?_
    refine cx_keep rfl rfl ?_
    refine cx_cond rfl (fun h3 => ?_) (fun h3 => ?_)
    ·
     have h3 := (fun h => (or_T h).imp (fun h => (or_T h).imp dT bT) nT) h3
     first | exact absurd rfl h3 | (exfalso; omega) | exact absurd h3 (by simp [eqb_rfl] <;> omega)
    ·
     have h3 := (fun h => And.intro ((fun h => And.intro (dF (or_F h).1) (bF (or_F h).2)) (or_F h).1) (nF (or_F h).2)) h3
     refine cx_skip ?_
     refine cx_keep rfl rfl ?_
     refine cx_seq ?_
     refine cx_ops ?_
     refine ax_q (q_mov rfl) ?_
     refine ax_nil ?_
     refine cx_keep rfl rfl ?_
     refine cx_seq ?_
     refine cx_ops ?_
     refine ax_q (q_mov rfl) ?_
     refine ax_q (q_mov rfl) ?_
     refine ax_call rfl (vcall_own (c_markIntS (xs := (dirtyF s).1) (k0 := 1) (by show _ ≤ _; first | omega | assumption)) hP hmv false (fun e => 29) [1000] ⟨rfl, rfl, rfl, rfl, (by repeat (first | exact trivial | refine ⟨rfl, ?_⟩)), rfl, rfl, rfl⟩ (.pass rfl rfl (.pass rfl rfl .nil)) ?_)
     rintro r h ⟨rfl, rfl⟩
     refine ⟨fun e => 29, [], ⟨rfl, rfl, rfl, rfl, (mem1 rfl), rfl, rfl, fun h => by cases h⟩, ?_⟩
     refine ax_q (q_mov rfl) ?_
     refine ax_nil ?_
     refine cx_keep rfl rfl ?_
     refine cx_seq ?_
     refine cx_ops ?_
     refine ax_q (q_mov rfl) ?_
     refine ax_nil ?_
     refine cx_keep rfl rfl ?_
     refine cx_seq ?_
     refine cx_ops ?_
     refine ax_q (q_mov rfl) ?_
     refine ax_q (q_mov rfl) ?_
     refine ax_call rfl (vc_lend0 (c_heldIntS (xs := (dirtyF s).1) (k0 := 1) (by show _ ≤ _; first | omega | assumption)) hP (by repeat (first | exact lal_id _ rfl | exact LAL.nil | refine LAL.cons ?_ ?_ | exact la_id _ rfl | exact LA.lend (lend_whole rfl (by simp [markL_len])) | refine LA.agg ?_ | refine LA.fn ?_ | refine LA.lend ?_ | exact Lend.d _ | exact Lend.zs _ | exact lend_whole rfl (by simp [markL_len]) | refine Lend.ptr rfl ?_ | refine Lend.fn ?_ | exact LendL.nil | refine LendL.cons ?_ ?_)) rfl rfl ?_)
     refine ax_q (q_mov rfl) ?_
     refine ax_nil ?_
     refine cx_keep rfl rfl ?_
     refine cx_seq ?_
     refine cx_seq ?_
     refine cx_ops ?_
     refine ax_q (q_mov rfl) ?_
     refine ax_q (q_ibin rfl rfl rfl) ?_
     refine ax_nil ?_
     refine cx_keep rfl rfl ?_
     refine cx_cond rfl (fun h4 => ?_) (fun h4 => ?_)
     ·
      have h4 := dT h4
      first | exact absurd rfl h4 | (exfalso; omega) | exact absurd h4 (by simp [eqb_rfl] <;> omega)
     ·
      have h4 := dF h4
      refine cx_skip ?_
      refine cx_keep rfl rfl ?_
      refine cx_seq ?_
      refine cx_seq ?_
      refine cx_ops ?_
      refine ax_q (q_mov rfl) ?_
      refine ax_q (q_mov rfl) ?_
      refine ax_q (q_ibin rfl rfl rfl) ?_
      refine ax_nil ?_
      refine cx_keep rfl rfl ?_
      refine cx_cond rfl (fun h5 => ?_) (fun h5 => ?_)
      ·
       have h5 := nT h5
       first | exact absurd rfl h5 | (exfalso; omega) | exact absurd h5 (by simp [eqb_rfl] <;> omega)
      ·
       have h5 := nF h5
       refine cx_skip ?_
       refine cx_keep rfl rfl ?_
       refine cx_seq ?_
       refine cx_ops ?_
       refine ax_q (q_ldN rfl rfl rfl) ?_
       first | refine ax_call rfl (vc_pure (c_toStore  ?_) hP rfl ?_) | refine ax_call rfl (vc_lend (c_toStore  ?_) hP (by repeat (first | exact lal_id _ rfl | exact LAL.nil | refine LAL.cons ?_ ?_ | exact la_id _ rfl | exact LA.lend (lend_whole rfl (by first | (simp; done) | (rw [List.length_map]; rfl))) | refine LA.agg ?_ | refine LA.fn ?_ | refine LA.lend ?_ | exact Lend.d _ | exact Lend.zs _ | exact lend_whole rfl (by first | (simp; done) | (rw [List.length_map]; rfl)) | refine Lend.ptr rfl ?_ | refine Lend.fn ?_ | exact Lend.osld rfl (by rw [List.length_map]) (nn_map (fun _ => rfl)) | exact LendL.nil | refine LendL.cons ?_ ?_)) ?_)
       ·
        first | assumption | omega | (simp; done) | (simp; omega)
       rintro r h ⟨rfl, rfl⟩
       refine ⟨fun i => 75 + 200 * i, [0, 1, 2, 3, 4], ⟨rfl, rfl, rfl, rfl, rfl, (by first | exact (fun h => absurd h Bool.false_ne_true) | exact (fun _ => ⟨rfl, (noisl_of (by repeat (first | exact trivial | refine ⟨noisl_map (fun _ => rfl), ?_⟩ | refine ⟨?_, ?_⟩)))⟩))⟩, ?_⟩
       skip
       first | refine ax_call rfl (vc_pure (c_DirtyPages  ?_) hP rfl ?_) | refine ax_call rfl (vc_lend (c_DirtyPages  ?_) hP (by repeat (first | exact lal_id _ rfl | exact LAL.nil | refine LAL.cons ?_ ?_ | exact la_id _ rfl | exact LA.lend (lend_whole rfl (by first | (simp; done) | (rw [List.length_map]; rfl))) | refine LA.agg ?_ | refine LA.fn ?_ | refine LA.lend ?_ | exact Lend.d _ | exact Lend.zs _ | exact lend_whole rfl (by first | (simp; done) | (rw [List.length_map]; rfl)) | refine Lend.ptr rfl ?_ | refine Lend.fn ?_ | exact Lend.osld rfl (by rw [List.length_map]) (nn_map (fun _ => rfl)) | exact LendL.nil | refine LendL.cons ?_ ?_)) ?_)
       ·
        first | assumption | omega | (simp; done) | (simp; omega)
       rintro r h ⟨rfl, rfl⟩
       refine ⟨fun i => 76 + 200 * i, [0], ⟨rfl, rfl, rfl, rfl, rfl, (by first | exact (fun h => absurd h Bool.false_ne_true) | exact (fun _ => ⟨rfl, (noisl_of (by repeat (first | exact trivial | refine ⟨noisl_map (fun _ => rfl), ?_⟩ | refine ⟨?_, ?_⟩)))⟩))⟩, ?_⟩
       skip
       refine ax_q (q_mov rfl) ?_
       refine ax_q (q_ext rfl rfl) ?_
       refine ax_q (q_ext rfl rfl) ?_
       refine ax_q (q_mov rfl) ?_
       refine ax_q (q_mov rfl) ?_
       refine ax_nil ?_
       refine cx_keep rfl rfl ?_
       refine cx_seq ?_
       refine cx_seq ?_
       refine cx_ops ?_
       refine ax_q (q_mov rfl) ?_
       refine ax_q (q_mov rfl) ?_
       first | refine ax_call rfl (vc_pure0 (c_eqIntS  ?_) hP rfl rfl ?_) | refine ax_call rfl (vc_lend0 (c_eqIntS  ?_) hP (by repeat (first | exact lal_id _ rfl | exact LAL.nil | refine LAL.cons ?_ ?_ | exact la_id _ rfl | exact LA.lend (lend_whole rfl (by first | (simp; done) | (rw [List.length_map]; rfl))) | refine LA.agg ?_ | refine LA.fn ?_ | refine LA.lend ?_ | exact Lend.d _ | exact Lend.zs _ | exact lend_whole rfl (by first | (simp; done) | (rw [List.length_map]; rfl)) | refine Lend.ptr rfl ?_ | refine Lend.fn ?_ | exact Lend.osld rfl (by rw [List.length_map]) (nn_map (fun _ => rfl)) | exact LendL.nil | refine LendL.cons ?_ ?_)) rfl rfl ?_)
       ·
        first | assumption | omega | (simp; done) | (simp; omega)
       refine ax_q (q_not rfl) ?_
       refine ax_q (q_mov rfl) ?_
       apply ax_or rfl rfl
       ·
        intro g
        have g := bF g
        refine ax_q (q_mov rfl) ?_
        refine ax_q (q_mov rfl) ?_
        refine ax_q (q_ibin rfl rfl rfl) ?_
        exact ax_nil ⟨rfl, by repeat (first | exact trivial | refine ⟨rfl, ?_⟩ | refine ⟨?_, ?_⟩)⟩
       refine ax_nil ?_
       refine cx_keep rfl rfl ?_
       refine cx_cond rfl (fun h6 => ?_) (fun h6 => ?_)
       ·
        have h6 := (fun h => (or_T h).imp bT nT) h6
        first | exact absurd rfl h6 | (exfalso; omega) | exact absurd h6 (by simp [eqb_rfl] <;> omega)
       ·
        have h6 := (fun h => And.intro (bF (or_F h).1) (nF (or_F h).2)) h6
        refine cx_skip ?_
        refine cx_keep rfl rfl ?_
        refine cx_seq ?_
        refine cx_ops ?_
        refine ax_q (q_mov rfl) ?_
        refine ax_nil ?_
        refine cx_keep rfl rfl ?_
        refine cx_seq ?_
        refine cx_ops ?_
        refine ax_q (q_mov rfl) ?_
        refine ax_q (q_mov rfl) ?_
        refine ax_call rfl (vc_lend0 (c_heldIntS (xs := (dirtyF s).1) (k0 := 1) (by show _ ≤ _; first | omega | assumption)) hP (by repeat (first | exact lal_id _ rfl | exact LAL.nil | refine LAL.cons ?_ ?_ | exact la_id _ rfl | exact LA.lend (lend_whole rfl (by simp [markL_len])) | refine LA.agg ?_ | refine LA.fn ?_ | refine LA.lend ?_ | exact Lend.d _ | exact Lend.zs _ | exact lend_whole rfl (by simp [markL_len]) | refine Lend.ptr rfl ?_ | refine Lend.fn ?_ | exact LendL.nil | refine LendL.cons ?_ ?_)) rfl rfl ?_)
        refine ax_q (q_mov rfl) ?_
        refine ax_nil ?_
        refine cx_keep rfl rfl ?_
        refine cx_seq ?_
        refine cx_seq ?_
        refine cx_ops ?_
        refine ax_q (q_mov rfl) ?_
        refine ax_q (q_ibin rfl rfl rfl) ?_
        refine ax_nil ?_
        refine cx_keep rfl rfl ?_
        refine cx_cond rfl (fun h7 => ?_) (fun h7 => ?_)
        ·
         have h7 := dT h7
         first | exact absurd rfl h7 | (exfalso; omega) | exact absurd h7 (by simp [eqb_rfl] <;> omega)
        ·
         have h7 := dF h7
         refine cx_skip ?_
         refine cx_keep rfl rfl ?_
         refine cx_seq ?_
         refine cx_seq ?_
         refine cx_ops ?_
         refine ax_q (q_mov rfl) ?_
         refine ax_q (q_mov rfl) ?_
         refine ax_q (q_ibin rfl rfl rfl) ?_
         refine ax_nil ?_
         refine cx_keep rfl rfl ?_
         refine cx_cond rfl (fun h8 => ?_) (fun h8 => ?_)
         ·
          have h8 := nT h8
          first | exact absurd rfl h8 | (exfalso; omega) | exact absurd h8 (by simp [eqb_rfl] <;> omega)
         ·
          have h8 := nF h8
          refine cx_skip ?_
          refine cx_keep rfl rfl ?_
          refine cx_seq ?_
          refine cx_ops ?_
          refine ax_q (q_mov rfl) ?_
          refine ax_nil ?_
          refine cx_keep rfl rfl ?_
          refine cx_ret (ret0 rfl rfl ?_)
          exact ⟨rfl, rfl⟩

theorem own : ownKnob Tryz.prog.godebug = none := by kernel_rfl
theorem laid : laidOutB Tryz.prog = true := by kernel_rfl
theorem closedTs : closedT Tryz.prog [3, 4, 9, 23, 25, 45, 47, 48, 49, 51, 138, 140, 142, 182] = true := by kernel_rfl
theorem con (rows : List (List D)) (h : HasAll Tryz.prog Tryz.f4.params.toList rows) : Con Tryz.prog noMv 4 (argsAV Tryz.prog Tryz.f4.params.toList rows) [] (fun r h => r = AM.bool true ∧ h = []) := by
  rw [Tryz.params4] at h ⊢
  obtain ⟨d0, r0, rfl, h0, h⟩ := h
  obtain rfl := h
  obtain ⟨a0, rfl, w0⟩ := (GStore.dec Tryz.underlying51 rfl (GDisk.dec Tryz.underlying47 rfl (dec_slice (sz := 1) Tryz.underlying23 (by kernel_rfl) (dec_str Tryz.underlying9)) (dec_slice (sz := 2) Tryz.underlying45 (by kernel_rfl) (GPending.dec Tryz.underlying182 rfl (dec_int Tryz.underlying3) (dec_str Tryz.underlying9))) (dec_bool Tryz.underlying4) (dec_slice (sz := 1) Tryz.underlying25 (by kernel_rfl) (dec_int Tryz.underlying3))) (dec_int Tryz.underlying3) (dec_slice (sz := 10) Tryz.underlying48 (by kernel_rfl) (GLogRecord.dec Tryz.underlying138 rfl (dec_int Tryz.underlying3) (dec_int Tryz.underlying3) (dec_int Tryz.underlying3) (dec_int Tryz.underlying3) (dec_int Tryz.underlying3) (dec_int Tryz.underlying3) (dec_int Tryz.underlying3) (dec_int Tryz.underlying3) (dec_str Tryz.underlying9) (dec_str Tryz.underlying9))) (dec_int Tryz.underlying3) (dec_slice (sz := 5) Tryz.underlying49 (by kernel_rfl) (GFrame.dec Tryz.underlying142 rfl (dec_int Tryz.underlying3) (Page.dec Tryz.underlying140 rfl (dec_int Tryz.underlying3) (dec_slice (sz := 1) Tryz.underlying23 (by kernel_rfl) (dec_str Tryz.underlying9))) (dec_bool Tryz.underlying4) (dec_int Tryz.underlying3))) (dec_int Tryz.underlying3)) h0
  have e : argsAV Tryz.prog [51] [GStore.row a0] = [a0.av] := by
    first | (simp only [argsAV, argAV, Tryz.underlying51]; done) | (simp only [argsAV, argAV, Tryz.underlying51]; rfl)
  show Con Tryz.prog noMv 4 (argsAV Tryz.prog [51] [GStore.row a0]) [] _
  rw [e]
  exact c_FnExactDirtyPages w0
set_option maxRecDepth 100000 in
theorem lifted (os : Os) (started : os.Started) (H : Type) (enc : TypeId × Value → H) :
    ReturnsInHanded {} Tryz.checked os 4 .any (Rows.fnExactDirtyPagesSpec.pre6 enc Tryz.prog Tryz.f4 Rows.fnExactDirtyPagesRow.domain false) (Rows.fnExactDirtyPagesSpec.post enc Tryz.prog Tryz.f4 false true false false) := by
  refine returnsInHanded_of_change (C := Tryz.checked) own started (by kernel_rfl) Tryz.func4
    (ChangeSpec.witness6 (enc := enc) (C := Tryz.checked) false ⟨#[], #[.agg #[.slice none 0 0, .slice none 0 0, .bool false, .slice none 0 0, .int .i64 0, .slice none 0 0, .int .i64 0, .slice none 0 0, .int .i64 0]], []⟩ 8 (by kernel_rfl) (by kernel_rfl) (by kernel_rfl) (by kernel_rfl)) ?_
  intro W base args ds gs before hval hW hcnd _
  refine law_contract closedTs laid (by kernel_rfl) rfl rfl Tryz.underlying4 con (fun hl => ?_) hval hW (gok_none (by kernel_rfl))
  match ds, hl with
  | [x0], _ => rfl
theorem over : Rows.fnExactDirtyPagesRow.holds Tryz.pinned (OpenSpec.ofChange Rows.fnExactDirtyPagesSpec) :=
  OpenClaim.holds_of_wide 4 Tryz.f4 rfl rfl rfl rfl rfl rfl rfl ⟨rfl, rfl, rfl, rfl, rfl⟩ rfl rfl rfl rfl rfl (by kernel_rfl) Tryz.func4 (by kernel_rfl)
    (of_decide_eq_true (by kernel_rfl)) (by unfold Func.isWrapper; first | (rw [if_pos (by decide +kernel)]; kernel_rfl) | (rw [if_neg (by decide +kernel)]; exact ⟨rfl, rfl⟩))
    (fun os started H enc _ => lifted os started H enc)
theorem proved : Rows.FnExactDirtyPagesSaid := over
end fnExactDirtyPages
end Go.Proofs.YtcloaaakhojjgaaGreat
#print axioms Go.Proofs.YtcloaaakhojjgaaGreat.fnExactDirtyPages.proved
