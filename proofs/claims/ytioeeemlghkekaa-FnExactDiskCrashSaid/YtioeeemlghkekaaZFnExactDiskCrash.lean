/- The law FnExactDiskCrash of the given program returns true for all arguments, and its arguments read behind the call as they read before: the statement FnExactDiskCrashSaid, with no condition. -/
import Derived.Test.YtioeeemlghkekaaW0
import Derived.Test.YtioeeemlghkekaaRows
namespace Go.Proofs.Ytioeeemlghkekaa
open Go Go.AM Go.ChangeShapes Go.RowKit
set_option linter.unusedVariables false
namespace fnExactDiskCrash
set_option maxRecDepth 10000
/- loop.example/g00332/laws.FnExactDiskCrash -/
def k_c_FnExactDiskCrash : XCode :=
  .seq (.ops [.op (some 2) (.box (.t 0)),
     .op (some 4) (.mov (.k (.bool false)))])
  (.keep [1, 2] (.seq (.seq (.ops [.op (some 17) (.mov (.t 1)),
      .op (some 18) (.lenS (.t 17)),
      .op (some 19) (.bin .gtr (.t 18) (.k (.int .i64 1048576)))])
   (.keep [1, 2, 19] (.cond (.t 19)
    (.seq (.ops [.op (some 4) (.mov (.k (.bool true)))])
     (.keep [4] (.ret)))
    (.skip))))
  (.keep [1, 2] (.seq (.ops [.op (some 5) (.mov (.k (.int .i64 1048576)))])
  (.keep [1, 2, 5] (.seq (.ops [.op (some 20) (.loadN 4 (.t 2)),
     .op (some 21) (.mov (.t 5)),
     .call (some 22) 30 [.t 20, .t 21],
     .op (some 5) (.mov (.t 22))])
  (.keep [1, 2, 5] (.seq (.seq (.ops [.op (some 23) (.mov (.t 5)),
      .op (some 24) (.bin .lss (.t 23) (.k (.int .i64 0)))])
   (.keep [1, 2, 24] (.cond (.t 24)
    (.seq (.ops [.op (some 4) (.mov (.k (.bool true)))])
     (.keep [4] (.ret)))
    (.skip))))
  (.keep [1, 2] (.seq (.ops [.op (some 26) (.loadN 4 (.t 2)),
     .call (some 27) 32 [.t 26],
     .op (some 28) (.mov (.t 1)),
     .call (some 29) 33 [.t 28],
     .call (some 30) 41 [.t 27, .t 29],
     .op (some 25) (.mov (.t 30)),
     .op (some 31) (.ext (.t 25) 0),
     .op (some 32) (.ext (.t 25) 1),
     .op (some 6) (.alloc [.nils 1, .nils 2, .bool false, .nils 1]),
     .op none (.store 4 (.t 6) (.t 31)),
     .op (some 7) (.mov (.t 32))])
  (.keep [1, 2, 6, 7] (.seq (.ops [.op (some 33) (.loadN 4 (.t 2)),
     .call (some 34) 32 [.t 33],
     .op (some 8) (.alloc [.nils 1, .nils 2, .bool false, .nils 1]),
     .op none (.store 4 (.t 8) (.t 34))])
  (.keep [1, 2, 6, 7, 8] (.seq (.ops [.op (some 35) (.mov (.t 1)),
     .call (some 36) 33 [.t 35],
     .op (some 9) (.mov (.t 36))])
  (.keep [1, 2, 6, 7, 8, 9] (.seq (.ops [.op (some 38) (.loadN 4 (.t 8)),
     .op (some 39) (.mov (.t 9)),
     .call (some 40) 14 [.t 38, .t 39],
     .op (some 37) (.mov (.t 40)),
     .op (some 41) (.ext (.t 37) 0),
     .op (some 42) (.ext (.t 37) 1),
     .op (some 10) (.alloc [.nils 1, .nils 2, .bool false, .nils 1]),
     .op none (.store 4 (.t 10) (.t 41)),
     .op (some 11) (.mov (.t 42))])
  (.keep [1, 2, 6, 7, 8, 9, 10, 11] (.seq (.seq (.ops [.op (some 43) (.loadN 4 (.t 10)),
      .op (some 44) (.loadN 4 (.t 6)),
      .call (some 45) 34 [.t 43, .t 44],
      .op (some 46) (.not (.t 45)),
      .op (some 47) (.mov (.t 46)),
      .andor 51 false 4 47 [.op (some 48) (.mov (.t 11)), .op (some 49) (.mov (.t 7)), .op (some 50) (.bin .neq (.t 48) (.t 49))] (.t 50)])
   (.keep [1, 2, 6, 7, 8, 9, 10, 11, 51] (.cond (.t 51)
    (.seq (.ops [.op (some 4) (.mov (.k (.bool false)))])
     (.keep [4] (.ret)))
    (.skip))))
  (.keep [1, 2, 6, 7, 8, 9, 10, 11] (.seq (.seq (.drawE [[], [], [1], [0, 1, 2], [0, 1, 2, 3]] [.op (some 52) (.loadN 4 (.t 8)),
      .op (some 53) (.loadN 4 (.t 2)),
      .call (some 54) 32 [.t 53]]
     [.call (some 55) 34 [.t 52, .t 54],
      .op (some 56) (.not (.t 55))])
   (.keep [1, 2, 6, 7, 8, 9, 10, 11, 56] (.cond (.t 56)
    (.seq (.ops [.op (some 4) (.mov (.k (.bool false)))])
     (.keep [4] (.ret)))
    (.skip))))
  (.keep [1, 2, 6, 7, 8, 9, 10, 11] (.seq (.seq (.ops [.op (some 57) (.mov (.t 9)),
      .op (some 58) (.mov (.t 1)),
      .call (some 59) 33 [.t 58],
      .call (some 60) 35 [.t 57, .t 59],
      .op (some 61) (.not (.t 60))])
   (.keep [1, 2, 6, 7, 8, 9, 10, 11, 61] (.cond (.t 61)
    (.seq (.ops [.op (some 4) (.mov (.k (.bool false)))])
     (.keep [4] (.ret)))
    (.skip))))
  (.keep [1, 2, 6, 7, 8, 9, 10, 11] (.seq (.ops [.op (some 12) (.mov (.k (.int .i64 1)))])
  (.keep [1, 2, 6, 7, 8, 9, 10, 11, 12] (.seq (.ops [.op (some 62) (.loadN 4 (.t 8)),
     .op (some 63) (.mov (.t 12)),
     .call (some 64) 36 [.t 62, .t 63],
     .op (some 12) (.mov (.t 64))])
  (.keep [1, 2, 6, 7, 9, 10, 11, 12] (.seq (.ops [.op (some 65) (.mov (.t 9)),
     .op (some 66) (.mov (.t 12)),
     .call (some 67) 37 [.t 65, .t 66],
     .op (some 12) (.mov (.t 67))])
  (.keep [1, 2, 6, 7, 10, 11, 12] (.seq (.seq (.ops [.op (some 68) (.mov (.t 12)),
      .op (some 69) (.bin .lss (.t 68) (.k (.int .i64 0))),
      .op (some 70) (.mov (.t 69)),
      .andor 75 false 2 70 [.op (some 71) (.loadN 4 (.t 10)), .op (some 72) (.loadN 4 (.t 6)), .call (some 73) 34 [.t 71, .t 72], .op (some 74) (.not (.t 73))] (.t 74),
      .op (some 76) (.mov (.t 75)),
      .andor 80 false 8 76 [.op (some 77) (.mov (.t 11)), .op (some 78) (.mov (.t 7)), .op (some 79) (.bin .neq (.t 77) (.t 78))] (.t 79)])
   (.keep [1, 2, 6, 7, 10, 80] (.cond (.t 80)
    (.seq (.ops [.op (some 4) (.mov (.k (.bool false)))])
     (.keep [4] (.ret)))
    (.skip))))
  (.keep [1, 2, 6, 7, 10] (.seq (.ops [.op (some 13) (.mov (.k (.int .i64 1)))])
  (.keep [1, 2, 6, 7, 10, 13] (.seq (.ops [.op (some 81) (.loadN 4 (.t 10)),
     .op (some 82) (.mov (.t 13)),
     .call (some 83) 36 [.t 81, .t 82],
     .op (some 13) (.mov (.t 83))])
  (.keep [1, 2, 6, 7, 10, 13] (.seq (.ops [.op (some 14) (.mov (.k (.int .i64 1)))])
  (.keep [1, 2, 6, 7, 10, 13, 14] (.seq (.ops [.op (some 84) (.loadN 4 (.t 10)),
     .op (some 85) (.mov (.t 14)),
     .call (some 86) 38 [.t 84, .t 85],
     .op (some 14) (.mov (.t 86))])
  (.keep [1, 2, 6, 7, 10, 13, 14] (.seq (.seq (.ops [.op (some 87) (.mov (.t 14)),
      .op (some 88) (.bin .lss (.t 87) (.k (.int .i64 0)))])
   (.keep [1, 2, 6, 7, 10, 13, 14, 88] (.cond (.t 88)
    (.seq (.ops [.op (some 4) (.mov (.k (.bool false)))])
     (.keep [4] (.ret)))
    (.skip))))
  (.keep [1, 2, 6, 7, 10, 13, 14] (.seq (.seq (.ops [.op (some 89) (.mov (.t 14)),
      .op (some 90) (.mov (.t 13)),
      .op (some 91) (.bin .neq (.t 89) (.t 90))])
   (.keep [1, 2, 6, 7, 10, 13, 91] (.cond (.t 91)
    (.seq (.ops [.op (some 4) (.mov (.k (.bool false)))])
     (.keep [4] (.ret)))
    (.skip))))
  (.keep [1, 2, 6, 7, 10, 13] (.seq (.ops [.op (some 93) (.loadN 4 (.t 2)),
     .call (some 94) 32 [.t 93],
     .op (some 95) (.mov (.t 1)),
     .call (some 96) 33 [.t 95],
     .call (some 97) 14 [.t 94, .t 96],
     .op (some 92) (.mov (.t 97)),
     .op (some 98) (.ext (.t 92) 0),
     .op (some 99) (.ext (.t 92) 1),
     .op (some 15) (.alloc [.nils 1, .nils 2, .bool false, .nils 1]),
     .op none (.store 4 (.t 15) (.t 98)),
     .op (some 16) (.mov (.t 99))])
  (.keep [6, 7, 10, 13, 15, 16] (.seq (.seq (.ops [.op (some 100) (.loadN 4 (.t 15)),
      .op (some 101) (.loadN 4 (.t 6)),
      .call (some 102) 34 [.t 100, .t 101],
      .op (some 103) (.not (.t 102)),
      .op (some 104) (.mov (.t 103)),
      .andor 108 false 4 104 [.op (some 105) (.mov (.t 16)), .op (some 106) (.mov (.t 7)), .op (some 107) (.bin .neq (.t 105) (.t 106))] (.t 107)])
   (.keep [10, 13, 108] (.cond (.t 108)
    (.seq (.ops [.op (some 4) (.mov (.k (.bool false)))])
     (.keep [4] (.ret)))
    (.skip))))
  (.keep [10, 13] (.seq (.ops [.op (some 14) (.mov (.k (.int .i64 1)))])
  (.keep [10, 13, 14] (.seq (.ops [.op (some 109) (.loadN 4 (.t 10)),
     .op (some 110) (.mov (.t 14)),
     .call (some 111) 38 [.t 109, .t 110],
     .op (some 14) (.mov (.t 111))])
  (.keep [13, 14] (.seq (.seq (.ops [.op (some 112) (.mov (.t 14)),
      .op (some 113) (.bin .lss (.t 112) (.k (.int .i64 0)))])
   (.keep [13, 14, 113] (.cond (.t 113)
    (.seq (.ops [.op (some 4) (.mov (.k (.bool false)))])
     (.keep [4] (.ret)))
    (.skip))))
  (.keep [13, 14] (.seq (.seq (.ops [.op (some 114) (.mov (.t 14)),
      .op (some 115) (.mov (.t 13)),
      .op (some 116) (.bin .neq (.t 114) (.t 115))])
   (.keep [116] (.cond (.t 116)
    (.seq (.ops [.op (some 4) (.mov (.k (.bool false)))])
     (.keep [4] (.ret)))
    (.skip))))
  (.keep [] (.seq (.ops [.op (some 4) (.mov (.k (.bool true)))])
  (.keep [4] (.ret))))))))))))))))))))))))))))))))))))))))))))))))))))))))))
theorem k_c_FnExactDiskCrash_fits : fitsF Try.prog 7 ⟨117, k_c_FnExactDiskCrash, [.t 4]⟩ = true := by kernel_rfl
theorem c_FnExactDiskCrash {d : GDisk} {keep : List Int} (wd : d.wf) (wkeep : wfL wfInt keep) : Con Try.prog noMv 7 [d.av, .d (.sl 1 (keep.map intRow))] [] (fun r h => r = bool true ∧ h = []) := by
  refine con_of2 k_c_FnExactDiskCrash_fits rfl fun C hP hmv => ?_
  unfold k_c_FnExactDiskCrash
  refine cx_seq ?_
  refine cx_ops ?_
  refine ax_e (e_box rfl rfl (by decide) rfl rfl rfl) ?_
  refine ax_q (q_mov rfl) ?_
  refine ax_nil ?_
  refine cx_keep rfl rfl ?_
  refine cx_seq ?_
  refine cx_seq ?_
  refine cx_ops ?_
  refine ax_q (q_mov rfl) ?_
  first | refine ax_q (q_lenS_map rfl) ?_ | refine ax_q (q_lenS_osl rfl) ?_ | refine ax_q (q_lenS_zs rfl) ?_ | refine ax_q (q_lenS rfl) ?_
  refine ax_q (q_ibin rfl rfl rfl) ?_
  refine ax_nil ?_
  refine cx_keep rfl rfl ?_
  refine cx_cond rfl (fun h0 => ?_) (fun h0 => ?_)
  · have h0 := dT h0
    refine cx_seq ?_
    refine cx_ops ?_
    refine ax_q (q_mov rfl) ?_
    refine ax_nil ?_
    refine cx_keep rfl rfl ?_
    refine cx_ret (ret0 rfl rfl ?_)
    exact ⟨rfl, rfl⟩
  · have h0 := dF h0
    have hl_keep : keep.length ≤ 1048576 := by omega
    refine cx_skip ?_
    refine cx_keep rfl rfl ?_
    refine cx_seq ?_
    refine cx_ops ?_
    refine ax_q (q_mov rfl) ?_
    refine ax_nil ?_
    refine cx_keep rfl rfl ?_
    refine cx_seq ?_
    refine cx_ops ?_
    first | refine ax_q (q_ldN rfl rfl rfl) ?_ | refine ax_q (q_loadN_ip rfl (Nat.le_refl _)) ?_ | refine ax_q (q_loadN_ip rfl (by decide)) ?_ | refine ax_q (q_loadN_rptr rfl rfl (by assumption) (by decide)) ?_ | refine ax_q (q_loadN_rptr rfl rfl (mapAt (by first | assumption | omega)) (by decide)) ?_
    refine ax_q (q_mov rfl) ?_
    have sp1 := szF_spec (1048576) (GDisk.sz d)
    refine ax_call rfl (vc_pure0 (c_szDisk (by omega) (by omega) wd) hP rfl rfl ?_)
    refine ax_q (q_mov rfl) ?_
    refine ax_nil ?_
    refine cx_keep rfl rfl ?_
    refine cx_seq ?_
    refine cx_seq ?_
    refine cx_ops ?_
    refine ax_q (q_mov rfl) ?_
    refine ax_q (q_ibin rfl rfl rfl) ?_
    refine ax_nil ?_
    refine cx_keep rfl rfl ?_
    refine cx_cond rfl (fun h1 => ?_) (fun h1 => ?_)
    · have h1 := dT h1
      refine cx_seq ?_
      refine cx_ops ?_
      refine ax_q (q_mov rfl) ?_
      refine ax_nil ?_
      refine cx_keep rfl rfl ?_
      refine cx_ret (ret0 rfl rfl ?_)
      exact ⟨rfl, rfl⟩
    · have h1 := dF h1
      have ⟨ld0, ld1, ld2⟩ : d.Sectors.length ≤ 1048576 ∧ d.Cache.length ≤ 1048576 ∧ d.Keep.length ≤ 1048576 := by
        have : GDisk.sz d = szL List.length d.Sectors + szL GPending.sz d.Cache + szL (fun _ => 0) d.Keep := rfl
        have := @szL_len _ List.length (d.Sectors)
        have := @szL_len _ GPending.sz (d.Cache)
        have := @szL_len _ (fun _ => 0) (d.Keep)
        omega
      have hz := @crashF_len d keep
      refine cx_skip ?_
      refine cx_keep rfl rfl ?_
      refine cx_seq ?_
      refine cx_ops ?_
      first | refine ax_q (q_ldN rfl rfl rfl) ?_ | refine ax_q (q_loadN_ip rfl (Nat.le_refl _)) ?_ | refine ax_q (q_loadN_ip rfl (by decide)) ?_ | refine ax_q (q_loadN_rptr rfl rfl (by assumption) (by decide)) ?_ | refine ax_q (q_loadN_rptr rfl rfl (mapAt (by first | assumption | omega)) (by decide)) ?_
      first | refine ax_call rfl (vc_pure (c_toDisk  ?_ ?_ ?_) hP rfl ?_) | refine ax_call rfl (vc_lend (c_toDisk  ?_ ?_ ?_) hP (by repeat (first | exact lal_id _ rfl | exact LAL.nil | refine LAL.cons ?_ ?_ | exact la_id _ rfl | exact LA.lend (lend_whole rfl (by first | (simp; done) | (rw [List.length_map]; rfl))) | refine LA.agg ?_ | refine LA.fn ?_ | refine LA.lend ?_ | exact Lend.d _ | exact Lend.zs _ | exact lend_whole rfl (by first | (simp; done) | (rw [List.length_map]; rfl)) | refine Lend.ptr rfl ?_ | refine Lend.fn ?_ | exact LendL.nil | refine LendL.cons ?_ ?_)) ?_)
      · first | assumption | omega | (simp; done) | (simp; omega)
      · first | assumption | omega | (simp; done) | (simp; omega)
      · first | assumption | omega | (simp; done) | (simp; omega)
      rintro r h ⟨rfl, rfl⟩
      refine ⟨fun i => 27 + 200 * i, [0, 1, 2], ⟨rfl, rfl, rfl, rfl, rfl, (by first | exact (fun h => absurd h Bool.false_ne_true) | exact (fun _ => ⟨rfl, (noisl_of (by repeat (first | exact trivial | refine ⟨noisl_map (fun _ => rfl), ?_⟩ | refine ⟨?_, ?_⟩)))⟩))⟩, ?_⟩
      skip
      refine ax_q (q_mov rfl) ?_
      first | refine ax_call rfl (vc_pure (c_toIntS  ?_) hP rfl ?_) | refine ax_call rfl (vc_lend (c_toIntS  ?_) hP (by repeat (first | exact lal_id _ rfl | exact LAL.nil | refine LAL.cons ?_ ?_ | exact la_id _ rfl | exact LA.lend (lend_whole rfl (by first | (simp; done) | (rw [List.length_map]; rfl))) | refine LA.agg ?_ | refine LA.fn ?_ | refine LA.lend ?_ | exact Lend.d _ | exact Lend.zs _ | exact lend_whole rfl (by first | (simp; done) | (rw [List.length_map]; rfl)) | refine Lend.ptr rfl ?_ | refine Lend.fn ?_ | exact LendL.nil | refine LendL.cons ?_ ?_)) ?_)
      · first | assumption | omega | (simp; done) | (simp; omega)
      rintro r h ⟨rfl, rfl⟩
      refine ⟨fun i => 29 + 200 * i, [0], ⟨rfl, rfl, rfl, rfl, rfl, (by first | exact (fun h => absurd h Bool.false_ne_true) | exact (fun _ => ⟨rfl, (noisl_of (by repeat (first | exact trivial | refine ⟨noisl_map (fun _ => rfl), ?_⟩ | refine ⟨?_, ?_⟩)))⟩))⟩, ?_⟩
      skip
      first | refine ax_call rfl (vc_pure (c_sDiskCrash  ?_ ?_ ?_ ?_) hP rfl ?_) | refine ax_call rfl (vc_lend (c_sDiskCrash  ?_ ?_ ?_ ?_) hP (by repeat (first | exact lal_id _ rfl | exact LAL.nil | refine LAL.cons ?_ ?_ | exact la_id _ rfl | exact LA.lend (lend_whole rfl (by first | (simp; done) | (rw [List.length_map]; rfl))) | refine LA.agg ?_ | refine LA.fn ?_ | refine LA.lend ?_ | exact Lend.d _ | exact Lend.zs _ | exact lend_whole rfl (by first | (simp; done) | (rw [List.length_map]; rfl)) | refine Lend.ptr rfl ?_ | refine Lend.fn ?_ | exact LendL.nil | refine LendL.cons ?_ ?_)) ?_)
      · first | assumption | omega | (simp; done) | (simp; omega)
      · first | assumption | omega | (simp; done) | (simp; omega)
      · first | assumption | omega | (simp; done) | (simp; omega)
      · first | assumption | omega | (simp; done) | (simp; omega)
      rintro r h ⟨rfl, rfl⟩
      refine ⟨fun i => 30 + 200 * i, [0, 1, 2], ⟨rfl, rfl, rfl, rfl, rfl, (by first | exact (fun h => absurd h Bool.false_ne_true) | exact (fun _ => ⟨rfl, (noisl_of (by repeat (first | exact trivial | refine ⟨noisl_map (fun _ => rfl), ?_⟩ | refine ⟨?_, ?_⟩)))⟩))⟩, ?_⟩
      skip
      refine ax_q (q_mov rfl) ?_
      refine ax_q (q_ext rfl rfl) ?_
      refine ax_q (q_ext rfl rfl) ?_
      refine ax_e (e_alloc (by decide) rfl rfl) ?_
      refine ax_e (e_st rfl rfl rfl rfl rfl rfl rfl) ?_
      refine ax_q (q_mov rfl) ?_
      refine ax_nil ?_
      refine cx_keep rfl rfl ?_
      refine cx_seq ?_
      refine cx_ops ?_
      first | refine ax_q (q_ldN rfl rfl rfl) ?_ | refine ax_q (q_loadN_ip rfl (Nat.le_refl _)) ?_ | refine ax_q (q_loadN_ip rfl (by decide)) ?_ | refine ax_q (q_loadN_rptr rfl rfl (by assumption) (by decide)) ?_ | refine ax_q (q_loadN_rptr rfl rfl (mapAt (by first | assumption | omega)) (by decide)) ?_
      first | refine ax_call rfl (vc_pure (c_toDisk  ?_ ?_ ?_) hP rfl ?_) | refine ax_call rfl (vc_lend (c_toDisk  ?_ ?_ ?_) hP (by repeat (first | exact lal_id _ rfl | exact LAL.nil | refine LAL.cons ?_ ?_ | exact la_id _ rfl | exact LA.lend (lend_whole rfl (by first | (simp; done) | (rw [List.length_map]; rfl))) | refine LA.agg ?_ | refine LA.fn ?_ | refine LA.lend ?_ | exact Lend.d _ | exact Lend.zs _ | exact lend_whole rfl (by first | (simp; done) | (rw [List.length_map]; rfl)) | refine Lend.ptr rfl ?_ | refine Lend.fn ?_ | exact LendL.nil | refine LendL.cons ?_ ?_)) ?_)
      · first | assumption | omega | (simp; done) | (simp; omega)
      · first | assumption | omega | (simp; done) | (simp; omega)
      · first | assumption | omega | (simp; done) | (simp; omega)
      rintro r h ⟨rfl, rfl⟩
      refine ⟨fun i => 34 + 200 * i, [0, 1, 2], ⟨rfl, rfl, rfl, rfl, rfl, (by first | exact (fun h => absurd h Bool.false_ne_true) | exact (fun _ => ⟨rfl, (noisl_of (by repeat (first | exact trivial | refine ⟨noisl_map (fun _ => rfl), ?_⟩ | refine ⟨?_, ?_⟩)))⟩))⟩, ?_⟩
      skip
      refine ax_e (e_alloc (by decide) rfl rfl) ?_
      refine ax_e (e_st rfl rfl rfl rfl rfl rfl rfl) ?_
      refine ax_nil ?_
      refine cx_keep rfl rfl ?_
      refine cx_seq ?_
      refine cx_ops ?_
      refine ax_q (q_mov rfl) ?_
      first | refine ax_call rfl (vc_pure (c_toIntS  ?_) hP rfl ?_) | refine ax_call rfl (vc_lend (c_toIntS  ?_) hP (by repeat (first | exact lal_id _ rfl | exact LAL.nil | refine LAL.cons ?_ ?_ | exact la_id _ rfl | exact LA.lend (lend_whole rfl (by first | (simp; done) | (rw [List.length_map]; rfl))) | refine LA.agg ?_ | refine LA.fn ?_ | refine LA.lend ?_ | exact Lend.d _ | exact Lend.zs _ | exact lend_whole rfl (by first | (simp; done) | (rw [List.length_map]; rfl)) | refine Lend.ptr rfl ?_ | refine Lend.fn ?_ | exact LendL.nil | refine LendL.cons ?_ ?_)) ?_)
      · first | assumption | omega | (simp; done) | (simp; omega)
      rintro r h ⟨rfl, rfl⟩
      refine ⟨fun i => 36 + 200 * i, [0], ⟨rfl, rfl, rfl, rfl, rfl, (by first | exact (fun h => absurd h Bool.false_ne_true) | exact (fun _ => ⟨rfl, (noisl_of (by repeat (first | exact trivial | refine ⟨noisl_map (fun _ => rfl), ?_⟩ | refine ⟨?_, ?_⟩)))⟩))⟩, ?_⟩
      skip
      refine ax_q (q_mov rfl) ?_
      refine ax_nil ?_
      refine cx_keep rfl rfl ?_
      refine cx_seq ?_
      refine cx_ops ?_
      first | refine ax_q (q_ldN rfl rfl rfl) ?_ | refine ax_q (q_loadN_ip rfl (Nat.le_refl _)) ?_ | refine ax_q (q_loadN_ip rfl (by decide)) ?_ | refine ax_q (q_loadN_rptr rfl rfl (by assumption) (by decide)) ?_ | refine ax_q (q_loadN_rptr rfl rfl (mapAt (by first | assumption | omega)) (by decide)) ?_
      refine ax_q (q_mov rfl) ?_
      first | refine ax_call rfl (vc_pure (c_DiskCrash  ?_ ?_ ?_ ?_) hP rfl ?_) | refine ax_call rfl (vc_lend (c_DiskCrash  ?_ ?_ ?_ ?_) hP (by repeat (first | exact lal_id _ rfl | exact LAL.nil | refine LAL.cons ?_ ?_ | exact la_id _ rfl | exact LA.lend (lend_whole rfl (by first | (simp; done) | (rw [List.length_map]; rfl))) | refine LA.agg ?_ | refine LA.fn ?_ | refine LA.lend ?_ | exact Lend.d _ | exact Lend.zs _ | exact lend_whole rfl (by first | (simp; done) | (rw [List.length_map]; rfl)) | refine Lend.ptr rfl ?_ | refine Lend.fn ?_ | exact LendL.nil | refine LendL.cons ?_ ?_)) ?_)
      · first | assumption | omega | (simp; done) | (simp; omega)
      · first | assumption | omega | (simp; done) | (simp; omega)
      · first | assumption | omega | (simp; done) | (simp; omega)
      · first | assumption | omega | (simp; done) | (simp; omega)
      rintro r h ⟨rfl, rfl⟩
      refine ⟨fun i => 40 + 200 * i, [0, 1, 2], ⟨rfl, rfl, rfl, rfl, rfl, (by first | exact (fun h => absurd h Bool.false_ne_true) | exact (fun _ => ⟨rfl, (noisl_of (by repeat (first | exact trivial | refine ⟨noisl_map (fun _ => rfl), ?_⟩ | refine ⟨?_, ?_⟩)))⟩))⟩, ?_⟩
      skip
      refine ax_q (q_mov rfl) ?_
      refine ax_q (q_ext rfl rfl) ?_
      refine ax_q (q_ext rfl rfl) ?_
      refine ax_e (e_alloc (by decide) rfl rfl) ?_
      refine ax_e (e_st rfl rfl rfl rfl rfl rfl rfl) ?_
      refine ax_q (q_mov rfl) ?_
      refine ax_nil ?_
      refine cx_keep rfl rfl ?_
      refine cx_seq ?_
      refine cx_seq ?_
      refine cx_ops ?_
      first | refine ax_q (q_ldN rfl rfl rfl) ?_ | refine ax_q (q_loadN_ip rfl (Nat.le_refl _)) ?_ | refine ax_q (q_loadN_ip rfl (by decide)) ?_ | refine ax_q (q_loadN_rptr rfl rfl (by assumption) (by decide)) ?_ | refine ax_q (q_loadN_rptr rfl rfl (mapAt (by first | assumption | omega)) (by decide)) ?_
      first | refine ax_q (q_ldN rfl rfl rfl) ?_ | refine ax_q (q_loadN_ip rfl (Nat.le_refl _)) ?_ | refine ax_q (q_loadN_ip rfl (by decide)) ?_ | refine ax_q (q_loadN_rptr rfl rfl (by assumption) (by decide)) ?_ | refine ax_q (q_loadN_rptr rfl rfl (mapAt (by first | assumption | omega)) (by decide)) ?_
      first | refine ax_call rfl (vc_pure0 (c_eqDisk  ?_ ?_ ?_) hP rfl rfl ?_) | refine ax_call rfl (vc_lend0 (c_eqDisk  ?_ ?_ ?_) hP (by repeat (first | exact lal_id _ rfl | exact LAL.nil | refine LAL.cons ?_ ?_ | exact la_id _ rfl | exact LA.lend (lend_whole rfl (by first | (simp; done) | (rw [List.length_map]; rfl))) | refine LA.agg ?_ | refine LA.fn ?_ | refine LA.lend ?_ | exact Lend.d _ | exact Lend.zs _ | exact lend_whole rfl (by first | (simp; done) | (rw [List.length_map]; rfl)) | refine Lend.ptr rfl ?_ | refine Lend.fn ?_ | exact LendL.nil | refine LendL.cons ?_ ?_)) rfl rfl ?_)
      · first | assumption | omega | (simp; done) | (simp; omega)
      · first | assumption | omega | (simp; done) | (simp; omega)
      · first | assumption | omega | (simp; done) | (simp; omega)
      refine ax_q (q_not rfl) ?_
      refine ax_q (q_mov rfl) ?_
      apply ax_or rfl rfl
      · intro g
        have g := bF g
        refine ax_q (q_mov rfl) ?_
        refine ax_q (q_mov rfl) ?_
        refine ax_q (q_ibin rfl rfl rfl) ?_
        exact ax_nil ⟨rfl, by repeat (first | exact trivial | refine ⟨rfl, ?_⟩ | refine ⟨?_, ?_⟩)⟩
      refine ax_nil ?_
      refine cx_keep rfl rfl ?_
      refine cx_cond rfl (fun h2 => ?_) (fun h2 => ?_)
      · have h2 := (fun h => (or_T h).imp bT nT) h2
        first | exact absurd rfl h2 | (exfalso; omega) | exact absurd h2 (by simp [eqb_rfl] <;> omega)
      · have h2 := (fun h => And.intro (bF (or_F h).1) (nF (or_F h).2)) h2
        refine cx_skip ?_
        refine cx_keep rfl rfl ?_
        refine cx_seq ?_
        refine cx_seq ?_
        refine cx_drawL 0 52 (fun _ => false) (fun _ => true) [] ([]) [[8], [2], [53]] [[], [], []] rfl ?_
        first | refine ⟨⟨52, _, []⟩, .inl ⟨rfl, rfl, rfl, locl_of (loc_q (q_ldN rfl rfl rfl))⟩, ?_⟩ | refine ⟨⟨52, _, []⟩, .inl ⟨rfl, rfl, rfl, locl_of (loc_q (q_loadN_ip rfl (Nat.le_refl _)))⟩, ?_⟩ | refine ⟨⟨52, _, []⟩, .inl ⟨rfl, rfl, rfl, locl_of (loc_q (q_loadN_ip rfl (by decide)))⟩, ?_⟩ | refine ⟨⟨52, _, []⟩, .inl ⟨rfl, rfl, rfl, locl_of (loc_q (q_loadN_rptr rfl rfl (by assumption) (by decide)))⟩, ?_⟩ | refine ⟨⟨52, _, []⟩, .inl ⟨rfl, rfl, rfl, locl_of (loc_q (q_loadN_rptr rfl rfl (mapAt (by first | assumption | omega)) (by decide)))⟩, ?_⟩
        first | refine ⟨_, .inr ⟨rfl, _, rfl, .inr ⟨rfl, rfl, .inr rfl, rfl, rfl⟩, loc_q (q_ldN rfl rfl rfl)⟩, ?_⟩ | refine ⟨_, .inr ⟨rfl, _, rfl, .inr ⟨rfl, rfl, .inr rfl, rfl, rfl⟩, loc_q (q_loadN_ip rfl (Nat.le_refl _))⟩, ?_⟩ | refine ⟨_, .inr ⟨rfl, _, rfl, .inr ⟨rfl, rfl, .inr rfl, rfl, rfl⟩, loc_q (q_loadN_ip rfl (by decide))⟩, ?_⟩ | refine ⟨_, .inr ⟨rfl, _, rfl, .inr ⟨rfl, rfl, .inr rfl, rfl, rfl⟩, loc_q (q_loadN_rptr rfl rfl (by assumption) (by decide))⟩, ?_⟩ | refine ⟨_, .inr ⟨rfl, _, rfl, .inr ⟨rfl, rfl, .inr rfl, rfl, rfl⟩, loc_q (q_loadN_rptr rfl rfl (mapAt (by first | assumption | omega)) (by decide))⟩, ?_⟩
        first | refine ⟨_, .inr ⟨rfl, _, rfl, .inr ⟨rfl, rfl, .inr rfl, rfl, rfl⟩, loc_call (fun i => 54 + 200 * i) false rfl (c_toDisk  (by first | assumption | omega | (simp; done) | (simp; omega)) (by first | assumption | omega | (simp; done) | (simp; omega)) (by first | assumption | omega | (simp; done) | (simp; omega))) hP (.inr ⟨rfl, rfl, rfl⟩) rfl rfl (fun h => by cases h)⟩, ?_⟩ | refine ⟨_, .inr ⟨rfl, _, rfl, .inr ⟨rfl, rfl, .inr rfl, rfl, rfl⟩, loc_call (fun i => 54 + 200 * i) true rfl (c_toDisk  (by first | assumption | omega | (simp; done) | (simp; omega)) (by first | assumption | omega | (simp; done) | (simp; omega)) (by first | assumption | omega | (simp; done) | (simp; omega))) hP (.inl ⟨rfl, (by repeat (first | exact lal_id _ rfl | exact LAL.nil | refine LAL.cons ?_ ?_ | exact la_id _ rfl | exact LA.lend (lend_whole rfl (by first | (simp; done) | (rw [List.length_map]; rfl))) | refine LA.agg ?_ | refine LA.fn ?_ | refine LA.lend ?_ | exact Lend.d _ | exact Lend.zs _ | exact lend_whole rfl (by first | (simp; done) | (rw [List.length_map]; rfl)) | refine Lend.ptr rfl ?_ | refine Lend.fn ?_ | exact LendL.nil | refine LendL.cons ?_ ?_))⟩) rfl rfl (fun _ => ⟨rfl, noisl_of (by repeat (first | exact trivial | refine ⟨noisl_map (fun _ => rfl), ?_⟩ | refine ⟨?_, ?_⟩))⟩)⟩, ?_⟩
        refine ⟨rfl, ?_⟩
        first | refine ax_call rfl (vc_pure0 (c_eqDisk  ?_ ?_ ?_) hP rfl rfl ?_) | refine ax_call rfl (vc_lend0 (c_eqDisk  ?_ ?_ ?_) hP (by repeat (first | exact lal_id _ rfl | exact LAL.nil | refine LAL.cons ?_ ?_ | exact la_id _ rfl | exact LA.lend (lend_whole rfl (by first | (simp; done) | (rw [List.length_map]; rfl))) | refine LA.agg ?_ | refine LA.fn ?_ | refine LA.lend ?_ | exact Lend.d _ | exact Lend.zs _ | exact lend_whole rfl (by first | (simp; done) | (rw [List.length_map]; rfl)) | refine Lend.ptr rfl ?_ | refine Lend.fn ?_ | exact LendL.nil | refine LendL.cons ?_ ?_)) rfl rfl ?_)
        · first | assumption | omega | (simp; done) | (simp; omega)
        · first | assumption | omega | (simp; done) | (simp; omega)
        · first | assumption | omega | (simp; done) | (simp; omega)
        refine ax_q (q_not rfl) ?_
        refine ax_nil ?_
        refine cx_keep rfl rfl ?_
        refine cx_cond rfl (fun h3 => ?_) (fun h3 => ?_)
        · have h3 := bT h3
          first | exact absurd rfl h3 | (exfalso; omega) | exact absurd h3 (by simp [eqb_rfl] <;> omega)
        · have h3 := bF h3
          refine cx_skip ?_
          refine cx_keep rfl rfl ?_
          refine cx_seq ?_
          refine cx_seq ?_
          refine cx_ops ?_
          refine ax_q (q_mov rfl) ?_
          refine ax_q (q_mov rfl) ?_
          first | refine ax_call rfl (vc_pure (c_toIntS  ?_) hP rfl ?_) | refine ax_call rfl (vc_lend (c_toIntS  ?_) hP (by repeat (first | exact lal_id _ rfl | exact LAL.nil | refine LAL.cons ?_ ?_ | exact la_id _ rfl | exact LA.lend (lend_whole rfl (by first | (simp; done) | (rw [List.length_map]; rfl))) | refine LA.agg ?_ | refine LA.fn ?_ | refine LA.lend ?_ | exact Lend.d _ | exact Lend.zs _ | exact lend_whole rfl (by first | (simp; done) | (rw [List.length_map]; rfl)) | refine Lend.ptr rfl ?_ | refine Lend.fn ?_ | exact LendL.nil | refine LendL.cons ?_ ?_)) ?_)
          · first | assumption | omega | (simp; done) | (simp; omega)
          rintro r h ⟨rfl, rfl⟩
          refine ⟨fun i => 59 + 200 * i, [0], ⟨rfl, rfl, rfl, rfl, rfl, (by first | exact (fun h => absurd h Bool.false_ne_true) | exact (fun _ => ⟨rfl, (noisl_of (by repeat (first | exact trivial | refine ⟨noisl_map (fun _ => rfl), ?_⟩ | refine ⟨?_, ?_⟩)))⟩))⟩, ?_⟩
          skip
          first | refine ax_call rfl (vc_pure0 (c_eqIntS  ?_) hP rfl rfl ?_) | refine ax_call rfl (vc_lend0 (c_eqIntS  ?_) hP (by repeat (first | exact lal_id _ rfl | exact LAL.nil | refine LAL.cons ?_ ?_ | exact la_id _ rfl | exact LA.lend (lend_whole rfl (by first | (simp; done) | (rw [List.length_map]; rfl))) | refine LA.agg ?_ | refine LA.fn ?_ | refine LA.lend ?_ | exact Lend.d _ | exact Lend.zs _ | exact lend_whole rfl (by first | (simp; done) | (rw [List.length_map]; rfl)) | refine Lend.ptr rfl ?_ | refine Lend.fn ?_ | exact LendL.nil | refine LendL.cons ?_ ?_)) rfl rfl ?_)
          · first | assumption | omega | (simp; done) | (simp; omega)
          refine ax_q (q_not rfl) ?_
          refine ax_nil ?_
          refine cx_keep rfl rfl ?_
          refine cx_cond rfl (fun h4 => ?_) (fun h4 => ?_)
          · have h4 := bT h4
            first | exact absurd rfl h4 | (exfalso; omega) | exact absurd h4 (by simp [eqb_rfl] <;> omega)
          · have h4 := bF h4
            refine cx_skip ?_
            refine cx_keep rfl rfl ?_
            refine cx_seq ?_
            refine cx_ops ?_
            refine ax_q (q_mov rfl) ?_
            refine ax_nil ?_
            refine cx_keep rfl rfl ?_
            refine cx_seq ?_
            refine cx_ops ?_
            first | refine ax_q (q_ldN rfl rfl rfl) ?_ | refine ax_q (q_loadN_ip rfl (Nat.le_refl _)) ?_ | refine ax_q (q_loadN_ip rfl (by decide)) ?_ | refine ax_q (q_loadN_rptr rfl rfl (by assumption) (by decide)) ?_ | refine ax_q (q_loadN_rptr rfl rfl (mapAt (by first | assumption | omega)) (by decide)) ?_
            refine ax_q (q_mov rfl) ?_
            refine ax_call rfl (vcall_own (c_markDisk (a := d) (k0 := 1) (by show _ ≤ _; first | omega | (simp only [GDisk.mkN]; omega))) hP hmv false (fun e => bif Nat.beq e 1000 then 34 else bif Nat.beq e 1001 then 234 else 434) [1000, 1001, 1002] ⟨rfl, rfl, rfl, rfl, (by repeat (first | exact trivial | refine ⟨rfl, ?_⟩)), rfl, rfl, rfl⟩ (.pass rfl rfl (.pass rfl rfl .nil)) ?_)
            rintro r h ⟨rfl, rfl⟩
            refine ⟨fun e => bif Nat.beq e 1000 then 34 else bif Nat.beq e 1001 then 234 else 434, [], ⟨rfl, rfl, rfl, rfl, (mem3 rfl rfl rfl), rfl, rfl, fun h => by cases h⟩, ?_⟩
            refine ax_q (q_mov rfl) ?_
            refine ax_nil ?_
            refine cx_keep rfl rfl ?_
            refine cx_seq ?_
            refine cx_ops ?_
            refine ax_q (q_mov rfl) ?_
            refine ax_q (q_mov rfl) ?_
            refine ax_call rfl (vcall_own (c_markIntS (xs := keep) (k0 := GDisk.mkN (1) (d)) (by show _ ≤ _; first | omega | (simp only [GDisk.mkN]; omega))) hP hmv false (fun e => 36) [1000] ⟨rfl, rfl, rfl, rfl, (by repeat (first | exact trivial | refine ⟨rfl, ?_⟩)), rfl, rfl, rfl⟩ (.pass rfl rfl (.pass rfl rfl .nil)) ?_)
            rintro r h ⟨rfl, rfl⟩
            refine ⟨fun e => 36, [], ⟨rfl, rfl, rfl, rfl, (mem1 rfl), rfl, rfl, fun h => by cases h⟩, ?_⟩
            refine ax_q (q_mov rfl) ?_
            refine ax_nil ?_
            refine cx_keep rfl rfl ?_
            refine cx_seq ?_
            refine cx_seq ?_
            refine cx_ops ?_
            refine ax_q (q_mov rfl) ?_
            refine ax_q (q_ibin rfl rfl rfl) ?_
            refine ax_q (q_mov rfl) ?_
            apply ax_or rfl rfl
            · intro g
              have g := dF g
              first | refine ax_q (q_ldN rfl rfl rfl) ?_ | refine ax_q (q_loadN_ip rfl (Nat.le_refl _)) ?_ | refine ax_q (q_loadN_ip rfl (by decide)) ?_ | refine ax_q (q_loadN_rptr rfl rfl (by assumption) (by decide)) ?_ | refine ax_q (q_loadN_rptr rfl rfl (mapAt (by first | assumption | omega)) (by decide)) ?_
              first | refine ax_q (q_ldN rfl rfl rfl) ?_ | refine ax_q (q_loadN_ip rfl (Nat.le_refl _)) ?_ | refine ax_q (q_loadN_ip rfl (by decide)) ?_ | refine ax_q (q_loadN_rptr rfl rfl (by assumption) (by decide)) ?_ | refine ax_q (q_loadN_rptr rfl rfl (mapAt (by first | assumption | omega)) (by decide)) ?_
              first | refine ax_call rfl (vc_pure0 (c_eqDisk  ?_ ?_ ?_) hP rfl rfl ?_) | refine ax_call rfl (vc_lend0 (c_eqDisk  ?_ ?_ ?_) hP (by repeat (first | exact lal_id _ rfl | exact LAL.nil | refine LAL.cons ?_ ?_ | exact la_id _ rfl | exact LA.lend (lend_whole rfl (by first | (simp; done) | (rw [List.length_map]; rfl))) | refine LA.agg ?_ | refine LA.fn ?_ | refine LA.lend ?_ | exact Lend.d _ | exact Lend.zs _ | exact lend_whole rfl (by first | (simp; done) | (rw [List.length_map]; rfl)) | refine Lend.ptr rfl ?_ | refine Lend.fn ?_ | exact LendL.nil | refine LendL.cons ?_ ?_)) rfl rfl ?_)
              · first | assumption | omega | (simp; done) | (simp; omega)
              · first | assumption | omega | (simp; done) | (simp; omega)
              · first | assumption | omega | (simp; done) | (simp; omega)
              refine ax_q (q_not rfl) ?_
              exact ax_nil ⟨rfl, by repeat (first | exact trivial | refine ⟨rfl, ?_⟩ | refine ⟨?_, ?_⟩)⟩
            refine ax_q (q_mov rfl) ?_
            apply ax_or rfl rfl
            · intro g
              have g := (fun h => And.intro (dF (or_F h).1) (bF (or_F h).2)) g
              refine ax_q (q_mov rfl) ?_
              refine ax_q (q_mov rfl) ?_
              refine ax_q (q_ibin rfl rfl rfl) ?_
              exact ax_nil ⟨rfl, by repeat (first | exact trivial | refine ⟨rfl, ?_⟩ | refine ⟨?_, ?_⟩)⟩
            refine ax_nil ?_
            refine cx_keep rfl rfl ?_
            refine cx_cond rfl (fun h5 => ?_) (fun h5 => ?_)
            · have h5 := (fun h => (or_T h).imp (fun h => (or_T h).imp dT bT) nT) h5
              first | exact absurd rfl h5 | (exfalso; omega) | exact absurd h5 (by simp [eqb_rfl] <;> omega)
            · have h5 := (fun h => And.intro ((fun h => And.intro (dF (or_F h).1) (bF (or_F h).2)) (or_F h).1) (nF (or_F h).2)) h5
              refine cx_skip ?_
              refine cx_keep rfl rfl ?_
              refine cx_seq ?_
              refine cx_ops ?_
              refine ax_q (q_mov rfl) ?_
              refine ax_nil ?_
              refine cx_keep rfl rfl ?_
              refine cx_seq ?_
              refine cx_ops ?_
              first | refine ax_q (q_ldN rfl rfl rfl) ?_ | refine ax_q (q_loadN_ip rfl (Nat.le_refl _)) ?_ | refine ax_q (q_loadN_ip rfl (by decide)) ?_ | refine ax_q (q_loadN_rptr rfl rfl (by assumption) (by decide)) ?_ | refine ax_q (q_loadN_rptr rfl rfl (mapAt (by first | assumption | omega)) (by decide)) ?_
              refine ax_q (q_mov rfl) ?_
              refine ax_call rfl (vcall_own (c_markDisk (a := (crashF d keep).1) (k0 := 1) (by show _ ≤ _; first | omega | (simp only [GDisk.mkN]; omega))) hP hmv false (fun e => bif Nat.beq e 1000 then 40 else bif Nat.beq e 1001 then 240 else 440) [1000, 1001, 1002] ⟨rfl, rfl, rfl, rfl, (by repeat (first | exact trivial | refine ⟨rfl, ?_⟩)), rfl, rfl, rfl⟩ (.pass rfl rfl (.pass rfl rfl .nil)) ?_)
              rintro r h ⟨rfl, rfl⟩
              refine ⟨fun e => bif Nat.beq e 1000 then 40 else bif Nat.beq e 1001 then 240 else 440, [], ⟨rfl, rfl, rfl, rfl, (mem3 rfl rfl rfl), rfl, rfl, fun h => by cases h⟩, ?_⟩
              refine ax_q (q_mov rfl) ?_
              refine ax_nil ?_
              refine cx_keep rfl rfl ?_
              refine cx_seq ?_
              refine cx_ops ?_
              refine ax_q (q_mov rfl) ?_
              refine ax_nil ?_
              refine cx_keep rfl rfl ?_
              refine cx_seq ?_
              refine cx_ops ?_
              first | refine ax_q (q_ldN rfl rfl rfl) ?_ | refine ax_q (q_loadN_ip rfl (Nat.le_refl _)) ?_ | refine ax_q (q_loadN_ip rfl (by decide)) ?_ | refine ax_q (q_loadN_rptr rfl rfl (by assumption) (by decide)) ?_ | refine ax_q (q_loadN_rptr rfl rfl (mapAt (by first | assumption | omega)) (by decide)) ?_
              refine ax_q (q_mov rfl) ?_
              refine ax_call rfl (vc_lend0 (c_heldDisk (a := (crashF d keep).1) (k0 := 1) (by show _ ≤ _; first | omega | (simp only [GDisk.mkN]; omega))) hP (by repeat (first | exact lal_id _ rfl | exact LAL.nil | refine LAL.cons ?_ ?_ | exact la_id _ rfl | exact LA.lend (lend_whole rfl (by simp [GDisk.mkS, markL_len])) | refine LA.agg ?_ | refine LA.fn ?_ | refine LA.lend ?_ | exact Lend.d _ | exact Lend.zs _ | exact lend_whole rfl (by simp [GDisk.mkS, markL_len]) | refine Lend.ptr rfl ?_ | refine Lend.fn ?_ | exact LendL.nil | refine LendL.cons ?_ ?_)) rfl rfl ?_)
              refine ax_q (q_mov rfl) ?_
              refine ax_nil ?_
              refine cx_keep rfl rfl ?_
              refine cx_seq ?_
              refine cx_seq ?_
              refine cx_ops ?_
              refine ax_q (q_mov rfl) ?_
              refine ax_q (q_ibin rfl rfl rfl) ?_
              refine ax_nil ?_
              refine cx_keep rfl rfl ?_
              refine cx_cond rfl (fun h6 => ?_) (fun h6 => ?_)
              · have h6 := dT h6
                first | exact absurd rfl h6 | (exfalso; omega) | exact absurd h6 (by simp [eqb_rfl] <;> omega)
              · have h6 := dF h6
                refine cx_skip ?_
                refine cx_keep rfl rfl ?_
                refine cx_seq ?_
                refine cx_seq ?_
                refine cx_ops ?_
                refine ax_q (q_mov rfl) ?_
                refine ax_q (q_mov rfl) ?_
                refine ax_q (q_ibin rfl rfl rfl) ?_
                refine ax_nil ?_
                refine cx_keep rfl rfl ?_
                refine cx_cond rfl (fun h7 => ?_) (fun h7 => ?_)
                · have h7 := nT h7
                  first | exact absurd rfl h7 | (exfalso; omega) | exact absurd h7 (by simp [eqb_rfl] <;> omega)
                · have h7 := nF h7
                  refine cx_skip ?_
                  refine cx_keep rfl rfl ?_
                  refine cx_seq ?_
                  refine cx_ops ?_
                  first | refine ax_q (q_ldN rfl rfl rfl) ?_ | refine ax_q (q_loadN_ip rfl (Nat.le_refl _)) ?_ | refine ax_q (q_loadN_ip rfl (by decide)) ?_ | refine ax_q (q_loadN_rptr rfl rfl (by assumption) (by decide)) ?_ | refine ax_q (q_loadN_rptr rfl rfl (mapAt (by first | assumption | omega)) (by decide)) ?_
                  first | refine ax_call rfl (vc_pure (c_toDisk  ?_ ?_ ?_) hP rfl ?_) | refine ax_call rfl (vc_lend (c_toDisk  ?_ ?_ ?_) hP (by repeat (first | exact lal_id _ rfl | exact LAL.nil | refine LAL.cons ?_ ?_ | exact la_id _ rfl | exact LA.lend (lend_whole rfl (by first | (simp; done) | (rw [List.length_map]; rfl))) | refine LA.agg ?_ | refine LA.fn ?_ | refine LA.lend ?_ | exact Lend.d _ | exact Lend.zs _ | exact lend_whole rfl (by first | (simp; done) | (rw [List.length_map]; rfl)) | refine Lend.ptr rfl ?_ | refine Lend.fn ?_ | exact LendL.nil | refine LendL.cons ?_ ?_)) ?_)
                  · first | assumption | omega | (simp; done) | (simp; omega)
                  · first | assumption | omega | (simp; done) | (simp; omega)
                  · first | assumption | omega | (simp; done) | (simp; omega)
                  rintro r h ⟨rfl, rfl⟩
                  refine ⟨fun i => 94 + 200 * i, [0, 1, 2], ⟨rfl, rfl, rfl, rfl, rfl, (by first | exact (fun h => absurd h Bool.false_ne_true) | exact (fun _ => ⟨rfl, (noisl_of (by repeat (first | exact trivial | refine ⟨noisl_map (fun _ => rfl), ?_⟩ | refine ⟨?_, ?_⟩)))⟩))⟩, ?_⟩
                  skip
                  refine ax_q (q_mov rfl) ?_
                  first | refine ax_call rfl (vc_pure (c_toIntS  ?_) hP rfl ?_) | refine ax_call rfl (vc_lend (c_toIntS  ?_) hP (by repeat (first | exact lal_id _ rfl | exact LAL.nil | refine LAL.cons ?_ ?_ | exact la_id _ rfl | exact LA.lend (lend_whole rfl (by first | (simp; done) | (rw [List.length_map]; rfl))) | refine LA.agg ?_ | refine LA.fn ?_ | refine LA.lend ?_ | exact Lend.d _ | exact Lend.zs _ | exact lend_whole rfl (by first | (simp; done) | (rw [List.length_map]; rfl)) | refine Lend.ptr rfl ?_ | refine Lend.fn ?_ | exact LendL.nil | refine LendL.cons ?_ ?_)) ?_)
                  · first | assumption | omega | (simp; done) | (simp; omega)
                  rintro r h ⟨rfl, rfl⟩
                  refine ⟨fun i => 96 + 200 * i, [0], ⟨rfl, rfl, rfl, rfl, rfl, (by first | exact (fun h => absurd h Bool.false_ne_true) | exact (fun _ => ⟨rfl, (noisl_of (by repeat (first | exact trivial | refine ⟨noisl_map (fun _ => rfl), ?_⟩ | refine ⟨?_, ?_⟩)))⟩))⟩, ?_⟩
                  skip
                  first | refine ax_call rfl (vc_pure (c_DiskCrash  ?_ ?_ ?_ ?_) hP rfl ?_) | refine ax_call rfl (vc_lend (c_DiskCrash  ?_ ?_ ?_ ?_) hP (by repeat (first | exact lal_id _ rfl | exact LAL.nil | refine LAL.cons ?_ ?_ | exact la_id _ rfl | exact LA.lend (lend_whole rfl (by first | (simp; done) | (rw [List.length_map]; rfl))) | refine LA.agg ?_ | refine LA.fn ?_ | refine LA.lend ?_ | exact Lend.d _ | exact Lend.zs _ | exact lend_whole rfl (by first | (simp; done) | (rw [List.length_map]; rfl)) | refine Lend.ptr rfl ?_ | refine Lend.fn ?_ | exact LendL.nil | refine LendL.cons ?_ ?_)) ?_)
                  · first | assumption | omega | (simp; done) | (simp; omega)
                  · first | assumption | omega | (simp; done) | (simp; omega)
                  · first | assumption | omega | (simp; done) | (simp; omega)
                  · first | assumption | omega | (simp; done) | (simp; omega)
                  rintro r h ⟨rfl, rfl⟩
                  refine ⟨fun i => 97 + 200 * i, [0, 1, 2], ⟨rfl, rfl, rfl, rfl, rfl, (by first | exact (fun h => absurd h Bool.false_ne_true) | exact (fun _ => ⟨rfl, (noisl_of (by repeat (first | exact trivial | refine ⟨noisl_map (fun _ => rfl), ?_⟩ | refine ⟨?_, ?_⟩)))⟩))⟩, ?_⟩
                  skip
                  refine ax_q (q_mov rfl) ?_
                  refine ax_q (q_ext rfl rfl) ?_
                  refine ax_q (q_ext rfl rfl) ?_
                  refine ax_e (e_alloc (by decide) rfl rfl) ?_
                  refine ax_e (e_st rfl rfl rfl rfl rfl rfl rfl) ?_
                  refine ax_q (q_mov rfl) ?_
                  refine ax_nil ?_
                  refine cx_keep rfl rfl ?_
                  refine cx_seq ?_
                  refine cx_seq ?_
                  refine cx_ops ?_
                  first | refine ax_q (q_ldN rfl rfl rfl) ?_ | refine ax_q (q_loadN_ip rfl (Nat.le_refl _)) ?_ | refine ax_q (q_loadN_ip rfl (by decide)) ?_ | refine ax_q (q_loadN_rptr rfl rfl (by assumption) (by decide)) ?_ | refine ax_q (q_loadN_rptr rfl rfl (mapAt (by first | assumption | omega)) (by decide)) ?_
                  first | refine ax_q (q_ldN rfl rfl rfl) ?_ | refine ax_q (q_loadN_ip rfl (Nat.le_refl _)) ?_ | refine ax_q (q_loadN_ip rfl (by decide)) ?_ | refine ax_q (q_loadN_rptr rfl rfl (by assumption) (by decide)) ?_ | refine ax_q (q_loadN_rptr rfl rfl (mapAt (by first | assumption | omega)) (by decide)) ?_
                  first | refine ax_call rfl (vc_pure0 (c_eqDisk  ?_ ?_ ?_) hP rfl rfl ?_) | refine ax_call rfl (vc_lend0 (c_eqDisk  ?_ ?_ ?_) hP (by repeat (first | exact lal_id _ rfl | exact LAL.nil | refine LAL.cons ?_ ?_ | exact la_id _ rfl | exact LA.lend (lend_whole rfl (by first | (simp; done) | (rw [List.length_map]; rfl))) | refine LA.agg ?_ | refine LA.fn ?_ | refine LA.lend ?_ | exact Lend.d _ | exact Lend.zs _ | exact lend_whole rfl (by first | (simp; done) | (rw [List.length_map]; rfl)) | refine Lend.ptr rfl ?_ | refine Lend.fn ?_ | exact LendL.nil | refine LendL.cons ?_ ?_)) rfl rfl ?_)
                  · first | assumption | omega | (simp; done) | (simp; omega)
                  · first | assumption | omega | (simp; done) | (simp; omega)
                  · first | assumption | omega | (simp; done) | (simp; omega)
                  refine ax_q (q_not rfl) ?_
                  refine ax_q (q_mov rfl) ?_
                  apply ax_or rfl rfl
                  · intro g
                    have g := bF g
                    refine ax_q (q_mov rfl) ?_
                    refine ax_q (q_mov rfl) ?_
                    refine ax_q (q_ibin rfl rfl rfl) ?_
                    exact ax_nil ⟨rfl, by repeat (first | exact trivial | refine ⟨rfl, ?_⟩ | refine ⟨?_, ?_⟩)⟩
                  refine ax_nil ?_
                  refine cx_keep rfl rfl ?_
                  refine cx_cond rfl (fun h8 => ?_) (fun h8 => ?_)
                  · have h8 := (fun h => (or_T h).imp bT nT) h8
                    first | exact absurd rfl h8 | (exfalso; omega) | exact absurd h8 (by simp [eqb_rfl] <;> omega)
                  · have h8 := (fun h => And.intro (bF (or_F h).1) (nF (or_F h).2)) h8
                    refine cx_skip ?_
                    refine cx_keep rfl rfl ?_
                    refine cx_seq ?_
                    refine cx_ops ?_
                    refine ax_q (q_mov rfl) ?_
                    refine ax_nil ?_
                    refine cx_keep rfl rfl ?_
                    refine cx_seq ?_
                    refine cx_ops ?_
                    first | refine ax_q (q_ldN rfl rfl rfl) ?_ | refine ax_q (q_loadN_ip rfl (Nat.le_refl _)) ?_ | refine ax_q (q_loadN_ip rfl (by decide)) ?_ | refine ax_q (q_loadN_rptr rfl rfl (by assumption) (by decide)) ?_ | refine ax_q (q_loadN_rptr rfl rfl (mapAt (by first | assumption | omega)) (by decide)) ?_
                    refine ax_q (q_mov rfl) ?_
                    refine ax_call rfl (vc_lend0 (c_heldDisk (a := (crashF d keep).1) (k0 := 1) (by show _ ≤ _; first | omega | (simp only [GDisk.mkN]; omega))) hP (by repeat (first | exact lal_id _ rfl | exact LAL.nil | refine LAL.cons ?_ ?_ | exact la_id _ rfl | exact LA.lend (lend_whole rfl (by simp [GDisk.mkS, markL_len])) | refine LA.agg ?_ | refine LA.fn ?_ | refine LA.lend ?_ | exact Lend.d _ | exact Lend.zs _ | exact lend_whole rfl (by simp [GDisk.mkS, markL_len]) | refine Lend.ptr rfl ?_ | refine Lend.fn ?_ | exact LendL.nil | refine LendL.cons ?_ ?_)) rfl rfl ?_)
                    refine ax_q (q_mov rfl) ?_
                    refine ax_nil ?_
                    refine cx_keep rfl rfl ?_
                    refine cx_seq ?_
                    refine cx_seq ?_
                    refine cx_ops ?_
                    refine ax_q (q_mov rfl) ?_
                    refine ax_q (q_ibin rfl rfl rfl) ?_
                    refine ax_nil ?_
                    refine cx_keep rfl rfl ?_
                    refine cx_cond rfl (fun h9 => ?_) (fun h9 => ?_)
                    · have h9 := dT h9
                      first | exact absurd rfl h9 | (exfalso; omega) | exact absurd h9 (by simp [eqb_rfl] <;> omega)
                    · have h9 := dF h9
                      refine cx_skip ?_
                      refine cx_keep rfl rfl ?_
                      refine cx_seq ?_
                      refine cx_seq ?_
                      refine cx_ops ?_
                      refine ax_q (q_mov rfl) ?_
                      refine ax_q (q_mov rfl) ?_
                      refine ax_q (q_ibin rfl rfl rfl) ?_
                      refine ax_nil ?_
                      refine cx_keep rfl rfl ?_
                      refine cx_cond rfl (fun h10 => ?_) (fun h10 => ?_)
                      · have h10 := nT h10
                        first | exact absurd rfl h10 | (exfalso; omega) | exact absurd h10 (by simp [eqb_rfl] <;> omega)
                      · have h10 := nF h10
                        refine cx_skip ?_
                        refine cx_keep rfl rfl ?_
                        refine cx_seq ?_
                        refine cx_ops ?_
                        refine ax_q (q_mov rfl) ?_
                        refine ax_nil ?_
                        refine cx_keep rfl rfl ?_
                        refine cx_ret (ret0 rfl rfl ?_)
                        exact ⟨rfl, rfl⟩

theorem own : ownKnob Try.prog.godebug = none := by kernel_rfl
theorem laid : laidOutB Try.prog = true := by kernel_rfl
theorem closedTs : closedT Try.prog [3, 4, 9, 23, 25, 53, 55, 130] = true := by kernel_rfl
theorem con (rows : List (List D)) (h : HasAll Try.prog Try.f7.params.toList rows) : Con Try.prog noMv 7 (argsAV Try.prog Try.f7.params.toList rows) [] (fun r h => r = AM.bool true ∧ h = []) := by
  rw [Try.params7] at h ⊢
  obtain ⟨d0, r0, rfl, h0, h⟩ := h
  obtain ⟨d1, r1, rfl, h1, h⟩ := h
  obtain rfl := h
  obtain ⟨a0, rfl, w0⟩ := (GDisk.dec Try.underlying55 rfl (dec_slice (sz := 1) Try.underlying23 (by kernel_rfl) (dec_str Try.underlying9)) (dec_slice (sz := 2) Try.underlying53 (by kernel_rfl) (GPending.dec Try.underlying130 rfl (dec_int Try.underlying3) (dec_str Try.underlying9))) (dec_bool Try.underlying4) (dec_slice (sz := 1) Try.underlying25 (by kernel_rfl) (dec_int Try.underlying3))) h0
  obtain ⟨a1, rfl, w1⟩ := (dec_slice (sz := 1) Try.underlying25 (by kernel_rfl) (dec_int Try.underlying3)) h1
  have e : argsAV Try.prog [55, 25] [GDisk.row a0, [.sl 1 (a1.map intRow)]] = [a0.av, .d (.sl 1 (a1.map intRow))] := by
    first | (simp only [argsAV, argAV, Try.underlying25, Try.underlying55]; done) | (simp only [argsAV, argAV, Try.underlying25, Try.underlying55]; rfl)
  show Con Try.prog noMv 7 (argsAV Try.prog [55, 25] [GDisk.row a0, [.sl 1 (a1.map intRow)]]) [] _
  rw [e]
  exact c_FnExactDiskCrash w0 w1
set_option maxRecDepth 100000 in
theorem lifted (os : Os) (started : os.Started) (H : Type) (enc : TypeId × Value → H) :
    ReturnsInHanded {} Try.checked os 7 .any (Rows.fnExactDiskCrashSpec.pre6 enc Try.prog Try.f7 Rows.fnExactDiskCrashRow.domain false) (Rows.fnExactDiskCrashSpec.post enc Try.prog Try.f7 false true false false) := by
  refine returnsInHanded_of_change (C := Try.checked) own started (by kernel_rfl) Try.func7
    (ChangeSpec.witness6 (enc := enc) (C := Try.checked) false ⟨#[], #[.agg #[.slice none 0 0, .slice none 0 0, .bool false, .slice none 0 0], .slice none 0 0], []⟩ 8 (by kernel_rfl) (by kernel_rfl) (by kernel_rfl) (by kernel_rfl)) ?_
  intro W base args ds gs before hval hW hcnd _
  refine law_contract closedTs laid (by kernel_rfl) rfl rfl Try.underlying4 con (fun hl => ?_) hval hW
  match ds, hl with
  | [x0, x1], _ => rfl
theorem over : Rows.fnExactDiskCrashRow.holds Try.pinned (OpenSpec.ofChange Rows.fnExactDiskCrashSpec) :=
  OpenClaim.holds_of_wide 7 Try.f7 rfl rfl rfl rfl rfl rfl rfl ⟨rfl, rfl, rfl, rfl, rfl⟩ rfl rfl rfl rfl rfl (by kernel_rfl) Try.func7 (by kernel_rfl)
    (of_decide_eq_true (by kernel_rfl)) (by unfold Func.isWrapper; first | (rw [if_pos (by decide +kernel)]; kernel_rfl) | (rw [if_neg (by decide +kernel)]; exact ⟨rfl, rfl⟩))
    (fun os started H enc _ => lifted os started H enc)
theorem proved : Rows.FnExactDiskCrashSaid := over
end fnExactDiskCrash
end Go.Proofs.Ytioeeemlghkekaa
#print axioms Go.Proofs.Ytioeeemlghkekaa.fnExactDiskCrash.proved
