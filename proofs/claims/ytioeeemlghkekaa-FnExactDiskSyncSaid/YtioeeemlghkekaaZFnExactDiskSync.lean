/- The law FnExactDiskSync of the given program returns true for all arguments, and its arguments read behind the call as they read before: the statement FnExactDiskSyncSaid, with no condition. -/
import Derived.Test.YtioeeemlghkekaaW1
import Derived.Test.YtioeeemlghkekaaRows
namespace Go.Proofs.Ytioeeemlghkekaa
open Go Go.AM Go.ChangeShapes Go.RowKit
set_option linter.unusedVariables false
namespace fnExactDiskSync
set_option maxRecDepth 10000
/- loop.example/g00332/laws.FnExactDiskSync -/
def k_c_FnExactDiskSync : XCode :=
  .seq (.ops [.op (some 1) (.box (.t 0)),
     .op (some 2) (.mov (.k (.bool false)))])
  (.keep [1] (.seq (.ops [.op (some 3) (.mov (.k (.int .i64 1048576)))])
  (.keep [1, 3] (.seq (.ops [.op (some 17) (.loadN 4 (.t 1)),
     .op (some 18) (.mov (.t 3)),
     .call (some 19) 30 [.t 17, .t 18],
     .op (some 3) (.mov (.t 19))])
  (.keep [1, 3] (.seq (.seq (.ops [.op (some 20) (.mov (.t 3)),
      .op (some 21) (.bin .lss (.t 20) (.k (.int .i64 0)))])
   (.keep [1, 21] (.cond (.t 21)
    (.seq (.ops [.op (some 2) (.mov (.k (.bool true)))])
     (.keep [2] (.ret)))
    (.skip))))
  (.keep [1] (.seq (.ops [.op (some 23) (.loadN 4 (.t 1)),
     .call (some 24) 32 [.t 23],
     .call (some 25) 42 [.t 24],
     .op (some 22) (.mov (.t 25)),
     .op (some 26) (.ext (.t 22) 0),
     .op (some 27) (.ext (.t 22) 1),
     .op (some 28) (.ext (.t 22) 2),
     .op (some 4) (.alloc [.nils 1, .nils 2, .bool false, .nils 1]),
     .op none (.store 4 (.t 4) (.t 26)),
     .op (some 5) (.mov (.t 27)),
     .op (some 6) (.mov (.t 28))])
  (.keep [1, 4, 5, 6] (.seq (.ops [.op (some 29) (.loadN 4 (.t 1)),
     .call (some 30) 32 [.t 29],
     .op (some 7) (.alloc [.nils 1, .nils 2, .bool false, .nils 1]),
     .op none (.store 4 (.t 7) (.t 30))])
  (.keep [1, 4, 5, 6, 7] (.seq (.ops [.op (some 32) (.loadN 4 (.t 7)),
     .call (some 33) 13 [.t 32],
     .op (some 31) (.mov (.t 33)),
     .op (some 34) (.ext (.t 31) 0),
     .op (some 35) (.ext (.t 31) 1),
     .op (some 36) (.ext (.t 31) 2),
     .op (some 8) (.alloc [.nils 1, .nils 2, .bool false, .nils 1]),
     .op none (.store 4 (.t 8) (.t 34)),
     .op (some 9) (.mov (.t 35)),
     .op (some 10) (.mov (.t 36))])
  (.keep [1, 4, 5, 6, 7, 8, 9, 10] (.seq (.seq (.ops [.op (some 37) (.loadN 4 (.t 8)),
      .op (some 38) (.loadN 4 (.t 4)),
      .call (some 39) 34 [.t 37, .t 38],
      .op (some 40) (.not (.t 39)),
      .op (some 41) (.mov (.t 40)),
      .andor 45 false 4 41 [.op (some 42) (.mov (.t 9)), .op (some 43) (.mov (.t 5)), .op (some 44) (.eqb true (.t 42) (.t 43))] (.t 44),
      .op (some 46) (.mov (.t 45)),
      .andor 50 false 9 46 [.op (some 47) (.mov (.t 10)), .op (some 48) (.mov (.t 6)), .op (some 49) (.bin .neq (.t 47) (.t 48))] (.t 49)])
   (.keep [1, 4, 5, 6, 7, 8, 9, 10, 50] (.cond (.t 50)
    (.seq (.ops [.op (some 2) (.mov (.k (.bool false)))])
     (.keep [2] (.ret)))
    (.skip))))
  (.keep [1, 4, 5, 6, 7, 8, 9, 10] (.seq (.seq (.drawE [[], [], [1], [0, 1, 2], [0, 1, 2, 3]] [.op (some 51) (.loadN 4 (.t 7)),
      .op (some 52) (.loadN 4 (.t 1)),
      .call (some 53) 32 [.t 52]]
     [.call (some 54) 34 [.t 51, .t 53],
      .op (some 55) (.not (.t 54))])
   (.keep [1, 4, 5, 6, 7, 8, 9, 10, 55] (.cond (.t 55)
    (.seq (.ops [.op (some 2) (.mov (.k (.bool false)))])
     (.keep [2] (.ret)))
    (.skip))))
  (.keep [1, 4, 5, 6, 7, 8, 9, 10] (.seq (.ops [.op (some 11) (.mov (.k (.int .i64 1)))])
  (.keep [1, 4, 5, 6, 7, 8, 9, 10, 11] (.seq (.ops [.op (some 56) (.loadN 4 (.t 7)),
     .op (some 57) (.mov (.t 11)),
     .call (some 58) 36 [.t 56, .t 57],
     .op (some 11) (.mov (.t 58))])
  (.keep [1, 4, 5, 6, 8, 9, 10, 11] (.seq (.seq (.ops [.op (some 59) (.mov (.t 11)),
      .op (some 60) (.bin .lss (.t 59) (.k (.int .i64 0))),
      .op (some 61) (.mov (.t 60)),
      .andor 66 false 2 61 [.op (some 62) (.loadN 4 (.t 8)), .op (some 63) (.loadN 4 (.t 4)), .call (some 64) 34 [.t 62, .t 63], .op (some 65) (.not (.t 64))] (.t 65),
      .op (some 67) (.mov (.t 66)),
      .andor 71 false 8 67 [.op (some 68) (.mov (.t 9)), .op (some 69) (.mov (.t 5)), .op (some 70) (.eqb true (.t 68) (.t 69))] (.t 70),
      .op (some 72) (.mov (.t 71)),
      .andor 76 false 13 72 [.op (some 73) (.mov (.t 10)), .op (some 74) (.mov (.t 6)), .op (some 75) (.bin .neq (.t 73) (.t 74))] (.t 75)])
   (.keep [1, 4, 5, 6, 8, 76] (.cond (.t 76)
    (.seq (.ops [.op (some 2) (.mov (.k (.bool false)))])
     (.keep [2] (.ret)))
    (.skip))))
  (.keep [1, 4, 5, 6, 8] (.seq (.ops [.op (some 12) (.mov (.k (.int .i64 1)))])
  (.keep [1, 4, 5, 6, 8, 12] (.seq (.ops [.op (some 77) (.loadN 4 (.t 8)),
     .op (some 78) (.mov (.t 12)),
     .call (some 79) 36 [.t 77, .t 78],
     .op (some 12) (.mov (.t 79))])
  (.keep [1, 4, 5, 6, 8, 12] (.seq (.ops [.op (some 13) (.mov (.k (.int .i64 1)))])
  (.keep [1, 4, 5, 6, 8, 12, 13] (.seq (.ops [.op (some 80) (.loadN 4 (.t 8)),
     .op (some 81) (.mov (.t 13)),
     .call (some 82) 38 [.t 80, .t 81],
     .op (some 13) (.mov (.t 82))])
  (.keep [1, 4, 5, 6, 8, 12, 13] (.seq (.seq (.ops [.op (some 83) (.mov (.t 13)),
      .op (some 84) (.bin .lss (.t 83) (.k (.int .i64 0)))])
   (.keep [1, 4, 5, 6, 8, 12, 13, 84] (.cond (.t 84)
    (.seq (.ops [.op (some 2) (.mov (.k (.bool false)))])
     (.keep [2] (.ret)))
    (.skip))))
  (.keep [1, 4, 5, 6, 8, 12, 13] (.seq (.seq (.ops [.op (some 85) (.mov (.t 13)),
      .op (some 86) (.mov (.t 12)),
      .op (some 87) (.bin .neq (.t 85) (.t 86))])
   (.keep [1, 4, 5, 6, 8, 12, 87] (.cond (.t 87)
    (.seq (.ops [.op (some 2) (.mov (.k (.bool false)))])
     (.keep [2] (.ret)))
    (.skip))))
  (.keep [1, 4, 5, 6, 8, 12] (.seq (.ops [.op (some 89) (.loadN 4 (.t 1)),
     .call (some 90) 32 [.t 89],
     .call (some 91) 13 [.t 90],
     .op (some 88) (.mov (.t 91)),
     .op (some 92) (.ext (.t 88) 0),
     .op (some 93) (.ext (.t 88) 1),
     .op (some 94) (.ext (.t 88) 2),
     .op (some 14) (.alloc [.nils 1, .nils 2, .bool false, .nils 1]),
     .op none (.store 4 (.t 14) (.t 92)),
     .op (some 15) (.mov (.t 93)),
     .op (some 16) (.mov (.t 94))])
  (.keep [4, 5, 6, 8, 12, 14, 15, 16] (.seq (.seq (.ops [.op (some 95) (.loadN 4 (.t 14)),
      .op (some 96) (.loadN 4 (.t 4)),
      .call (some 97) 34 [.t 95, .t 96],
      .op (some 98) (.not (.t 97)),
      .op (some 99) (.mov (.t 98)),
      .andor 103 false 4 99 [.op (some 100) (.mov (.t 15)), .op (some 101) (.mov (.t 5)), .op (some 102) (.eqb true (.t 100) (.t 101))] (.t 102),
      .op (some 104) (.mov (.t 103)),
      .andor 108 false 9 104 [.op (some 105) (.mov (.t 16)), .op (some 106) (.mov (.t 6)), .op (some 107) (.bin .neq (.t 105) (.t 106))] (.t 107)])
   (.keep [8, 12, 108] (.cond (.t 108)
    (.seq (.ops [.op (some 2) (.mov (.k (.bool false)))])
     (.keep [2] (.ret)))
    (.skip))))
  (.keep [8, 12] (.seq (.ops [.op (some 13) (.mov (.k (.int .i64 1)))])
  (.keep [8, 12, 13] (.seq (.ops [.op (some 109) (.loadN 4 (.t 8)),
     .op (some 110) (.mov (.t 13)),
     .call (some 111) 38 [.t 109, .t 110],
     .op (some 13) (.mov (.t 111))])
  (.keep [12, 13] (.seq (.seq (.ops [.op (some 112) (.mov (.t 13)),
      .op (some 113) (.bin .lss (.t 112) (.k (.int .i64 0)))])
   (.keep [12, 13, 113] (.cond (.t 113)
    (.seq (.ops [.op (some 2) (.mov (.k (.bool false)))])
     (.keep [2] (.ret)))
    (.skip))))
  (.keep [12, 13] (.seq (.seq (.ops [.op (some 114) (.mov (.t 13)),
      .op (some 115) (.mov (.t 12)),
      .op (some 116) (.bin .neq (.t 114) (.t 115))])
   (.keep [116] (.cond (.t 116)
    (.seq (.ops [.op (some 2) (.mov (.k (.bool false)))])
     (.keep [2] (.ret)))
    (.skip))))
  (.keep [] (.seq (.ops [.op (some 2) (.mov (.k (.bool true)))])
  (.keep [2] (.ret))))))))))))))))))))))))))))))))))))))))))))))))))
theorem k_c_FnExactDiskSync_fits : fitsF Try.prog 8 ⟨117, k_c_FnExactDiskSync, [.t 2]⟩ = true := by kernel_rfl
theorem c_FnExactDiskSync {d : GDisk} (wd : d.wf) : Con Try.prog noMv 8 [d.av] [] (fun r h => r = bool true ∧ h = []) := by
  refine con_of2 k_c_FnExactDiskSync_fits rfl fun C hP hmv => ?_
  unfold k_c_FnExactDiskSync
  refine cx_seq ?_
  refine cx_ops ?_
  refine ax_e (e_box rfl rfl (by decide) rfl rfl rfl) ?_
  refine ax_q (q_mov rfl) ?_
  refine ax_nil ?_
  refine cx_keep rfl rfl ?_
  refine cx_seq ?_
  refine cx_ops ?_
  refine ax_q (q_mov rfl) ?_
  refine ax_nil ?_
  refine cx_keep rfl rfl ?_
  refine cx_seq ?_
  refine cx_ops ?_
  first | refine ax_q (q_ldN rfl rfl rfl) ?_ | refine ax_q (q_loadN_ip rfl (Nat.le_refl _)) ?_ | refine ax_q (q_loadN_ip rfl (by decide)) ?_ | refine ax_q (q_loadN_rptr rfl rfl (by assumption) (by decide)) ?_ | refine ax_q (q_loadN_rptr rfl rfl (mapAt (by first | assumption | omega)) (by decide)) ?_
  refine ax_q (q_mov rfl) ?_
  have sp0 := szF_spec (1048576) (GDisk.sz d)
  refine ax_call rfl (vc_pure0 (c_szDisk (by omega) (by omega) wd) hP rfl rfl ?_)
  refine ax_q (q_mov rfl) ?_
  refine ax_nil ?_
  refine cx_keep rfl rfl ?_
  refine cx_seq ?_
  refine cx_seq ?_
  refine cx_ops ?_
  refine ax_q (q_mov rfl) ?_
  refine ax_q (q_ibin rfl rfl rfl) ?_
  refine ax_nil ?_
  refine cx_keep rfl rfl ?_
  refine cx_cond rfl (fun h0 => ?_) (fun h0 => ?_)
  · have h0 := dT h0
    refine cx_seq ?_
    refine cx_ops ?_
    refine ax_q (q_mov rfl) ?_
    refine ax_nil ?_
    refine cx_keep rfl rfl ?_
    refine cx_ret (ret0 rfl rfl ?_)
    exact ⟨rfl, rfl⟩
  · have h0 := dF h0
    have ⟨ld0, ld1, ld2⟩ : d.Sectors.length ≤ 1048576 ∧ d.Cache.length ≤ 1048576 ∧ d.Keep.length ≤ 1048576 := by
      have : GDisk.sz d = szL List.length d.Sectors + szL GPending.sz d.Cache + szL (fun _ => 0) d.Keep := rfl
      have := @szL_len _ List.length (d.Sectors)
      have := @szL_len _ GPending.sz (d.Cache)
      have := @szL_len _ (fun _ => 0) (d.Keep)
      omega
    have hz := @syncF_len d
    refine cx_skip ?_
    refine cx_keep rfl rfl ?_
    refine cx_seq ?_
    refine cx_ops ?_
    first | refine ax_q (q_ldN rfl rfl rfl) ?_ | refine ax_q (q_loadN_ip rfl (Nat.le_refl _)) ?_ | refine ax_q (q_loadN_ip rfl (by decide)) ?_ | refine ax_q (q_loadN_rptr rfl rfl (by assumption) (by decide)) ?_ | refine ax_q (q_loadN_rptr rfl rfl (mapAt (by first | assumption | omega)) (by decide)) ?_
    first | refine ax_call rfl (vc_pure (c_toDisk  ?_ ?_ ?_) hP rfl ?_) | refine ax_call rfl (vc_lend (c_toDisk  ?_ ?_ ?_) hP (by repeat (first | exact lal_id _ rfl | exact LAL.nil | refine LAL.cons ?_ ?_ | exact la_id _ rfl | exact LA.lend (lend_whole rfl (by first | (simp; done) | (rw [List.length_map]; rfl))) | refine LA.agg ?_ | refine LA.fn ?_ | refine LA.lend ?_ | exact Lend.d _ | exact Lend.zs _ | exact lend_whole rfl (by first | (simp; done) | (rw [List.length_map]; rfl)) | refine Lend.ptr rfl ?_ | refine Lend.fn ?_ | exact LendL.nil | refine LendL.cons ?_ ?_)) ?_)
    · first | assumption | omega | (simp; done) | (simp; omega)
    · first | assumption | omega | (simp; done) | (simp; omega)
    · first | assumption | omega | (simp; done) | (simp; omega)
    rintro r h ⟨rfl, rfl⟩
    refine ⟨fun i => 24 + 200 * i, [0, 1, 2], ⟨rfl, rfl, rfl, rfl, rfl, (by first | exact (fun h => absurd h Bool.false_ne_true) | exact (fun _ => ⟨rfl, (noisl_of (by repeat (first | exact trivial | refine ⟨noisl_map (fun _ => rfl), ?_⟩ | refine ⟨?_, ?_⟩)))⟩))⟩, ?_⟩
    skip
    first | refine ax_call rfl (vc_pure (c_sDiskSync  ?_ ?_ ?_) hP rfl ?_) | refine ax_call rfl (vc_lend (c_sDiskSync  ?_ ?_ ?_) hP (by repeat (first | exact lal_id _ rfl | exact LAL.nil | refine LAL.cons ?_ ?_ | exact la_id _ rfl | exact LA.lend (lend_whole rfl (by first | (simp; done) | (rw [List.length_map]; rfl))) | refine LA.agg ?_ | refine LA.fn ?_ | refine LA.lend ?_ | exact Lend.d _ | exact Lend.zs _ | exact lend_whole rfl (by first | (simp; done) | (rw [List.length_map]; rfl)) | refine Lend.ptr rfl ?_ | refine Lend.fn ?_ | exact LendL.nil | refine LendL.cons ?_ ?_)) ?_)
    · first | assumption | omega | (simp; done) | (simp; omega)
    · first | assumption | omega | (simp; done) | (simp; omega)
    · first | assumption | omega | (simp; done) | (simp; omega)
    rintro r h ⟨rfl, rfl⟩
    refine ⟨fun i => 25 + 200 * i, [0, 1, 2], ⟨rfl, rfl, rfl, rfl, rfl, (by first | exact (fun h => absurd h Bool.false_ne_true) | exact (fun _ => ⟨rfl, (noisl_of (by repeat (first | exact trivial | refine ⟨noisl_map (fun _ => rfl), ?_⟩ | refine ⟨?_, ?_⟩)))⟩))⟩, ?_⟩
    skip
    refine ax_q (q_mov rfl) ?_
    refine ax_q (q_ext rfl rfl) ?_
    refine ax_q (q_ext rfl rfl) ?_
    refine ax_q (q_ext rfl rfl) ?_
    refine ax_e (e_alloc (by decide) rfl rfl) ?_
    refine ax_e (e_st rfl rfl rfl rfl rfl rfl rfl) ?_
    refine ax_q (q_mov rfl) ?_
    refine ax_q (q_mov rfl) ?_
    refine ax_nil ?_
    refine cx_keep rfl rfl ?_
    refine cx_seq ?_
    refine cx_ops ?_
    first | refine ax_q (q_ldN rfl rfl rfl) ?_ | refine ax_q (q_loadN_ip rfl (Nat.le_refl _)) ?_ | refine ax_q (q_loadN_ip rfl (by decide)) ?_ | refine ax_q (q_loadN_rptr rfl rfl (by assumption) (by decide)) ?_ | refine ax_q (q_loadN_rptr rfl rfl (mapAt (by first | assumption | omega)) (by decide)) ?_
    first | refine ax_call rfl (vc_pure (c_toDisk  ?_ ?_ ?_) hP rfl ?_) | refine ax_call rfl (vc_lend (c_toDisk  ?_ ?_ ?_) hP (by repeat (first | exact lal_id _ rfl | exact LAL.nil | refine LAL.cons ?_ ?_ | exact la_id _ rfl | exact LA.lend (lend_whole rfl (by first | (simp; done) | (rw [List.length_map]; rfl))) | refine LA.agg ?_ | refine LA.fn ?_ | refine LA.lend ?_ | exact Lend.d _ | exact Lend.zs _ | exact lend_whole rfl (by first | (simp; done) | (rw [List.length_map]; rfl)) | refine Lend.ptr rfl ?_ | refine Lend.fn ?_ | exact LendL.nil | refine LendL.cons ?_ ?_)) ?_)
    · first | assumption | omega | (simp; done) | (simp; omega)
    · first | assumption | omega | (simp; done) | (simp; omega)
    · first | assumption | omega | (simp; done) | (simp; omega)
    rintro r h ⟨rfl, rfl⟩
    refine ⟨fun i => 30 + 200 * i, [0, 1, 2], ⟨rfl, rfl, rfl, rfl, rfl, (by first | exact (fun h => absurd h Bool.false_ne_true) | exact (fun _ => ⟨rfl, (noisl_of (by repeat (first | exact trivial | refine ⟨noisl_map (fun _ => rfl), ?_⟩ | refine ⟨?_, ?_⟩)))⟩))⟩, ?_⟩
    skip
    refine ax_e (e_alloc (by decide) rfl rfl) ?_
    refine ax_e (e_st rfl rfl rfl rfl rfl rfl rfl) ?_
    refine ax_nil ?_
    refine cx_keep rfl rfl ?_
    refine cx_seq ?_
    refine cx_ops ?_
    first | refine ax_q (q_ldN rfl rfl rfl) ?_ | refine ax_q (q_loadN_ip rfl (Nat.le_refl _)) ?_ | refine ax_q (q_loadN_ip rfl (by decide)) ?_ | refine ax_q (q_loadN_rptr rfl rfl (by assumption) (by decide)) ?_ | refine ax_q (q_loadN_rptr rfl rfl (mapAt (by first | assumption | omega)) (by decide)) ?_
    first | refine ax_call rfl (vc_pure (c_DiskSync  ?_ ?_ ?_) hP rfl ?_) | refine ax_call rfl (vc_lend (c_DiskSync  ?_ ?_ ?_) hP (by repeat (first | exact lal_id _ rfl | exact LAL.nil | refine LAL.cons ?_ ?_ | exact la_id _ rfl | exact LA.lend (lend_whole rfl (by first | (simp; done) | (rw [List.length_map]; rfl))) | refine LA.agg ?_ | refine LA.fn ?_ | refine LA.lend ?_ | exact Lend.d _ | exact Lend.zs _ | exact lend_whole rfl (by first | (simp; done) | (rw [List.length_map]; rfl)) | refine Lend.ptr rfl ?_ | refine Lend.fn ?_ | exact LendL.nil | refine LendL.cons ?_ ?_)) ?_)
    · first | assumption | omega | (simp; done) | (simp; omega)
    · first | assumption | omega | (simp; done) | (simp; omega)
    · first | assumption | omega | (simp; done) | (simp; omega)
    rintro r h ⟨rfl, rfl⟩
    refine ⟨fun i => 33 + 200 * i, [0, 1, 2], ⟨rfl, rfl, rfl, rfl, rfl, (by first | exact (fun h => absurd h Bool.false_ne_true) | exact (fun _ => ⟨rfl, (noisl_of (by repeat (first | exact trivial | refine ⟨noisl_map (fun _ => rfl), ?_⟩ | refine ⟨?_, ?_⟩)))⟩))⟩, ?_⟩
    skip
    refine ax_q (q_mov rfl) ?_
    refine ax_q (q_ext rfl rfl) ?_
    refine ax_q (q_ext rfl rfl) ?_
    refine ax_q (q_ext rfl rfl) ?_
    refine ax_e (e_alloc (by decide) rfl rfl) ?_
    refine ax_e (e_st rfl rfl rfl rfl rfl rfl rfl) ?_
    refine ax_q (q_mov rfl) ?_
    refine ax_q (q_mov rfl) ?_
    refine ax_nil ?_
    refine cx_keep rfl rfl ?_
    refine cx_seq ?_
    refine cx_seq ?_
    refine cx_ops ?_
    first | refine ax_q (q_ldN rfl rfl rfl) ?_ | refine ax_q (q_loadN_ip rfl (Nat.le_refl _)) ?_ | refine ax_q (q_loadN_ip rfl (by decide)) ?_ | refine ax_q (q_loadN_rptr rfl rfl (by assumption) (by decide)) ?_ | refine ax_q (q_loadN_rptr rfl rfl (mapAt (by first | assumption | omega)) (by decide)) ?_
    first | refine ax_q (q_ldN rfl rfl rfl) ?_ | refine ax_q (q_loadN_ip rfl (Nat.le_refl _)) ?_ | refine ax_q (q_loadN_ip rfl (by decide)) ?_ | refine ax_q (q_loadN_rptr rfl rfl (by assumption) (by decide)) ?_ | refine ax_q (q_loadN_rptr rfl rfl (mapAt (by first | assumption | omega)) (by decide)) ?_
    first | refine ax_call rfl (vc_pure0 (c_eqDisk  ?_ ?_ ?_) hP rfl rfl ?_) | refine ax_call rfl (vc_lend0 (c_eqDisk  ?_ ?_ ?_) hP (by repeat (first | exact lal_id _ rfl | exact LAL.nil | refine LAL.cons ?_ ?_ | exact la_id _ rfl | exact LA.lend (lend_whole rfl (by first | (simp; done) | (rw [List.length_map]; rfl))) | refine LA.agg ?_ | refine LA.fn ?_ | refine LA.lend ?_ | exact Lend.d _ | exact Lend.zs _ | exact lend_whole rfl (by first | (simp; done) | (rw [List.length_map]; rfl)) | refine Lend.ptr rfl ?_ | refine Lend.fn ?_ | exact LendL.nil | refine LendL.cons ?_ ?_)) rfl rfl ?_)
    · first | assumption | omega | (simp; done) | (simp; omega)
    · first | assumption | omega | (simp; done) | (simp; omega)
    · first | assumption | omega | (simp; done) | (simp; omega)
    refine ax_q (q_not rfl) ?_
    refine ax_q (q_mov rfl) ?_
    apply ax_or rfl rfl
    · intro g
      have g := bF g
      refine ax_q (q_mov rfl) ?_
      refine ax_q (q_mov rfl) ?_
      refine ax_q (q_eqb rfl rfl) ?_
      exact ax_nil ⟨rfl, by repeat (first | exact trivial | refine ⟨rfl, ?_⟩ | refine ⟨?_, ?_⟩)⟩
    refine ax_q (q_mov rfl) ?_
    apply ax_or rfl rfl
    · intro g
      have g := (fun h => And.intro (bF (or_F h).1) (bneF (or_F h).2)) g
      refine ax_q (q_mov rfl) ?_
      refine ax_q (q_mov rfl) ?_
      refine ax_q (q_ibin rfl rfl rfl) ?_
      exact ax_nil ⟨rfl, by repeat (first | exact trivial | refine ⟨rfl, ?_⟩ | refine ⟨?_, ?_⟩)⟩
    refine ax_nil ?_
    refine cx_keep rfl rfl ?_
    refine cx_cond rfl (fun h1 => ?_) (fun h1 => ?_)
    · have h1 := (fun h => (or_T h).imp (fun h => (or_T h).imp bT bneT) nT) h1
      first | exact absurd rfl h1 | (exfalso; omega) | exact absurd h1 (by simp [eqb_rfl] <;> omega)
    · have h1 := (fun h => And.intro ((fun h => And.intro (bF (or_F h).1) (bneF (or_F h).2)) (or_F h).1) (nF (or_F h).2)) h1
      refine cx_skip ?_
      refine cx_keep rfl rfl ?_
      refine cx_seq ?_
      refine cx_seq ?_
      refine cx_drawL 0 51 (fun _ => false) (fun _ => true) [] ([]) [[7], [1], [52]] [[], [], []] rfl ?_
      first | refine ⟨⟨51, _, []⟩, .inl ⟨rfl, rfl, rfl, locl_of (loc_q (q_ldN rfl rfl rfl))⟩, ?_⟩ | refine ⟨⟨51, _, []⟩, .inl ⟨rfl, rfl, rfl, locl_of (loc_q (q_loadN_ip rfl (Nat.le_refl _)))⟩, ?_⟩ | refine ⟨⟨51, _, []⟩, .inl ⟨rfl, rfl, rfl, locl_of (loc_q (q_loadN_ip rfl (by decide)))⟩, ?_⟩ | refine ⟨⟨51, _, []⟩, .inl ⟨rfl, rfl, rfl, locl_of (loc_q (q_loadN_rptr rfl rfl (by assumption) (by decide)))⟩, ?_⟩ | refine ⟨⟨51, _, []⟩, .inl ⟨rfl, rfl, rfl, locl_of (loc_q (q_loadN_rptr rfl rfl (mapAt (by first | assumption | omega)) (by decide)))⟩, ?_⟩
      first | refine ⟨_, .inr ⟨rfl, _, rfl, .inr ⟨rfl, rfl, .inr rfl, rfl, rfl⟩, loc_q (q_ldN rfl rfl rfl)⟩, ?_⟩ | refine ⟨_, .inr ⟨rfl, _, rfl, .inr ⟨rfl, rfl, .inr rfl, rfl, rfl⟩, loc_q (q_loadN_ip rfl (Nat.le_refl _))⟩, ?_⟩ | refine ⟨_, .inr ⟨rfl, _, rfl, .inr ⟨rfl, rfl, .inr rfl, rfl, rfl⟩, loc_q (q_loadN_ip rfl (by decide))⟩, ?_⟩ | refine ⟨_, .inr ⟨rfl, _, rfl, .inr ⟨rfl, rfl, .inr rfl, rfl, rfl⟩, loc_q (q_loadN_rptr rfl rfl (by assumption) (by decide))⟩, ?_⟩ | refine ⟨_, .inr ⟨rfl, _, rfl, .inr ⟨rfl, rfl, .inr rfl, rfl, rfl⟩, loc_q (q_loadN_rptr rfl rfl (mapAt (by first | assumption | omega)) (by decide))⟩, ?_⟩
      first | refine ⟨_, .inr ⟨rfl, _, rfl, .inr ⟨rfl, rfl, .inr rfl, rfl, rfl⟩, loc_call (fun i => 53 + 200 * i) false rfl (c_toDisk  (by first | assumption | omega | (simp; done) | (simp; omega)) (by first | assumption | omega | (simp; done) | (simp; omega)) (by first | assumption | omega | (simp; done) | (simp; omega))) hP (.inr ⟨rfl, rfl, rfl⟩) rfl rfl (fun h => by cases h)⟩, ?_⟩ | refine ⟨_, .inr ⟨rfl, _, rfl, .inr ⟨rfl, rfl, .inr rfl, rfl, rfl⟩, loc_call (fun i => 53 + 200 * i) true rfl (c_toDisk  (by first | assumption | omega | (simp; done) | (simp; omega)) (by first | assumption | omega | (simp; done) | (simp; omega)) (by first | assumption | omega | (simp; done) | (simp; omega))) hP (.inl ⟨rfl, (by repeat (first | exact lal_id _ rfl | exact LAL.nil | refine LAL.cons ?_ ?_ | exact la_id _ rfl | exact LA.lend (lend_whole rfl (by first | (simp; done) | (rw [List.length_map]; rfl))) | refine LA.agg ?_ | refine LA.fn ?_ | refine LA.lend ?_ | exact Lend.d _ | exact Lend.zs _ | exact lend_whole rfl (by first | (simp; done) | (rw [List.length_map]; rfl)) | refine Lend.ptr rfl ?_ | refine Lend.fn ?_ | exact LendL.nil | refine LendL.cons ?_ ?_))⟩) rfl rfl (fun _ => ⟨rfl, noisl_of (by repeat (first | exact trivial | refine ⟨noisl_map (fun _ => rfl), ?_⟩ | refine ⟨?_, ?_⟩))⟩)⟩, ?_⟩
      refine ⟨rfl, ?_⟩
      first | refine ax_call rfl (vc_pure0 (c_eqDisk  ?_ ?_ ?_) hP rfl rfl ?_) | refine ax_call rfl (vc_lend0 (c_eqDisk  ?_ ?_ ?_) hP (by repeat (first | exact lal_id _ rfl | exact LAL.nil | refine LAL.cons ?_ ?_ | exact la_id _ rfl | exact LA.lend (lend_whole rfl (by first | (simp; done) | (rw [List.length_map]; rfl))) | refine LA.agg ?_ | refine LA.fn ?_ | refine LA.lend ?_ | exact Lend.d _ | exact Lend.zs _ | exact lend_whole rfl (by first | (simp; done) | (rw [List.length_map]; rfl)) | refine Lend.ptr rfl ?_ | refine Lend.fn ?_ | exact LendL.nil | refine LendL.cons ?_ ?_)) rfl rfl ?_)
      · first | assumption | omega | (simp; done) | (simp; omega)
      · first | assumption | omega | (simp; done) | (simp; omega)
      · first | assumption | omega | (simp; done) | (simp; omega)
      refine ax_q (q_not rfl) ?_
      refine ax_nil ?_
      refine cx_keep rfl rfl ?_
      refine cx_cond rfl (fun h2 => ?_) (fun h2 => ?_)
      · have h2 := bT h2
        first | exact absurd rfl h2 | (exfalso; omega) | exact absurd h2 (by simp [eqb_rfl] <;> omega)
      · have h2 := bF h2
        refine cx_skip ?_
        refine cx_keep rfl rfl ?_
        refine cx_seq ?_
        refine cx_ops ?_
        refine ax_q (q_mov rfl) ?_
        refine ax_nil ?_
        refine cx_keep rfl rfl ?_
        refine cx_seq ?_
        refine cx_ops ?_
        first | refine ax_q (q_ldN rfl rfl rfl) ?_ | refine ax_q (q_loadN_ip rfl (Nat.le_refl _)) ?_ | refine ax_q (q_loadN_ip rfl (by decide)) ?_ | refine ax_q (q_loadN_rptr rfl rfl (by assumption) (by decide)) ?_ | refine ax_q (q_loadN_rptr rfl rfl (mapAt (by first | assumption | omega)) (by decide)) ?_
        refine ax_q (q_mov rfl) ?_
        refine ax_call rfl (vcall_own (c_markDisk (a := d) (k0 := 1) (by show _ ≤ _; first | omega | (simp only [GDisk.mkN]; omega))) hP hmv false (fun e => bif Nat.beq e 1000 then 30 else bif Nat.beq e 1001 then 230 else 430) [1000, 1001, 1002] ⟨rfl, rfl, rfl, rfl, (by repeat (first | exact trivial | refine ⟨rfl, ?_⟩)), rfl, rfl, rfl⟩ (.pass rfl rfl (.pass rfl rfl .nil)) ?_)
        rintro r h ⟨rfl, rfl⟩
        refine ⟨fun e => bif Nat.beq e 1000 then 30 else bif Nat.beq e 1001 then 230 else 430, [], ⟨rfl, rfl, rfl, rfl, (mem3 rfl rfl rfl), rfl, rfl, fun h => by cases h⟩, ?_⟩
        refine ax_q (q_mov rfl) ?_
        refine ax_nil ?_
        refine cx_keep rfl rfl ?_
        refine cx_seq ?_
        refine cx_seq ?_
        refine cx_ops ?_
        refine ax_q (q_mov rfl) ?_
        refine ax_q (q_ibin rfl rfl rfl) ?_
        refine ax_q (q_mov rfl) ?_
        apply ax_or rfl rfl
        · intro g
          have g := dF g
          first | refine ax_q (q_ldN rfl rfl rfl) ?_ | refine ax_q (q_loadN_ip rfl (Nat.le_refl _)) ?_ | refine ax_q (q_loadN_ip rfl (by decide)) ?_ | refine ax_q (q_loadN_rptr rfl rfl (by assumption) (by decide)) ?_ | refine ax_q (q_loadN_rptr rfl rfl (mapAt (by first | assumption | omega)) (by decide)) ?_
          first | refine ax_q (q_ldN rfl rfl rfl) ?_ | refine ax_q (q_loadN_ip rfl (Nat.le_refl _)) ?_ | refine ax_q (q_loadN_ip rfl (by decide)) ?_ | refine ax_q (q_loadN_rptr rfl rfl (by assumption) (by decide)) ?_ | refine ax_q (q_loadN_rptr rfl rfl (mapAt (by first | assumption | omega)) (by decide)) ?_
          first | refine ax_call rfl (vc_pure0 (c_eqDisk  ?_ ?_ ?_) hP rfl rfl ?_) | refine ax_call rfl (vc_lend0 (c_eqDisk  ?_ ?_ ?_) hP (by repeat (first | exact lal_id _ rfl | exact LAL.nil | refine LAL.cons ?_ ?_ | exact la_id _ rfl | exact LA.lend (lend_whole rfl (by first | (simp; done) | (rw [List.length_map]; rfl))) | refine LA.agg ?_ | refine LA.fn ?_ | refine LA.lend ?_ | exact Lend.d _ | exact Lend.zs _ | exact lend_whole rfl (by first | (simp; done) | (rw [List.length_map]; rfl)) | refine Lend.ptr rfl ?_ | refine Lend.fn ?_ | exact LendL.nil | refine LendL.cons ?_ ?_)) rfl rfl ?_)
          · first | assumption | omega | (simp; done) | (simp; omega)
          · first | assumption | omega | (simp; done) | (simp; omega)
          · first | assumption | omega | (simp; done) | (simp; omega)
          refine ax_q (q_not rfl) ?_
          exact ax_nil ⟨rfl, by repeat (first | exact trivial | refine ⟨rfl, ?_⟩ | refine ⟨?_, ?_⟩)⟩
        refine ax_q (q_mov rfl) ?_
        apply ax_or rfl rfl
        · intro g
          have g := (fun h => And.intro (dF (or_F h).1) (bF (or_F h).2)) g
          refine ax_q (q_mov rfl) ?_
          refine ax_q (q_mov rfl) ?_
          refine ax_q (q_eqb rfl rfl) ?_
          exact ax_nil ⟨rfl, by repeat (first | exact trivial | refine ⟨rfl, ?_⟩ | refine ⟨?_, ?_⟩)⟩
        refine ax_q (q_mov rfl) ?_
        apply ax_or rfl rfl
        · intro g
          have g := (fun h => And.intro ((fun h => And.intro (dF (or_F h).1) (bF (or_F h).2)) (or_F h).1) (bneF (or_F h).2)) g
          refine ax_q (q_mov rfl) ?_
          refine ax_q (q_mov rfl) ?_
          refine ax_q (q_ibin rfl rfl rfl) ?_
          exact ax_nil ⟨rfl, by repeat (first | exact trivial | refine ⟨rfl, ?_⟩ | refine ⟨?_, ?_⟩)⟩
        refine ax_nil ?_
        refine cx_keep rfl rfl ?_
        refine cx_cond rfl (fun h3 => ?_) (fun h3 => ?_)
        · have h3 := (fun h => (or_T h).imp (fun h => (or_T h).imp (fun h => (or_T h).imp dT bT) bneT) nT) h3
          first | exact absurd rfl h3 | (exfalso; omega) | exact absurd h3 (by simp [eqb_rfl] <;> omega)
        · have h3 := (fun h => And.intro ((fun h => And.intro ((fun h => And.intro (dF (or_F h).1) (bF (or_F h).2)) (or_F h).1) (bneF (or_F h).2)) (or_F h).1) (nF (or_F h).2)) h3
          refine cx_skip ?_
          refine cx_keep rfl rfl ?_
          refine cx_seq ?_
          refine cx_ops ?_
          refine ax_q (q_mov rfl) ?_
          refine ax_nil ?_
          refine cx_keep rfl rfl ?_
          refine cx_seq ?_
          refine cx_ops ?_
          first | refine ax_q (q_ldN rfl rfl rfl) ?_ | refine ax_q (q_loadN_ip rfl (Nat.le_refl _)) ?_ | refine ax_q (q_loadN_ip rfl (by decide)) ?_ | refine ax_q (q_loadN_rptr rfl rfl (by assumption) (by decide)) ?_ | refine ax_q (q_loadN_rptr rfl rfl (mapAt (by first | assumption | omega)) (by decide)) ?_
          refine ax_q (q_mov rfl) ?_
          refine ax_call rfl (vcall_own (c_markDisk (a := (syncF d).1) (k0 := 1) (by show _ ≤ _; first | omega | (simp only [GDisk.mkN]; omega))) hP hmv false (fun e => bif Nat.beq e 1000 then 33 else bif Nat.beq e 1001 then 233 else 433) [1000, 1001, 1002] ⟨rfl, rfl, rfl, rfl, (by repeat (first | exact trivial | refine ⟨rfl, ?_⟩)), rfl, rfl, rfl⟩ (.pass rfl rfl (.pass rfl rfl .nil)) ?_)
          rintro r h ⟨rfl, rfl⟩
          refine ⟨fun e => bif Nat.beq e 1000 then 33 else bif Nat.beq e 1001 then 233 else 433, [], ⟨rfl, rfl, rfl, rfl, (mem3 rfl rfl rfl), rfl, rfl, fun h => by cases h⟩, ?_⟩
          refine ax_q (q_mov rfl) ?_
          refine ax_nil ?_
          refine cx_keep rfl rfl ?_
          refine cx_seq ?_
          refine cx_ops ?_
          refine ax_q (q_mov rfl) ?_
          refine ax_nil ?_
          refine cx_keep rfl rfl ?_
          refine cx_seq ?_
          refine cx_ops ?_
          first | refine ax_q (q_ldN rfl rfl rfl) ?_ | refine ax_q (q_loadN_ip rfl (Nat.le_refl _)) ?_ | refine ax_q (q_loadN_ip rfl (by decide)) ?_ | refine ax_q (q_loadN_rptr rfl rfl (by assumption) (by decide)) ?_ | refine ax_q (q_loadN_rptr rfl rfl (mapAt (by first | assumption | omega)) (by decide)) ?_
          refine ax_q (q_mov rfl) ?_
          refine ax_call rfl (vc_lend0 (c_heldDisk (a := (syncF d).1) (k0 := 1) (by show _ ≤ _; first | omega | (simp only [GDisk.mkN]; omega))) hP (by repeat (first | exact lal_id _ rfl | exact LAL.nil | refine LAL.cons ?_ ?_ | exact la_id _ rfl | exact LA.lend (lend_whole rfl (by simp [GDisk.mkS, markL_len])) | refine LA.agg ?_ | refine LA.fn ?_ | refine LA.lend ?_ | exact Lend.d _ | exact Lend.zs _ | exact lend_whole rfl (by simp [GDisk.mkS, markL_len]) | refine Lend.ptr rfl ?_ | refine Lend.fn ?_ | exact LendL.nil | refine LendL.cons ?_ ?_)) rfl rfl ?_)
          refine ax_q (q_mov rfl) ?_
          refine ax_nil ?_
          refine cx_keep rfl rfl ?_
          refine cx_seq ?_
          refine cx_seq ?_
          refine cx_ops ?_
          refine ax_q (q_mov rfl) ?_
          refine ax_q (q_ibin rfl rfl rfl) ?_
          refine ax_nil ?_
          refine cx_keep rfl rfl ?_
          refine cx_cond rfl (fun h4 => ?_) (fun h4 => ?_)
          · have h4 := dT h4
            first | exact absurd rfl h4 | (exfalso; omega) | exact absurd h4 (by simp [eqb_rfl] <;> omega)
          · have h4 := dF h4
            refine cx_skip ?_
            refine cx_keep rfl rfl ?_
            refine cx_seq ?_
            refine cx_seq ?_
            refine cx_ops ?_
            refine ax_q (q_mov rfl) ?_
            refine ax_q (q_mov rfl) ?_
            refine ax_q (q_ibin rfl rfl rfl) ?_
            refine ax_nil ?_
            refine cx_keep rfl rfl ?_
            refine cx_cond rfl (fun h5 => ?_) (fun h5 => ?_)
            · have h5 := nT h5
              first | exact absurd rfl h5 | (exfalso; omega) | exact absurd h5 (by simp [eqb_rfl] <;> omega)
            · have h5 := nF h5
              refine cx_skip ?_
              refine cx_keep rfl rfl ?_
              refine cx_seq ?_
              refine cx_ops ?_
              first | refine ax_q (q_ldN rfl rfl rfl) ?_ | refine ax_q (q_loadN_ip rfl (Nat.le_refl _)) ?_ | refine ax_q (q_loadN_ip rfl (by decide)) ?_ | refine ax_q (q_loadN_rptr rfl rfl (by assumption) (by decide)) ?_ | refine ax_q (q_loadN_rptr rfl rfl (mapAt (by first | assumption | omega)) (by decide)) ?_
              first | refine ax_call rfl (vc_pure (c_toDisk  ?_ ?_ ?_) hP rfl ?_) | refine ax_call rfl (vc_lend (c_toDisk  ?_ ?_ ?_) hP (by repeat (first | exact lal_id _ rfl | exact LAL.nil | refine LAL.cons ?_ ?_ | exact la_id _ rfl | exact LA.lend (lend_whole rfl (by first | (simp; done) | (rw [List.length_map]; rfl))) | refine LA.agg ?_ | refine LA.fn ?_ | refine LA.lend ?_ | exact Lend.d _ | exact Lend.zs _ | exact lend_whole rfl (by first | (simp; done) | (rw [List.length_map]; rfl)) | refine Lend.ptr rfl ?_ | refine Lend.fn ?_ | exact LendL.nil | refine LendL.cons ?_ ?_)) ?_)
              · first | assumption | omega | (simp; done) | (simp; omega)
              · first | assumption | omega | (simp; done) | (simp; omega)
              · first | assumption | omega | (simp; done) | (simp; omega)
              rintro r h ⟨rfl, rfl⟩
              refine ⟨fun i => 90 + 200 * i, [0, 1, 2], ⟨rfl, rfl, rfl, rfl, rfl, (by first | exact (fun h => absurd h Bool.false_ne_true) | exact (fun _ => ⟨rfl, (noisl_of (by repeat (first | exact trivial | refine ⟨noisl_map (fun _ => rfl), ?_⟩ | refine ⟨?_, ?_⟩)))⟩))⟩, ?_⟩
              skip
              first | refine ax_call rfl (vc_pure (c_DiskSync  ?_ ?_ ?_) hP rfl ?_) | refine ax_call rfl (vc_lend (c_DiskSync  ?_ ?_ ?_) hP (by repeat (first | exact lal_id _ rfl | exact LAL.nil | refine LAL.cons ?_ ?_ | exact la_id _ rfl | exact LA.lend (lend_whole rfl (by first | (simp; done) | (rw [List.length_map]; rfl))) | refine LA.agg ?_ | refine LA.fn ?_ | refine LA.lend ?_ | exact Lend.d _ | exact Lend.zs _ | exact lend_whole rfl (by first | (simp; done) | (rw [List.length_map]; rfl)) | refine Lend.ptr rfl ?_ | refine Lend.fn ?_ | exact LendL.nil | refine LendL.cons ?_ ?_)) ?_)
              · first | assumption | omega | (simp; done) | (simp; omega)
              · first | assumption | omega | (simp; done) | (simp; omega)
              · first | assumption | omega | (simp; done) | (simp; omega)
              rintro r h ⟨rfl, rfl⟩
              refine ⟨fun i => 91 + 200 * i, [0, 1, 2], ⟨rfl, rfl, rfl, rfl, rfl, (by first | exact (fun h => absurd h Bool.false_ne_true) | exact (fun _ => ⟨rfl, (noisl_of (by repeat (first | exact trivial | refine ⟨noisl_map (fun _ => rfl), ?_⟩ | refine ⟨?_, ?_⟩)))⟩))⟩, ?_⟩
              skip
              refine ax_q (q_mov rfl) ?_
              refine ax_q (q_ext rfl rfl) ?_
              refine ax_q (q_ext rfl rfl) ?_
              refine ax_q (q_ext rfl rfl) ?_
              refine ax_e (e_alloc (by decide) rfl rfl) ?_
              refine ax_e (e_st rfl rfl rfl rfl rfl rfl rfl) ?_
              refine ax_q (q_mov rfl) ?_
              refine ax_q (q_mov rfl) ?_
              refine ax_nil ?_
              refine cx_keep rfl rfl ?_
              refine cx_seq ?_
              refine cx_seq ?_
              refine cx_ops ?_
              first | refine ax_q (q_ldN rfl rfl rfl) ?_ | refine ax_q (q_loadN_ip rfl (Nat.le_refl _)) ?_ | refine ax_q (q_loadN_ip rfl (by decide)) ?_ | refine ax_q (q_loadN_rptr rfl rfl (by assumption) (by decide)) ?_ | refine ax_q (q_loadN_rptr rfl rfl (mapAt (by first | assumption | omega)) (by decide)) ?_
              first | refine ax_q (q_ldN rfl rfl rfl) ?_ | refine ax_q (q_loadN_ip rfl (Nat.le_refl _)) ?_ | refine ax_q (q_loadN_ip rfl (by decide)) ?_ | refine ax_q (q_loadN_rptr rfl rfl (by assumption) (by decide)) ?_ | refine ax_q (q_loadN_rptr rfl rfl (mapAt (by first | assumption | omega)) (by decide)) ?_
              first | refine ax_call rfl (vc_pure0 (c_eqDisk  ?_ ?_ ?_) hP rfl rfl ?_) | refine ax_call rfl (vc_lend0 (c_eqDisk  ?_ ?_ ?_) hP (by repeat (first | exact lal_id _ rfl | exact LAL.nil | refine LAL.cons ?_ ?_ | exact la_id _ rfl | exact LA.lend (lend_whole rfl (by first | (simp; done) | (rw [List.length_map]; rfl))) | refine LA.agg ?_ | refine LA.fn ?_ | refine LA.lend ?_ | exact Lend.d _ | exact Lend.zs _ | exact lend_whole rfl (by first | (simp; done) | (rw [List.length_map]; rfl)) | refine Lend.ptr rfl ?_ | refine Lend.fn ?_ | exact LendL.nil | refine LendL.cons ?_ ?_)) rfl rfl ?_)
              · first | assumption | omega | (simp; done) | (simp; omega)
              · first | assumption | omega | (simp; done) | (simp; omega)
              · first | assumption | omega | (simp; done) | (simp; omega)
              refine ax_q (q_not rfl) ?_
              refine ax_q (q_mov rfl) ?_
              apply ax_or rfl rfl
              · intro g
                have g := bF g
                refine ax_q (q_mov rfl) ?_
                refine ax_q (q_mov rfl) ?_
                refine ax_q (q_eqb rfl rfl) ?_
                exact ax_nil ⟨rfl, by repeat (first | exact trivial | refine ⟨rfl, ?_⟩ | refine ⟨?_, ?_⟩)⟩
              refine ax_q (q_mov rfl) ?_
              apply ax_or rfl rfl
              · intro g
                have g := (fun h => And.intro (bF (or_F h).1) (bneF (or_F h).2)) g
                refine ax_q (q_mov rfl) ?_
                refine ax_q (q_mov rfl) ?_
                refine ax_q (q_ibin rfl rfl rfl) ?_
                exact ax_nil ⟨rfl, by repeat (first | exact trivial | refine ⟨rfl, ?_⟩ | refine ⟨?_, ?_⟩)⟩
              refine ax_nil ?_
              refine cx_keep rfl rfl ?_
              refine cx_cond rfl (fun h6 => ?_) (fun h6 => ?_)
              · have h6 := (fun h => (or_T h).imp (fun h => (or_T h).imp bT bneT) nT) h6
                first | exact absurd rfl h6 | (exfalso; omega) | exact absurd h6 (by simp [eqb_rfl] <;> omega)
              · have h6 := (fun h => And.intro ((fun h => And.intro (bF (or_F h).1) (bneF (or_F h).2)) (or_F h).1) (nF (or_F h).2)) h6
                refine cx_skip ?_
                refine cx_keep rfl rfl ?_
                refine cx_seq ?_
                refine cx_ops ?_
                refine ax_q (q_mov rfl) ?_
                refine ax_nil ?_
                refine cx_keep rfl rfl ?_
                refine cx_seq ?_
                refine cx_ops ?_
                first | refine ax_q (q_ldN rfl rfl rfl) ?_ | refine ax_q (q_loadN_ip rfl (Nat.le_refl _)) ?_ | refine ax_q (q_loadN_ip rfl (by decide)) ?_ | refine ax_q (q_loadN_rptr rfl rfl (by assumption) (by decide)) ?_ | refine ax_q (q_loadN_rptr rfl rfl (mapAt (by first | assumption | omega)) (by decide)) ?_
                refine ax_q (q_mov rfl) ?_
                refine ax_call rfl (vc_lend0 (c_heldDisk (a := (syncF d).1) (k0 := 1) (by show _ ≤ _; first | omega | (simp only [GDisk.mkN]; omega))) hP (by repeat (first | exact lal_id _ rfl | exact LAL.nil | refine LAL.cons ?_ ?_ | exact la_id _ rfl | exact LA.lend (lend_whole rfl (by simp [GDisk.mkS, markL_len])) | refine LA.agg ?_ | refine LA.fn ?_ | refine LA.lend ?_ | exact Lend.d _ | exact Lend.zs _ | exact lend_whole rfl (by simp [GDisk.mkS, markL_len]) | refine Lend.ptr rfl ?_ | refine Lend.fn ?_ | exact LendL.nil | refine LendL.cons ?_ ?_)) rfl rfl ?_)
                refine ax_q (q_mov rfl) ?_
                refine ax_nil ?_
                refine cx_keep rfl rfl ?_
                refine cx_seq ?_
                refine cx_seq ?_
                refine cx_ops ?_
                refine ax_q (q_mov rfl) ?_
                refine ax_q (q_ibin rfl rfl rfl) ?_
                refine ax_nil ?_
                refine cx_keep rfl rfl ?_
                refine cx_cond rfl (fun h7 => ?_) (fun h7 => ?_)
                · have h7 := dT h7
                  first | exact absurd rfl h7 | (exfalso; omega) | exact absurd h7 (by simp [eqb_rfl] <;> omega)
                · have h7 := dF h7
                  refine cx_skip ?_
                  refine cx_keep rfl rfl ?_
                  refine cx_seq ?_
                  refine cx_seq ?_
                  refine cx_ops ?_
                  refine ax_q (q_mov rfl) ?_
                  refine ax_q (q_mov rfl) ?_
                  refine ax_q (q_ibin rfl rfl rfl) ?_
                  refine ax_nil ?_
                  refine cx_keep rfl rfl ?_
                  refine cx_cond rfl (fun h8 => ?_) (fun h8 => ?_)
                  · have h8 := nT h8
                    first | exact absurd rfl h8 | (exfalso; omega) | exact absurd h8 (by simp [eqb_rfl] <;> omega)
                  · have h8 := nF h8
                    refine cx_skip ?_
                    refine cx_keep rfl rfl ?_
                    refine cx_seq ?_
                    refine cx_ops ?_
                    refine ax_q (q_mov rfl) ?_
                    refine ax_nil ?_
                    refine cx_keep rfl rfl ?_
                    refine cx_ret (ret0 rfl rfl ?_)
                    exact ⟨rfl, rfl⟩

theorem own : ownKnob Try.prog.godebug = none := by kernel_rfl
theorem laid : laidOutB Try.prog = true := by kernel_rfl
theorem closedTs : closedT Try.prog [3, 4, 9, 23, 25, 53, 55, 130] = true := by kernel_rfl
theorem con (rows : List (List D)) (h : HasAll Try.prog Try.f8.params.toList rows) : Con Try.prog noMv 8 (argsAV Try.prog Try.f8.params.toList rows) [] (fun r h => r = AM.bool true ∧ h = []) := by
  rw [Try.params8] at h ⊢
  obtain ⟨d0, r0, rfl, h0, h⟩ := h
  obtain rfl := h
  obtain ⟨a0, rfl, w0⟩ := (GDisk.dec Try.underlying55 rfl (dec_slice (sz := 1) Try.underlying23 (by kernel_rfl) (dec_str Try.underlying9)) (dec_slice (sz := 2) Try.underlying53 (by kernel_rfl) (GPending.dec Try.underlying130 rfl (dec_int Try.underlying3) (dec_str Try.underlying9))) (dec_bool Try.underlying4) (dec_slice (sz := 1) Try.underlying25 (by kernel_rfl) (dec_int Try.underlying3))) h0
  have e : argsAV Try.prog [55] [GDisk.row a0] = [a0.av] := by
    first | (simp only [argsAV, argAV, Try.underlying55]; done) | (simp only [argsAV, argAV, Try.underlying55]; rfl)
  show Con Try.prog noMv 8 (argsAV Try.prog [55] [GDisk.row a0]) [] _
  rw [e]
  exact c_FnExactDiskSync w0
set_option maxRecDepth 100000 in
theorem lifted (os : Os) (started : os.Started) (H : Type) (enc : TypeId × Value → H) :
    ReturnsInHanded {} Try.checked os 8 .any (Rows.fnExactDiskSyncSpec.pre6 enc Try.prog Try.f8 Rows.fnExactDiskSyncRow.domain false) (Rows.fnExactDiskSyncSpec.post enc Try.prog Try.f8 false true false false) := by
  refine returnsInHanded_of_change (C := Try.checked) own started (by kernel_rfl) Try.func8
    (ChangeSpec.witness6 (enc := enc) (C := Try.checked) false ⟨#[], #[.agg #[.slice none 0 0, .slice none 0 0, .bool false, .slice none 0 0]], []⟩ 8 (by kernel_rfl) (by kernel_rfl) (by kernel_rfl) (by kernel_rfl)) ?_
  intro W base args ds gs before hval hW hcnd _
  refine law_contract closedTs laid (by kernel_rfl) rfl rfl Try.underlying4 con (fun hl => ?_) hval hW
  match ds, hl with
  | [x0], _ => rfl
theorem over : Rows.fnExactDiskSyncRow.holds Try.pinned (OpenSpec.ofChange Rows.fnExactDiskSyncSpec) :=
  OpenClaim.holds_of_wide 8 Try.f8 rfl rfl rfl rfl rfl rfl rfl ⟨rfl, rfl, rfl, rfl, rfl⟩ rfl rfl rfl rfl rfl (by kernel_rfl) Try.func8 (by kernel_rfl)
    (of_decide_eq_true (by kernel_rfl)) (by unfold Func.isWrapper; first | (rw [if_pos (by decide +kernel)]; kernel_rfl) | (rw [if_neg (by decide +kernel)]; exact ⟨rfl, rfl⟩))
    (fun os started H enc _ => lifted os started H enc)
theorem proved : Rows.FnExactDiskSyncSaid := over
end fnExactDiskSync
end Go.Proofs.Ytioeeemlghkekaa
#print axioms Go.Proofs.Ytioeeemlghkekaa.fnExactDiskSync.proved
