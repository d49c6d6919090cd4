/- The law FnExactDiskWrite of the given program returns true for all arguments, and its arguments read behind the call as they read before: the statement FnExactDiskWriteSaid, with no condition. -/
import Derived.Test.YtioeeemlghkekaaW0
import Derived.Test.YtioeeemlghkekaaRows
namespace Go.Proofs.Ytioeeemlghkekaa
open Go Go.AM Go.ChangeShapes Go.RowKit
set_option linter.unusedVariables false
namespace fnExactDiskWrite
set_option maxRecDepth 10000
/- loop.example/g00332/laws.FnExactDiskWrite -/
def k_c_FnExactDiskWrite : XCode :=
  .seq (.ops [.op (some 3) (.box (.t 0)),
     .op (some 6) (.mov (.k (.bool false)))])
  (.keep [1, 2, 3] (.seq (.seq (.ops [.op (some 18) (.mov (.t 2)),
      .op (some 19) (.lenT (.t 18)),
      .op (some 20) (.bin .gtr (.t 19) (.k (.int .i64 1048576)))])
   (.keep [1, 2, 3, 20] (.cond (.t 20)
    (.seq (.ops [.op (some 6) (.mov (.k (.bool true)))])
     (.keep [6] (.ret)))
    (.skip))))
  (.keep [1, 2, 3] (.seq (.ops [.op (some 7) (.mov (.k (.int .i64 1048576)))])
  (.keep [1, 2, 3, 7] (.seq (.ops [.op (some 21) (.loadN 4 (.t 3)),
     .op (some 22) (.mov (.t 7)),
     .call (some 23) 30 [.t 21, .t 22],
     .op (some 7) (.mov (.t 23))])
  (.keep [1, 2, 3, 7] (.seq (.seq (.ops [.op (some 24) (.mov (.t 7)),
      .op (some 25) (.bin .lss (.t 24) (.k (.int .i64 0)))])
   (.keep [1, 2, 3, 25] (.cond (.t 25)
    (.seq (.ops [.op (some 6) (.mov (.k (.bool true)))])
     (.keep [6] (.ret)))
    (.skip))))
  (.keep [1, 2, 3] (.seq (.ops [.op (some 27) (.loadN 4 (.t 3)),
     .call (some 28) 32 [.t 27],
     .op (some 29) (.mov (.t 1)),
     .op (some 30) (.mov (.t 2)),
     .call (some 31) 39 [.t 28, .t 29, .t 30],
     .op (some 26) (.mov (.t 31)),
     .op (some 32) (.ext (.t 26) 0),
     .op (some 33) (.ext (.t 26) 1),
     .op (some 8) (.alloc [.nils 1, .nils 2, .bool false, .nils 1]),
     .op none (.store 4 (.t 8) (.t 32)),
     .op (some 9) (.mov (.t 33))])
  (.keep [1, 2, 3, 8, 9] (.seq (.ops [.op (some 34) (.loadN 4 (.t 3)),
     .call (some 35) 32 [.t 34],
     .op (some 10) (.alloc [.nils 1, .nils 2, .bool false, .nils 1]),
     .op none (.store 4 (.t 10) (.t 35))])
  (.keep [1, 2, 3, 8, 9, 10] (.seq (.ops [.op (some 37) (.loadN 4 (.t 10)),
     .op (some 38) (.mov (.t 1)),
     .op (some 39) (.mov (.t 2)),
     .call (some 40) 40 [.t 37, .t 38, .t 39],
     .op (some 36) (.mov (.t 40)),
     .op (some 41) (.ext (.t 36) 0),
     .op (some 42) (.ext (.t 36) 1),
     .op (some 11) (.alloc [.nils 1, .nils 2, .bool false, .nils 1]),
     .op none (.store 4 (.t 11) (.t 41)),
     .op (some 12) (.mov (.t 42))])
  (.keep [1, 2, 3, 8, 9, 10, 11, 12] (.seq (.seq (.ops [.op (some 43) (.loadN 4 (.t 11)),
      .op (some 44) (.loadN 4 (.t 8)),
      .call (some 45) 34 [.t 43, .t 44],
      .op (some 46) (.not (.t 45)),
      .op (some 47) (.mov (.t 46)),
      .andor 51 false 4 47 [.op (some 48) (.mov (.t 12)), .op (some 49) (.mov (.t 9)), .op (some 50) (.bin .neq (.t 48) (.t 49))] (.t 50)])
   (.keep [1, 2, 3, 8, 9, 10, 11, 12, 51] (.cond (.t 51)
    (.seq (.ops [.op (some 6) (.mov (.k (.bool false)))])
     (.keep [6] (.ret)))
    (.skip))))
  (.keep [1, 2, 3, 8, 9, 10, 11, 12] (.seq (.seq (.drawE [[], [], [1], [0, 1, 2], [0, 1, 2, 3]] [.op (some 52) (.loadN 4 (.t 10)),
      .op (some 53) (.loadN 4 (.t 3)),
      .call (some 54) 32 [.t 53]]
     [.call (some 55) 34 [.t 52, .t 54],
      .op (some 56) (.not (.t 55))])
   (.keep [1, 2, 3, 8, 9, 10, 11, 12, 56] (.cond (.t 56)
    (.seq (.ops [.op (some 6) (.mov (.k (.bool false)))])
     (.keep [6] (.ret)))
    (.skip))))
  (.keep [1, 2, 3, 8, 9, 10, 11, 12] (.seq (.ops [.op (some 13) (.mov (.k (.int .i64 1)))])
  (.keep [1, 2, 3, 8, 9, 10, 11, 12, 13] (.seq (.ops [.op (some 57) (.loadN 4 (.t 10)),
     .op (some 58) (.mov (.t 13)),
     .call (some 59) 36 [.t 57, .t 58],
     .op (some 13) (.mov (.t 59))])
  (.keep [1, 2, 3, 8, 9, 11, 12, 13] (.seq (.seq (.ops [.op (some 60) (.mov (.t 13)),
      .op (some 61) (.bin .lss (.t 60) (.k (.int .i64 0))),
      .op (some 62) (.mov (.t 61)),
      .andor 67 false 2 62 [.op (some 63) (.loadN 4 (.t 11)), .op (some 64) (.loadN 4 (.t 8)), .call (some 65) 34 [.t 63, .t 64], .op (some 66) (.not (.t 65))] (.t 66),
      .op (some 68) (.mov (.t 67)),
      .andor 72 false 8 68 [.op (some 69) (.mov (.t 12)), .op (some 70) (.mov (.t 9)), .op (some 71) (.bin .neq (.t 69) (.t 70))] (.t 71)])
   (.keep [1, 2, 3, 8, 9, 11, 72] (.cond (.t 72)
    (.seq (.ops [.op (some 6) (.mov (.k (.bool false)))])
     (.keep [6] (.ret)))
    (.skip))))
  (.keep [1, 2, 3, 8, 9, 11] (.seq (.ops [.op (some 14) (.mov (.k (.int .i64 1)))])
  (.keep [1, 2, 3, 8, 9, 11, 14] (.seq (.ops [.op (some 73) (.loadN 4 (.t 11)),
     .op (some 74) (.mov (.t 14)),
     .call (some 75) 36 [.t 73, .t 74],
     .op (some 14) (.mov (.t 75))])
  (.keep [1, 2, 3, 8, 9, 11, 14] (.seq (.ops [.op (some 15) (.mov (.k (.int .i64 1)))])
  (.keep [1, 2, 3, 8, 9, 11, 14, 15] (.seq (.ops [.op (some 76) (.loadN 4 (.t 11)),
     .op (some 77) (.mov (.t 15)),
     .call (some 78) 38 [.t 76, .t 77],
     .op (some 15) (.mov (.t 78))])
  (.keep [1, 2, 3, 8, 9, 11, 14, 15] (.seq (.seq (.ops [.op (some 79) (.mov (.t 15)),
      .op (some 80) (.bin .lss (.t 79) (.k (.int .i64 0)))])
   (.keep [1, 2, 3, 8, 9, 11, 14, 15, 80] (.cond (.t 80)
    (.seq (.ops [.op (some 6) (.mov (.k (.bool false)))])
     (.keep [6] (.ret)))
    (.skip))))
  (.keep [1, 2, 3, 8, 9, 11, 14, 15] (.seq (.seq (.ops [.op (some 81) (.mov (.t 15)),
      .op (some 82) (.mov (.t 14)),
      .op (some 83) (.bin .neq (.t 81) (.t 82))])
   (.keep [1, 2, 3, 8, 9, 11, 14, 83] (.cond (.t 83)
    (.seq (.ops [.op (some 6) (.mov (.k (.bool false)))])
     (.keep [6] (.ret)))
    (.skip))))
  (.keep [1, 2, 3, 8, 9, 11, 14] (.seq (.ops [.op (some 85) (.loadN 4 (.t 3)),
     .call (some 86) 32 [.t 85],
     .op (some 87) (.mov (.t 1)),
     .op (some 88) (.mov (.t 2)),
     .call (some 89) 40 [.t 86, .t 87, .t 88],
     .op (some 84) (.mov (.t 89)),
     .op (some 90) (.ext (.t 84) 0),
     .op (some 91) (.ext (.t 84) 1),
     .op (some 16) (.alloc [.nils 1, .nils 2, .bool false, .nils 1]),
     .op none (.store 4 (.t 16) (.t 90)),
     .op (some 17) (.mov (.t 91))])
  (.keep [8, 9, 11, 14, 16, 17] (.seq (.seq (.ops [.op (some 92) (.loadN 4 (.t 16)),
      .op (some 93) (.loadN 4 (.t 8)),
      .call (some 94) 34 [.t 92, .t 93],
      .op (some 95) (.not (.t 94)),
      .op (some 96) (.mov (.t 95)),
      .andor 100 false 4 96 [.op (some 97) (.mov (.t 17)), .op (some 98) (.mov (.t 9)), .op (some 99) (.bin .neq (.t 97) (.t 98))] (.t 99)])
   (.keep [11, 14, 100] (.cond (.t 100)
    (.seq (.ops [.op (some 6) (.mov (.k (.bool false)))])
     (.keep [6] (.ret)))
    (.skip))))
  (.keep [11, 14] (.seq (.ops [.op (some 15) (.mov (.k (.int .i64 1)))])
  (.keep [11, 14, 15] (.seq (.ops [.op (some 101) (.loadN 4 (.t 11)),
     .op (some 102) (.mov (.t 15)),
     .call (some 103) 38 [.t 101, .t 102],
     .op (some 15) (.mov (.t 103))])
  (.keep [14, 15] (.seq (.seq (.ops [.op (some 104) (.mov (.t 15)),
      .op (some 105) (.bin .lss (.t 104) (.k (.int .i64 0)))])
   (.keep [14, 15, 105] (.cond (.t 105)
    (.seq (.ops [.op (some 6) (.mov (.k (.bool false)))])
     (.keep [6] (.ret)))
    (.skip))))
  (.keep [14, 15] (.seq (.seq (.ops [.op (some 106) (.mov (.t 15)),
      .op (some 107) (.mov (.t 14)),
      .op (some 108) (.bin .neq (.t 106) (.t 107))])
   (.keep [108] (.cond (.t 108)
    (.seq (.ops [.op (some 6) (.mov (.k (.bool false)))])
     (.keep [6] (.ret)))
    (.skip))))
  (.keep [] (.seq (.ops [.op (some 6) (.mov (.k (.bool true)))])
  (.keep [6] (.ret))))))))))))))))))))))))))))))))))))))))))))))))))))
theorem k_c_FnExactDiskWrite_fits : fitsF Try.prog 6 ⟨109, k_c_FnExactDiskWrite, [.t 6]⟩ = true := by kernel_rfl
theorem c_FnExactDiskWrite {d : GDisk} {a : Int} {x : Str} (wd : d.wf) (wa : wfInt a) (wx : wfStr x) : Con Try.prog noMv 6 [d.av, int a, str x] [] (fun r h => r = bool true ∧ h = []) := by
  refine con_of2 k_c_FnExactDiskWrite_fits rfl fun C hP hmv => ?_
  unfold k_c_FnExactDiskWrite
  refine cx_seq ?_
  refine cx_ops ?_
  refine ax_e (e_box rfl rfl (by decide) rfl rfl rfl) ?_
  refine ax_q (q_mov rfl) ?_
  refine ax_nil ?_
  refine cx_keep rfl rfl ?_
  refine cx_seq ?_
  refine cx_seq ?_
  refine cx_ops ?_
  refine ax_q (q_mov rfl) ?_
  refine ax_q (q_lenT rfl) ?_
  refine ax_q (q_ibin rfl rfl rfl) ?_
  refine ax_nil ?_
  refine cx_keep rfl rfl ?_
  refine cx_cond rfl (fun h0 => ?_) (fun h0 => ?_)
  · have h0 := dT h0
    refine cx_seq ?_
    refine cx_ops ?_
    refine ax_q (q_mov rfl) ?_
    refine ax_nil ?_
    refine cx_keep rfl rfl ?_
    refine cx_ret (ret0 rfl rfl ?_)
    exact ⟨rfl, rfl⟩
  · have h0 := dF h0
    have hl_x : x.length ≤ 1048576 := by omega
    refine cx_skip ?_
    refine cx_keep rfl rfl ?_
    refine cx_seq ?_
    refine cx_ops ?_
    refine ax_q (q_mov rfl) ?_
    refine ax_nil ?_
    refine cx_keep rfl rfl ?_
    refine cx_seq ?_
    refine cx_ops ?_
    first | refine ax_q (q_ldN rfl rfl rfl) ?_ | refine ax_q (q_loadN_ip rfl (Nat.le_refl _)) ?_ | refine ax_q (q_loadN_ip rfl (by decide)) ?_ | refine ax_q (q_loadN_rptr rfl rfl (by assumption) (by decide)) ?_ | refine ax_q (q_loadN_rptr rfl rfl (mapAt (by first | assumption | omega)) (by decide)) ?_
    refine ax_q (q_mov rfl) ?_
    have sp1 := szF_spec (1048576) (GDisk.sz d)
    refine ax_call rfl (vc_pure0 (c_szDisk (by omega) (by omega) wd) hP rfl rfl ?_)
    refine ax_q (q_mov rfl) ?_
    refine ax_nil ?_
    refine cx_keep rfl rfl ?_
    refine cx_seq ?_
    refine cx_seq ?_
    refine cx_ops ?_
    refine ax_q (q_mov rfl) ?_
    refine ax_q (q_ibin rfl rfl rfl) ?_
    refine ax_nil ?_
    refine cx_keep rfl rfl ?_
    refine cx_cond rfl (fun h1 => ?_) (fun h1 => ?_)
    · have h1 := dT h1
      refine cx_seq ?_
      refine cx_ops ?_
      refine ax_q (q_mov rfl) ?_
      refine ax_nil ?_
      refine cx_keep rfl rfl ?_
      refine cx_ret (ret0 rfl rfl ?_)
      exact ⟨rfl, rfl⟩
    · have h1 := dF h1
      have ⟨ld0, ld1, ld2⟩ : d.Sectors.length ≤ 1048576 ∧ d.Cache.length ≤ 1048576 ∧ d.Keep.length ≤ 1048576 := by
        have : GDisk.sz d = szL List.length d.Sectors + szL GPending.sz d.Cache + szL (fun _ => 0) d.Keep := rfl
        have := @szL_len _ List.length (d.Sectors)
        have := @szL_len _ GPending.sz (d.Cache)
        have := @szL_len _ (fun _ => 0) (d.Keep)
        omega
      have hz := @writeF_len d a x
      refine cx_skip ?_
      refine cx_keep rfl rfl ?_
      refine cx_seq ?_
      refine cx_ops ?_
      first | refine ax_q (q_ldN rfl rfl rfl) ?_ | refine ax_q (q_loadN_ip rfl (Nat.le_refl _)) ?_ | refine ax_q (q_loadN_ip rfl (by decide)) ?_ | refine ax_q (q_loadN_rptr rfl rfl (by assumption) (by decide)) ?_ | refine ax_q (q_loadN_rptr rfl rfl (mapAt (by first | assumption | omega)) (by decide)) ?_
      first | refine ax_call rfl (vc_pure (c_toDisk  ?_ ?_ ?_) hP rfl ?_) | refine ax_call rfl (vc_lend (c_toDisk  ?_ ?_ ?_) hP (by repeat (first | exact lal_id _ rfl | exact LAL.nil | refine LAL.cons ?_ ?_ | exact la_id _ rfl | exact LA.lend (lend_whole rfl (by first | (simp; done) | (rw [List.length_map]; rfl))) | refine LA.agg ?_ | refine LA.fn ?_ | refine LA.lend ?_ | exact Lend.d _ | exact Lend.zs _ | exact lend_whole rfl (by first | (simp; done) | (rw [List.length_map]; rfl)) | refine Lend.ptr rfl ?_ | refine Lend.fn ?_ | exact LendL.nil | refine LendL.cons ?_ ?_)) ?_)
      · first | assumption | omega | (simp; done) | (simp; omega)
      · first | assumption | omega | (simp; done) | (simp; omega)
      · first | assumption | omega | (simp; done) | (simp; omega)
      rintro r h ⟨rfl, rfl⟩
      refine ⟨fun i => 28 + 200 * i, [0, 1, 2], ⟨rfl, rfl, rfl, rfl, rfl, (by first | exact (fun h => absurd h Bool.false_ne_true) | exact (fun _ => ⟨rfl, (noisl_of (by repeat (first | exact trivial | refine ⟨noisl_map (fun _ => rfl), ?_⟩ | refine ⟨?_, ?_⟩)))⟩))⟩, ?_⟩
      skip
      refine ax_q (q_mov rfl) ?_
      refine ax_q (q_mov rfl) ?_
      first | refine ax_call rfl (vc_pure (c_sDiskWrite  ?_ ?_ ?_ ?_) hP rfl ?_) | refine ax_call rfl (vc_lend (c_sDiskWrite  ?_ ?_ ?_ ?_) hP (by repeat (first | exact lal_id _ rfl | exact LAL.nil | refine LAL.cons ?_ ?_ | exact la_id _ rfl | exact LA.lend (lend_whole rfl (by first | (simp; done) | (rw [List.length_map]; rfl))) | refine LA.agg ?_ | refine LA.fn ?_ | refine LA.lend ?_ | exact Lend.d _ | exact Lend.zs _ | exact lend_whole rfl (by first | (simp; done) | (rw [List.length_map]; rfl)) | refine Lend.ptr rfl ?_ | refine Lend.fn ?_ | exact LendL.nil | refine LendL.cons ?_ ?_)) ?_)
      · first | assumption | omega | (simp; done) | (simp; omega)
      · first | assumption | omega | (simp; done) | (simp; omega)
      · first | assumption | omega | (simp; done) | (simp; omega)
      · first | assumption | omega | (simp; done) | (simp; omega)
      rintro r h ⟨rfl, rfl⟩
      refine ⟨fun i => 31 + 200 * i, [0, 1, 2], ⟨rfl, rfl, rfl, rfl, rfl, (by first | exact (fun h => absurd h Bool.false_ne_true) | exact (fun _ => ⟨rfl, (noisl_of (by repeat (first | exact trivial | refine ⟨noisl_map (fun _ => rfl), ?_⟩ | refine ⟨?_, ?_⟩)))⟩))⟩, ?_⟩
      skip
      refine ax_q (q_mov rfl) ?_
      refine ax_q (q_ext rfl rfl) ?_
      refine ax_q (q_ext rfl rfl) ?_
      refine ax_e (e_alloc (by decide) rfl rfl) ?_
      refine ax_e (e_st rfl rfl rfl rfl rfl rfl rfl) ?_
      refine ax_q (q_mov rfl) ?_
      refine ax_nil ?_
      refine cx_keep rfl rfl ?_
      refine cx_seq ?_
      refine cx_ops ?_
      first | refine ax_q (q_ldN rfl rfl rfl) ?_ | refine ax_q (q_loadN_ip rfl (Nat.le_refl _)) ?_ | refine ax_q (q_loadN_ip rfl (by decide)) ?_ | refine ax_q (q_loadN_rptr rfl rfl (by assumption) (by decide)) ?_ | refine ax_q (q_loadN_rptr rfl rfl (mapAt (by first | assumption | omega)) (by decide)) ?_
      first | refine ax_call rfl (vc_pure (c_toDisk  ?_ ?_ ?_) hP rfl ?_) | refine ax_call rfl (vc_lend (c_toDisk  ?_ ?_ ?_) hP (by repeat (first | exact lal_id _ rfl | exact LAL.nil | refine LAL.cons ?_ ?_ | exact la_id _ rfl | exact LA.lend (lend_whole rfl (by first | (simp; done) | (rw [List.length_map]; rfl))) | refine LA.agg ?_ | refine LA.fn ?_ | refine LA.lend ?_ | exact Lend.d _ | exact Lend.zs _ | exact lend_whole rfl (by first | (simp; done) | (rw [List.length_map]; rfl)) | refine Lend.ptr rfl ?_ | refine Lend.fn ?_ | exact LendL.nil | refine LendL.cons ?_ ?_)) ?_)
      · first | assumption | omega | (simp; done) | (simp; omega)
      · first | assumption | omega | (simp; done) | (simp; omega)
      · first | assumption | omega | (simp; done) | (simp; omega)
      rintro r h ⟨rfl, rfl⟩
      refine ⟨fun i => 35 + 200 * i, [0, 1, 2], ⟨rfl, rfl, rfl, rfl, rfl, (by first | exact (fun h => absurd h Bool.false_ne_true) | exact (fun _ => ⟨rfl, (noisl_of (by repeat (first | exact trivial | refine ⟨noisl_map (fun _ => rfl), ?_⟩ | refine ⟨?_, ?_⟩)))⟩))⟩, ?_⟩
      skip
      refine ax_e (e_alloc (by decide) rfl rfl) ?_
      refine ax_e (e_st rfl rfl rfl rfl rfl rfl rfl) ?_
      refine ax_nil ?_
      refine cx_keep rfl rfl ?_
      refine cx_seq ?_
      refine cx_ops ?_
      first | refine ax_q (q_ldN rfl rfl rfl) ?_ | refine ax_q (q_loadN_ip rfl (Nat.le_refl _)) ?_ | refine ax_q (q_loadN_ip rfl (by decide)) ?_ | refine ax_q (q_loadN_rptr rfl rfl (by assumption) (by decide)) ?_ | refine ax_q (q_loadN_rptr rfl rfl (mapAt (by first | assumption | omega)) (by decide)) ?_
      refine ax_q (q_mov rfl) ?_
      refine ax_q (q_mov rfl) ?_
      first | refine ax_call rfl (vc_pure (c_DiskWrite  ?_ ?_ ?_ ?_) hP rfl ?_) | refine ax_call rfl (vc_lend (c_DiskWrite  ?_ ?_ ?_ ?_) hP (by repeat (first | exact lal_id _ rfl | exact LAL.nil | refine LAL.cons ?_ ?_ | exact la_id _ rfl | exact LA.lend (lend_whole rfl (by first | (simp; done) | (rw [List.length_map]; rfl))) | refine LA.agg ?_ | refine LA.fn ?_ | refine LA.lend ?_ | exact Lend.d _ | exact Lend.zs _ | exact lend_whole rfl (by first | (simp; done) | (rw [List.length_map]; rfl)) | refine Lend.ptr rfl ?_ | refine Lend.fn ?_ | exact LendL.nil | refine LendL.cons ?_ ?_)) ?_)
      · first | assumption | omega | (simp; done) | (simp; omega)
      · first | assumption | omega | (simp; done) | (simp; omega)
      · first | assumption | omega | (simp; done) | (simp; omega)
      · first | assumption | omega | (simp; done) | (simp; omega)
      rintro r h ⟨rfl, rfl⟩
      refine ⟨fun i => 40 + 200 * i, [0, 1, 2], ⟨rfl, rfl, rfl, rfl, rfl, (by first | exact (fun h => absurd h Bool.false_ne_true) | exact (fun _ => ⟨rfl, (noisl_of (by repeat (first | exact trivial | refine ⟨noisl_map (fun _ => rfl), ?_⟩ | refine ⟨?_, ?_⟩)))⟩))⟩, ?_⟩
      skip
      refine ax_q (q_mov rfl) ?_
      refine ax_q (q_ext rfl rfl) ?_
      refine ax_q (q_ext rfl rfl) ?_
      refine ax_e (e_alloc (by decide) rfl rfl) ?_
      refine ax_e (e_st rfl rfl rfl rfl rfl rfl rfl) ?_
      refine ax_q (q_mov rfl) ?_
      refine ax_nil ?_
      refine cx_keep rfl rfl ?_
      refine cx_seq ?_
      refine cx_seq ?_
      refine cx_ops ?_
      first | refine ax_q (q_ldN rfl rfl rfl) ?_ | refine ax_q (q_loadN_ip rfl (Nat.le_refl _)) ?_ | refine ax_q (q_loadN_ip rfl (by decide)) ?_ | refine ax_q (q_loadN_rptr rfl rfl (by assumption) (by decide)) ?_ | refine ax_q (q_loadN_rptr rfl rfl (mapAt (by first | assumption | omega)) (by decide)) ?_
      first | refine ax_q (q_ldN rfl rfl rfl) ?_ | refine ax_q (q_loadN_ip rfl (Nat.le_refl _)) ?_ | refine ax_q (q_loadN_ip rfl (by decide)) ?_ | refine ax_q (q_loadN_rptr rfl rfl (by assumption) (by decide)) ?_ | refine ax_q (q_loadN_rptr rfl rfl (mapAt (by first | assumption | omega)) (by decide)) ?_
      first | refine ax_call rfl (vc_pure0 (c_eqDisk  ?_ ?_ ?_) hP rfl rfl ?_) | refine ax_call rfl (vc_lend0 (c_eqDisk  ?_ ?_ ?_) hP (by repeat (first | exact lal_id _ rfl | exact LAL.nil | refine LAL.cons ?_ ?_ | exact la_id _ rfl | exact LA.lend (lend_whole rfl (by first | (simp; done) | (rw [List.length_map]; rfl))) | refine LA.agg ?_ | refine LA.fn ?_ | refine LA.lend ?_ | exact Lend.d _ | exact Lend.zs _ | exact lend_whole rfl (by first | (simp; done) | (rw [List.length_map]; rfl)) | refine Lend.ptr rfl ?_ | refine Lend.fn ?_ | exact LendL.nil | refine LendL.cons ?_ ?_)) rfl rfl ?_)
      · first | assumption | omega | (simp; done) | (simp; omega)
      · first | assumption | omega | (simp; done) | (simp; omega)
      · first | assumption | omega | (simp; done) | (simp; omega)
      refine ax_q (q_not rfl) ?_
      refine ax_q (q_mov rfl) ?_
      apply ax_or rfl rfl
      · intro g
        have g := bF g
        refine ax_q (q_mov rfl) ?_
        refine ax_q (q_mov rfl) ?_
        refine ax_q (q_ibin rfl rfl rfl) ?_
        exact ax_nil ⟨rfl, by repeat (first | exact trivial | refine ⟨rfl, ?_⟩ | refine ⟨?_, ?_⟩)⟩
      refine ax_nil ?_
      refine cx_keep rfl rfl ?_
      refine cx_cond rfl (fun h2 => ?_) (fun h2 => ?_)
      · have h2 := (fun h => (or_T h).imp bT nT) h2
        first | exact absurd rfl h2 | (exfalso; omega) | exact absurd h2 (by simp [eqb_rfl] <;> omega)
      · have h2 := (fun h => And.intro (bF (or_F h).1) (nF (or_F h).2)) h2
        refine cx_skip ?_
        refine cx_keep rfl rfl ?_
        refine cx_seq ?_
        refine cx_seq ?_
        refine cx_drawL 0 52 (fun _ => false) (fun _ => true) [] ([]) [[10], [3], [53]] [[], [], []] rfl ?_
        first | refine ⟨⟨52, _, []⟩, .inl ⟨rfl, rfl, rfl, locl_of (loc_q (q_ldN rfl rfl rfl))⟩, ?_⟩ | refine ⟨⟨52, _, []⟩, .inl ⟨rfl, rfl, rfl, locl_of (loc_q (q_loadN_ip rfl (Nat.le_refl _)))⟩, ?_⟩ | refine ⟨⟨52, _, []⟩, .inl ⟨rfl, rfl, rfl, locl_of (loc_q (q_loadN_ip rfl (by decide)))⟩, ?_⟩ | refine ⟨⟨52, _, []⟩, .inl ⟨rfl, rfl, rfl, locl_of (loc_q (q_loadN_rptr rfl rfl (by assumption) (by decide)))⟩, ?_⟩ | refine ⟨⟨52, _, []⟩, .inl ⟨rfl, rfl, rfl, locl_of (loc_q (q_loadN_rptr rfl rfl (mapAt (by first | assumption | omega)) (by decide)))⟩, ?_⟩
        first | refine ⟨_, .inr ⟨rfl, _, rfl, .inr ⟨rfl, rfl, .inr rfl, rfl, rfl⟩, loc_q (q_ldN rfl rfl rfl)⟩, ?_⟩ | refine ⟨_, .inr ⟨rfl, _, rfl, .inr ⟨rfl, rfl, .inr rfl, rfl, rfl⟩, loc_q (q_loadN_ip rfl (Nat.le_refl _))⟩, ?_⟩ | refine ⟨_, .inr ⟨rfl, _, rfl, .inr ⟨rfl, rfl, .inr rfl, rfl, rfl⟩, loc_q (q_loadN_ip rfl (by decide))⟩, ?_⟩ | refine ⟨_, .inr ⟨rfl, _, rfl, .inr ⟨rfl, rfl, .inr rfl, rfl, rfl⟩, loc_q (q_loadN_rptr rfl rfl (by assumption) (by decide))⟩, ?_⟩ | refine ⟨_, .inr ⟨rfl, _, rfl, .inr ⟨rfl, rfl, .inr rfl, rfl, rfl⟩, loc_q (q_loadN_rptr rfl rfl (mapAt (by first | assumption | omega)) (by decide))⟩, ?_⟩
        first | refine ⟨_, .inr ⟨rfl, _, rfl, .inr ⟨rfl, rfl, .inr rfl, rfl, rfl⟩, loc_call (fun i => 54 + 200 * i) false rfl (c_toDisk  (by first | assumption | omega | (simp; done) | (simp; omega)) (by first | assumption | omega | (simp; done) | (simp; omega)) (by first | assumption | omega | (simp; done) | (simp; omega))) hP (.inr ⟨rfl, rfl, rfl⟩) rfl rfl (fun h => by cases h)⟩, ?_⟩ | refine ⟨_, .inr ⟨rfl, _, rfl, .inr ⟨rfl, rfl, .inr rfl, rfl, rfl⟩, loc_call (fun i => 54 + 200 * i) true rfl (c_toDisk  (by first | assumption | omega | (simp; done) | (simp; omega)) (by first | assumption | omega | (simp; done) | (simp; omega)) (by first | assumption | omega | (simp; done) | (simp; omega))) hP (.inl ⟨rfl, (by repeat (first | exact lal_id _ rfl | exact LAL.nil | refine LAL.cons ?_ ?_ | exact la_id _ rfl | exact LA.lend (lend_whole rfl (by first | (simp; done) | (rw [List.length_map]; rfl))) | refine LA.agg ?_ | refine LA.fn ?_ | refine LA.lend ?_ | exact Lend.d _ | exact Lend.zs _ | exact lend_whole rfl (by first | (simp; done) | (rw [List.length_map]; rfl)) | refine Lend.ptr rfl ?_ | refine Lend.fn ?_ | exact LendL.nil | refine LendL.cons ?_ ?_))⟩) rfl rfl (fun _ => ⟨rfl, noisl_of (by repeat (first | exact trivial | refine ⟨noisl_map (fun _ => rfl), ?_⟩ | refine ⟨?_, ?_⟩))⟩)⟩, ?_⟩
        refine ⟨rfl, ?_⟩
        first | refine ax_call rfl (vc_pure0 (c_eqDisk  ?_ ?_ ?_) hP rfl rfl ?_) | refine ax_call rfl (vc_lend0 (c_eqDisk  ?_ ?_ ?_) hP (by repeat (first | exact lal_id _ rfl | exact LAL.nil | refine LAL.cons ?_ ?_ | exact la_id _ rfl | exact LA.lend (lend_whole rfl (by first | (simp; done) | (rw [List.length_map]; rfl))) | refine LA.agg ?_ | refine LA.fn ?_ | refine LA.lend ?_ | exact Lend.d _ | exact Lend.zs _ | exact lend_whole rfl (by first | (simp; done) | (rw [List.length_map]; rfl)) | refine Lend.ptr rfl ?_ | refine Lend.fn ?_ | exact LendL.nil | refine LendL.cons ?_ ?_)) rfl rfl ?_)
        · first | assumption | omega | (simp; done) | (simp; omega)
        · first | assumption | omega | (simp; done) | (simp; omega)
        · first | assumption | omega | (simp; done) | (simp; omega)
        refine ax_q (q_not rfl) ?_
        refine ax_nil ?_
        refine cx_keep rfl rfl ?_
        refine cx_cond rfl (fun h3 => ?_) (fun h3 => ?_)
        · have h3 := bT h3
          first | exact absurd rfl h3 | (exfalso; omega) | exact absurd h3 (by simp [eqb_rfl] <;> omega)
        · have h3 := bF h3
          refine cx_skip ?_
          refine cx_keep rfl rfl ?_
          refine cx_seq ?_
          refine cx_ops ?_
          refine ax_q (q_mov rfl) ?_
          refine ax_nil ?_
          refine cx_keep rfl rfl ?_
          refine cx_seq ?_
          refine cx_ops ?_
          first | refine ax_q (q_ldN rfl rfl rfl) ?_ | refine ax_q (q_loadN_ip rfl (Nat.le_refl _)) ?_ | refine ax_q (q_loadN_ip rfl (by decide)) ?_ | refine ax_q (q_loadN_rptr rfl rfl (by assumption) (by decide)) ?_ | refine ax_q (q_loadN_rptr rfl rfl (mapAt (by first | assumption | omega)) (by decide)) ?_
          refine ax_q (q_mov rfl) ?_
          refine ax_call rfl (vcall_own (c_markDisk (a := d) (k0 := 1) (by show _ ≤ _; first | omega | (simp only [GDisk.mkN]; omega))) hP hmv false (fun e => bif Nat.beq e 1000 then 35 else bif Nat.beq e 1001 then 235 else 435) [1000, 1001, 1002] ⟨rfl, rfl, rfl, rfl, (by repeat (first | exact trivial | refine ⟨rfl, ?_⟩)), rfl, rfl, rfl⟩ (.pass rfl rfl (.pass rfl rfl .nil)) ?_)
          rintro r h ⟨rfl, rfl⟩
          refine ⟨fun e => bif Nat.beq e 1000 then 35 else bif Nat.beq e 1001 then 235 else 435, [], ⟨rfl, rfl, rfl, rfl, (mem3 rfl rfl rfl), rfl, rfl, fun h => by cases h⟩, ?_⟩
          refine ax_q (q_mov rfl) ?_
          refine ax_nil ?_
          refine cx_keep rfl rfl ?_
          refine cx_seq ?_
          refine cx_seq ?_
          refine cx_ops ?_
          refine ax_q (q_mov rfl) ?_
          refine ax_q (q_ibin rfl rfl rfl) ?_
          refine ax_q (q_mov rfl) ?_
          apply ax_or rfl rfl
          · intro g
            have g := dF g
            first | refine ax_q (q_ldN rfl rfl rfl) ?_ | refine ax_q (q_loadN_ip rfl (Nat.le_refl _)) ?_ | refine ax_q (q_loadN_ip rfl (by decide)) ?_ | refine ax_q (q_loadN_rptr rfl rfl (by assumption) (by decide)) ?_ | refine ax_q (q_loadN_rptr rfl rfl (mapAt (by first | assumption | omega)) (by decide)) ?_
            first | refine ax_q (q_ldN rfl rfl rfl) ?_ | refine ax_q (q_loadN_ip rfl (Nat.le_refl _)) ?_ | refine ax_q (q_loadN_ip rfl (by decide)) ?_ | refine ax_q (q_loadN_rptr rfl rfl (by assumption) (by decide)) ?_ | refine ax_q (q_loadN_rptr rfl rfl (mapAt (by first | assumption | omega)) (by decide)) ?_
            first | refine ax_call rfl (vc_pure0 (c_eqDisk  ?_ ?_ ?_) hP rfl rfl ?_) | refine ax_call rfl (vc_lend0 (c_eqDisk  ?_ ?_ ?_) hP (by repeat (first | exact lal_id _ rfl | exact LAL.nil | refine LAL.cons ?_ ?_ | exact la_id _ rfl | exact LA.lend (lend_whole rfl (by first | (simp; done) | (rw [List.length_map]; rfl))) | refine LA.agg ?_ | refine LA.fn ?_ | refine LA.lend ?_ | exact Lend.d _ | exact Lend.zs _ | exact lend_whole rfl (by first | (simp; done) | (rw [List.length_map]; rfl)) | refine Lend.ptr rfl ?_ | refine Lend.fn ?_ | exact LendL.nil | refine LendL.cons ?_ ?_)) rfl rfl ?_)
            · first | assumption | omega | (simp; done) | (simp; omega)
            · first | assumption | omega | (simp; done) | (simp; omega)
            · first | assumption | omega | (simp; done) | (simp; omega)
            refine ax_q (q_not rfl) ?_
            exact ax_nil ⟨rfl, by repeat (first | exact trivial | refine ⟨rfl, ?_⟩ | refine ⟨?_, ?_⟩)⟩
          refine ax_q (q_mov rfl) ?_
          apply ax_or rfl rfl
          · intro g
            have g := (fun h => And.intro (dF (or_F h).1) (bF (or_F h).2)) g
            refine ax_q (q_mov rfl) ?_
            refine ax_q (q_mov rfl) ?_
            refine ax_q (q_ibin rfl rfl rfl) ?_
            exact ax_nil ⟨rfl, by repeat (first | exact trivial | refine ⟨rfl, ?_⟩ | refine ⟨?_, ?_⟩)⟩
          refine ax_nil ?_
          refine cx_keep rfl rfl ?_
          refine cx_cond rfl (fun h4 => ?_) (fun h4 => ?_)
          · have h4 := (fun h => (or_T h).imp (fun h => (or_T h).imp dT bT) nT) h4
            first | exact absurd rfl h4 | (exfalso; omega) | exact absurd h4 (by simp [eqb_rfl] <;> omega)
          · have h4 := (fun h => And.intro ((fun h => And.intro (dF (or_F h).1) (bF (or_F h).2)) (or_F h).1) (nF (or_F h).2)) h4
            refine cx_skip ?_
            refine cx_keep rfl rfl ?_
            refine cx_seq ?_
            refine cx_ops ?_
            refine ax_q (q_mov rfl) ?_
            refine ax_nil ?_
            refine cx_keep rfl rfl ?_
            refine cx_seq ?_
            refine cx_ops ?_
            first | refine ax_q (q_ldN rfl rfl rfl) ?_ | refine ax_q (q_loadN_ip rfl (Nat.le_refl _)) ?_ | refine ax_q (q_loadN_ip rfl (by decide)) ?_ | refine ax_q (q_loadN_rptr rfl rfl (by assumption) (by decide)) ?_ | refine ax_q (q_loadN_rptr rfl rfl (mapAt (by first | assumption | omega)) (by decide)) ?_
            refine ax_q (q_mov rfl) ?_
            refine ax_call rfl (vcall_own (c_markDisk (a := (writeF d a x).1) (k0 := 1) (by show _ ≤ _; first | omega | (simp only [GDisk.mkN]; omega))) hP hmv false (fun e => bif Nat.beq e 1000 then 40 else bif Nat.beq e 1001 then 240 else 440) [1000, 1001, 1002] ⟨rfl, rfl, rfl, rfl, (by repeat (first | exact trivial | refine ⟨rfl, ?_⟩)), rfl, rfl, rfl⟩ (.pass rfl rfl (.pass rfl rfl .nil)) ?_)
            rintro r h ⟨rfl, rfl⟩
            refine ⟨fun e => bif Nat.beq e 1000 then 40 else bif Nat.beq e 1001 then 240 else 440, [], ⟨rfl, rfl, rfl, rfl, (mem3 rfl rfl rfl), rfl, rfl, fun h => by cases h⟩, ?_⟩
            refine ax_q (q_mov rfl) ?_
            refine ax_nil ?_
            refine cx_keep rfl rfl ?_
            refine cx_seq ?_
            refine cx_ops ?_
            refine ax_q (q_mov rfl) ?_
            refine ax_nil ?_
            refine cx_keep rfl rfl ?_
            refine cx_seq ?_
            refine cx_ops ?_
            first | refine ax_q (q_ldN rfl rfl rfl) ?_ | refine ax_q (q_loadN_ip rfl (Nat.le_refl _)) ?_ | refine ax_q (q_loadN_ip rfl (by decide)) ?_ | refine ax_q (q_loadN_rptr rfl rfl (by assumption) (by decide)) ?_ | refine ax_q (q_loadN_rptr rfl rfl (mapAt (by first | assumption | omega)) (by decide)) ?_
            refine ax_q (q_mov rfl) ?_
            refine ax_call rfl (vc_lend0 (c_heldDisk (a := (writeF d a x).1) (k0 := 1) (by show _ ≤ _; first | omega | (simp only [GDisk.mkN]; omega))) hP (by repeat (first | exact lal_id _ rfl | exact LAL.nil | refine LAL.cons ?_ ?_ | exact la_id _ rfl | exact LA.lend (lend_whole rfl (by simp [GDisk.mkS, markL_len])) | refine LA.agg ?_ | refine LA.fn ?_ | refine LA.lend ?_ | exact Lend.d _ | exact Lend.zs _ | exact lend_whole rfl (by simp [GDisk.mkS, markL_len]) | refine Lend.ptr rfl ?_ | refine Lend.fn ?_ | exact LendL.nil | refine LendL.cons ?_ ?_)) rfl rfl ?_)
            refine ax_q (q_mov rfl) ?_
            refine ax_nil ?_
            refine cx_keep rfl rfl ?_
            refine cx_seq ?_
            refine cx_seq ?_
            refine cx_ops ?_
            refine ax_q (q_mov rfl) ?_
            refine ax_q (q_ibin rfl rfl rfl) ?_
            refine ax_nil ?_
            refine cx_keep rfl rfl ?_
            refine cx_cond rfl (fun h5 => ?_) (fun h5 => ?_)
            · have h5 := dT h5
              first | exact absurd rfl h5 | (exfalso; omega) | exact absurd h5 (by simp [eqb_rfl] <;> omega)
            · have h5 := dF h5
              refine cx_skip ?_
              refine cx_keep rfl rfl ?_
              refine cx_seq ?_
              refine cx_seq ?_
              refine cx_ops ?_
              refine ax_q (q_mov rfl) ?_
              refine ax_q (q_mov rfl) ?_
              refine ax_q (q_ibin rfl rfl rfl) ?_
              refine ax_nil ?_
              refine cx_keep rfl rfl ?_
              refine cx_cond rfl (fun h6 => ?_) (fun h6 => ?_)
              · have h6 := nT h6
                first | exact absurd rfl h6 | (exfalso; omega) | exact absurd h6 (by simp [eqb_rfl] <;> omega)
              · have h6 := nF h6
                refine cx_skip ?_
                refine cx_keep rfl rfl ?_
                refine cx_seq ?_
                refine cx_ops ?_
                first | refine ax_q (q_ldN rfl rfl rfl) ?_ | refine ax_q (q_loadN_ip rfl (Nat.le_refl _)) ?_ | refine ax_q (q_loadN_ip rfl (by decide)) ?_ | refine ax_q (q_loadN_rptr rfl rfl (by assumption) (by decide)) ?_ | refine ax_q (q_loadN_rptr rfl rfl (mapAt (by first | assumption | omega)) (by decide)) ?_
                first | refine ax_call rfl (vc_pure (c_toDisk  ?_ ?_ ?_) hP rfl ?_) | refine ax_call rfl (vc_lend (c_toDisk  ?_ ?_ ?_) hP (by repeat (first | exact lal_id _ rfl | exact LAL.nil | refine LAL.cons ?_ ?_ | exact la_id _ rfl | exact LA.lend (lend_whole rfl (by first | (simp; done) | (rw [List.length_map]; rfl))) | refine LA.agg ?_ | refine LA.fn ?_ | refine LA.lend ?_ | exact Lend.d _ | exact Lend.zs _ | exact lend_whole rfl (by first | (simp; done) | (rw [List.length_map]; rfl)) | refine Lend.ptr rfl ?_ | refine Lend.fn ?_ | exact LendL.nil | refine LendL.cons ?_ ?_)) ?_)
                · first | assumption | omega | (simp; done) | (simp; omega)
                · first | assumption | omega | (simp; done) | (simp; omega)
                · first | assumption | omega | (simp; done) | (simp; omega)
                rintro r h ⟨rfl, rfl⟩
                refine ⟨fun i => 86 + 200 * i, [0, 1, 2], ⟨rfl, rfl, rfl, rfl, rfl, (by first | exact (fun h => absurd h Bool.false_ne_true) | exact (fun _ => ⟨rfl, (noisl_of (by repeat (first | exact trivial | refine ⟨noisl_map (fun _ => rfl), ?_⟩ | refine ⟨?_, ?_⟩)))⟩))⟩, ?_⟩
                skip
                refine ax_q (q_mov rfl) ?_
                refine ax_q (q_mov rfl) ?_
                first | refine ax_call rfl (vc_pure (c_DiskWrite  ?_ ?_ ?_ ?_) hP rfl ?_) | refine ax_call rfl (vc_lend (c_DiskWrite  ?_ ?_ ?_ ?_) hP (by repeat (first | exact lal_id _ rfl | exact LAL.nil | refine LAL.cons ?_ ?_ | exact la_id _ rfl | exact LA.lend (lend_whole rfl (by first | (simp; done) | (rw [List.length_map]; rfl))) | refine LA.agg ?_ | refine LA.fn ?_ | refine LA.lend ?_ | exact Lend.d _ | exact Lend.zs _ | exact lend_whole rfl (by first | (simp; done) | (rw [List.length_map]; rfl)) | refine Lend.ptr rfl ?_ | refine Lend.fn ?_ | exact LendL.nil | refine LendL.cons ?_ ?_)) ?_)
                · first | assumption | omega | (simp; done) | (simp; omega)
                · first | assumption | omega | (simp; done) | (simp; omega)
                · first | assumption | omega | (simp; done) | (simp; omega)
                · first | assumption | omega | (simp; done) | (simp; omega)
                rintro r h ⟨rfl, rfl⟩
                refine ⟨fun i => 89 + 200 * i, [0, 1, 2], ⟨rfl, rfl, rfl, rfl, rfl, (by first | exact (fun h => absurd h Bool.false_ne_true) | exact (fun _ => ⟨rfl, (noisl_of (by repeat (first | exact trivial | refine ⟨noisl_map (fun _ => rfl), ?_⟩ | refine ⟨?_, ?_⟩)))⟩))⟩, ?_⟩
                skip
                refine ax_q (q_mov rfl) ?_
                refine ax_q (q_ext rfl rfl) ?_
                refine ax_q (q_ext rfl rfl) ?_
                refine ax_e (e_alloc (by decide) rfl rfl) ?_
                refine ax_e (e_st rfl rfl rfl rfl rfl rfl rfl) ?_
                refine ax_q (q_mov rfl) ?_
                refine ax_nil ?_
                refine cx_keep rfl rfl ?_
                refine cx_seq ?_
                refine cx_seq ?_
                refine cx_ops ?_
                first | refine ax_q (q_ldN rfl rfl rfl) ?_ | refine ax_q (q_loadN_ip rfl (Nat.le_refl _)) ?_ | refine ax_q (q_loadN_ip rfl (by decide)) ?_ | refine ax_q (q_loadN_rptr rfl rfl (by assumption) (by decide)) ?_ | refine ax_q (q_loadN_rptr rfl rfl (mapAt (by first | assumption | omega)) (by decide)) ?_
                first | refine ax_q (q_ldN rfl rfl rfl) ?_ | refine ax_q (q_loadN_ip rfl (Nat.le_refl _)) ?_ | refine ax_q (q_loadN_ip rfl (by decide)) ?_ | refine ax_q (q_loadN_rptr rfl rfl (by assumption) (by decide)) ?_ | refine ax_q (q_loadN_rptr rfl rfl (mapAt (by first | assumption | omega)) (by decide)) ?_
                first | refine ax_call rfl (vc_pure0 (c_eqDisk  ?_ ?_ ?_) hP rfl rfl ?_) | refine ax_call rfl (vc_lend0 (c_eqDisk  ?_ ?_ ?_) hP (by repeat (first | exact lal_id _ rfl | exact LAL.nil | refine LAL.cons ?_ ?_ | exact la_id _ rfl | exact LA.lend (lend_whole rfl (by first | (simp; done) | (rw [List.length_map]; rfl))) | refine LA.agg ?_ | refine LA.fn ?_ | refine LA.lend ?_ | exact Lend.d _ | exact Lend.zs _ | exact lend_whole rfl (by first | (simp; done) | (rw [List.length_map]; rfl)) | refine Lend.ptr rfl ?_ | refine Lend.fn ?_ | exact LendL.nil | refine LendL.cons ?_ ?_)) rfl rfl ?_)
                · first | assumption | omega | (simp; done) | (simp; omega)
                · first | assumption | omega | (simp; done) | (simp; omega)
                · first | assumption | omega | (simp; done) | (simp; omega)
                refine ax_q (q_not rfl) ?_
                refine ax_q (q_mov rfl) ?_
                apply ax_or rfl rfl
                · intro g
                  have g := bF g
                  refine ax_q (q_mov rfl) ?_
                  refine ax_q (q_mov rfl) ?_
                  refine ax_q (q_ibin rfl rfl rfl) ?_
                  exact ax_nil ⟨rfl, by repeat (first | exact trivial | refine ⟨rfl, ?_⟩ | refine ⟨?_, ?_⟩)⟩
                refine ax_nil ?_
                refine cx_keep rfl rfl ?_
                refine cx_cond rfl (fun h7 => ?_) (fun h7 => ?_)
                · have h7 := (fun h => (or_T h).imp bT nT) h7
                  first | exact absurd rfl h7 | (exfalso; omega) | exact absurd h7 (by simp [eqb_rfl] <;> omega)
                · have h7 := (fun h => And.intro (bF (or_F h).1) (nF (or_F h).2)) h7
                  refine cx_skip ?_
                  refine cx_keep rfl rfl ?_
                  refine cx_seq ?_
                  refine cx_ops ?_
                  refine ax_q (q_mov rfl) ?_
                  refine ax_nil ?_
                  refine cx_keep rfl rfl ?_
                  refine cx_seq ?_
                  refine cx_ops ?_
                  first | refine ax_q (q_ldN rfl rfl rfl) ?_ | refine ax_q (q_loadN_ip rfl (Nat.le_refl _)) ?_ | refine ax_q (q_loadN_ip rfl (by decide)) ?_ | refine ax_q (q_loadN_rptr rfl rfl (by assumption) (by decide)) ?_ | refine ax_q (q_loadN_rptr rfl rfl (mapAt (by first | assumption | omega)) (by decide)) ?_
                  refine ax_q (q_mov rfl) ?_
                  refine ax_call rfl (vc_lend0 (c_heldDisk (a := (writeF d a x).1) (k0 := 1) (by show _ ≤ _; first | omega | (simp only [GDisk.mkN]; omega))) hP (by repeat (first | exact lal_id _ rfl | exact LAL.nil | refine LAL.cons ?_ ?_ | exact la_id _ rfl | exact LA.lend (lend_whole rfl (by simp [GDisk.mkS, markL_len])) | refine LA.agg ?_ | refine LA.fn ?_ | refine LA.lend ?_ | exact Lend.d _ | exact Lend.zs _ | exact lend_whole rfl (by simp [GDisk.mkS, markL_len]) | refine Lend.ptr rfl ?_ | refine Lend.fn ?_ | exact LendL.nil | refine LendL.cons ?_ ?_)) rfl rfl ?_)
                  refine ax_q (q_mov rfl) ?_
                  refine ax_nil ?_
                  refine cx_keep rfl rfl ?_
                  refine cx_seq ?_
                  refine cx_seq ?_
                  refine cx_ops ?_
                  refine ax_q (q_mov rfl) ?_
                  refine ax_q (q_ibin rfl rfl rfl) ?_
                  refine ax_nil ?_
                  refine cx_keep rfl rfl ?_
                  refine cx_cond rfl (fun h8 => ?_) (fun h8 => ?_)
                  · have h8 := dT h8
                    first | exact absurd rfl h8 | (exfalso; omega) | exact absurd h8 (by simp [eqb_rfl] <;> omega)
                  · have h8 := dF h8
                    refine cx_skip ?_
                    refine cx_keep rfl rfl ?_
                    refine cx_seq ?_
                    refine cx_seq ?_
                    refine cx_ops ?_
                    refine ax_q (q_mov rfl) ?_
                    refine ax_q (q_mov rfl) ?_
                    refine ax_q (q_ibin rfl rfl rfl) ?_
                    refine ax_nil ?_
                    refine cx_keep rfl rfl ?_
                    refine cx_cond rfl (fun h9 => ?_) (fun h9 => ?_)
                    · have h9 := nT h9
                      first | exact absurd rfl h9 | (exfalso; omega) | exact absurd h9 (by simp [eqb_rfl] <;> omega)
                    · have h9 := nF h9
                      refine cx_skip ?_
                      refine cx_keep rfl rfl ?_
                      refine cx_seq ?_
                      refine cx_ops ?_
                      refine ax_q (q_mov rfl) ?_
                      refine ax_nil ?_
                      refine cx_keep rfl rfl ?_
                      refine cx_ret (ret0 rfl rfl ?_)
                      exact ⟨rfl, rfl⟩

theorem own : ownKnob Try.prog.godebug = none := by kernel_rfl
theorem laid : laidOutB Try.prog = true := by kernel_rfl
theorem closedTs : closedT Try.prog [3, 4, 9, 23, 25, 53, 55, 130] = true := by kernel_rfl
theorem con (rows : List (List D)) (h : HasAll Try.prog Try.f6.params.toList rows) : Con Try.prog noMv 6 (argsAV Try.prog Try.f6.params.toList rows) [] (fun r h => r = AM.bool true ∧ h = []) := by
  rw [Try.params6] at h ⊢
  obtain ⟨d0, r0, rfl, h0, h⟩ := h
  obtain ⟨d1, r1, rfl, h1, h⟩ := h
  obtain ⟨d2, r2, rfl, h2, h⟩ := h
  obtain rfl := h
  obtain ⟨a0, rfl, w0⟩ := (GDisk.dec Try.underlying55 rfl (dec_slice (sz := 1) Try.underlying23 (by kernel_rfl) (dec_str Try.underlying9)) (dec_slice (sz := 2) Try.underlying53 (by kernel_rfl) (GPending.dec Try.underlying130 rfl (dec_int Try.underlying3) (dec_str Try.underlying9))) (dec_bool Try.underlying4) (dec_slice (sz := 1) Try.underlying25 (by kernel_rfl) (dec_int Try.underlying3))) h0
  obtain ⟨a1, rfl, w1⟩ := (dec_int Try.underlying3) h1
  obtain ⟨a2, rfl, w2⟩ := (dec_str Try.underlying9) h2
  have e : argsAV Try.prog [55, 3, 9] [GDisk.row a0, intRow a1, strRow a2] = [a0.av, int a1, str a2] := by
    first | (simp only [argsAV, argAV, Try.underlying3, Try.underlying55, Try.underlying9]; done) | (simp only [argsAV, argAV, Try.underlying3, Try.underlying55, Try.underlying9]; rfl)
  show Con Try.prog noMv 6 (argsAV Try.prog [55, 3, 9] [GDisk.row a0, intRow a1, strRow a2]) [] _
  rw [e]
  exact c_FnExactDiskWrite w0 w1 w2
set_option maxRecDepth 100000 in
theorem lifted (os : Os) (started : os.Started) (H : Type) (enc : TypeId × Value → H) :
    ReturnsInHanded {} Try.checked os 6 .any (Rows.fnExactDiskWriteSpec.pre6 enc Try.prog Try.f6 Rows.fnExactDiskWriteRow.domain false) (Rows.fnExactDiskWriteSpec.post enc Try.prog Try.f6 false true false false) := by
  refine returnsInHanded_of_change (C := Try.checked) own started (by kernel_rfl) Try.func6
    (ChangeSpec.witness6 (enc := enc) (C := Try.checked) false ⟨#[], #[.agg #[.slice none 0 0, .slice none 0 0, .bool false, .slice none 0 0], .int .i64 0, .string ⟨#[]⟩], []⟩ 8 (by kernel_rfl) (by kernel_rfl) (by kernel_rfl) (by kernel_rfl)) ?_
  intro W base args ds gs before hval hW hcnd _
  refine law_contract closedTs laid (by kernel_rfl) rfl rfl Try.underlying4 con (fun hl => ?_) hval hW
  match ds, hl with
  | [x0, x1, x2], _ => rfl
theorem over : Rows.fnExactDiskWriteRow.holds Try.pinned (OpenSpec.ofChange Rows.fnExactDiskWriteSpec) :=
  OpenClaim.holds_of_wide 6 Try.f6 rfl rfl rfl rfl rfl rfl rfl ⟨rfl, rfl, rfl, rfl, rfl⟩ rfl rfl rfl rfl rfl (by kernel_rfl) Try.func6 (by kernel_rfl)
    (of_decide_eq_true (by kernel_rfl)) (by unfold Func.isWrapper; first | (rw [if_pos (by decide +kernel)]; kernel_rfl) | (rw [if_neg (by decide +kernel)]; exact ⟨rfl, rfl⟩))
    (fun os started H enc _ => lifted os started H enc)
theorem proved : Rows.FnExactDiskWriteSaid := over
end fnExactDiskWrite
end Go.Proofs.Ytioeeemlghkekaa
#print axioms Go.Proofs.Ytioeeemlghkekaa.fnExactDiskWrite.proved
