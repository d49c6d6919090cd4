/- The law FnExactTakeLock of the given program returns true for all arguments, and its arguments read behind the call as they read before: the statement FnExactTakeLockSaid, with no condition. -/
import Derived.Test.YtljbgclkdfeegaaW1
import Derived.Test.YtljbgclkdfeegaaRows
namespace Go.Proofs.Ytljbgclkdfeegaa
open Go Go.AM Go.ChangeShapes Go.RowKit
set_option linter.unusedVariables false
namespace fnExactTakeLock
set_option maxRecDepth 10000
/- loop.example/g00332/laws.FnExactTakeLock -/
def k_c_FnExactTakeLock : XCode :=
  .seq (.ops [.op (some 5) (.box (.t 0)),
     .op (some 10) (.mov (.k (.bool false)))])
  (.keep [1, 2, 3, 4, 5] (.seq (.ops [.op (some 11) (.mov (.k (.int .i64 1048576)))])
  (.keep [1, 2, 3, 4, 5, 11] (.seq (.ops [.op (some 22) (.loadN 2 (.t 5)),
     .op (some 23) (.mov (.t 11)),
     .call (some 24) 14 [.t 22, .t 23],
     .op (some 11) (.mov (.t 24))])
  (.keep [1, 2, 3, 4, 5, 11] (.seq (.seq (.ops [.op (some 25) (.mov (.t 11)),
      .op (some 26) (.bin .lss (.t 25) (.k (.int .i64 0)))])
   (.keep [1, 2, 3, 4, 5, 26] (.cond (.t 26)
    (.seq (.ops [.op (some 10) (.mov (.k (.bool true)))])
     (.keep [10] (.ret)))
    (.skip))))
  (.keep [1, 2, 3, 4, 5] (.seq (.ops [.op (some 28) (.loadN 2 (.t 5)),
     .call (some 29) 15 [.t 28],
     .op (some 30) (.mov (.t 1)),
     .op (some 31) (.mov (.t 2)),
     .op (some 32) (.mov (.t 3)),
     .op (some 33) (.mov (.t 4)),
     .call (some 34) 20 [.t 29, .t 30, .t 31, .t 32, .t 33],
     .op (some 27) (.mov (.t 34)),
     .op (some 35) (.ext (.t 27) 0),
     .op (some 36) (.ext (.t 27) 1),
     .op (some 12) (.alloc [.nils 4, .nils 2]),
     .op none (.store 2 (.t 12) (.t 35)),
     .op (some 13) (.mov (.t 36))])
  (.keep [1, 2, 3, 4, 5, 12, 13] (.seq (.ops [.op (some 37) (.loadN 2 (.t 5)),
     .call (some 38) 15 [.t 37],
     .op (some 14) (.alloc [.nils 4, .nils 2]),
     .op none (.store 2 (.t 14) (.t 38))])
  (.keep [1, 2, 3, 4, 5, 12, 13, 14] (.seq (.ops [.op (some 40) (.loadN 2 (.t 14)),
     .op (some 41) (.mov (.t 1)),
     .op (some 42) (.mov (.t 2)),
     .op (some 43) (.mov (.t 3)),
     .op (some 44) (.mov (.t 4)),
     .call (some 45) 19 [.t 40, .t 41, .t 42, .t 43, .t 44],
     .op (some 39) (.mov (.t 45)),
     .op (some 46) (.ext (.t 39) 0),
     .op (some 47) (.ext (.t 39) 1),
     .op (some 15) (.alloc [.nils 4, .nils 2]),
     .op none (.store 2 (.t 15) (.t 46)),
     .op (some 16) (.mov (.t 47))])
  (.keep [1, 2, 3, 4, 5, 12, 13, 14, 15, 16] (.seq (.seq (.ops [.op (some 48) (.loadN 2 (.t 15)),
      .op (some 49) (.loadN 2 (.t 12)),
      .call (some 50) 16 [.t 48, .t 49],
      .op (some 51) (.not (.t 50)),
      .op (some 52) (.mov (.t 51)),
      .andor 56 false 4 52 [.op (some 53) (.mov (.t 16)), .op (some 54) (.mov (.t 13)), .op (some 55) (.bin .neq (.t 53) (.t 54))] (.t 55)])
   (.keep [1, 2, 3, 4, 5, 12, 13, 14, 15, 16, 56] (.cond (.t 56)
    (.seq (.ops [.op (some 10) (.mov (.k (.bool false)))])
     (.keep [10] (.ret)))
    (.skip))))
  (.keep [1, 2, 3, 4, 5, 12, 13, 14, 15, 16] (.seq (.seq (.drawE [[], [], [1], [0, 1, 2], [0, 1, 2, 3]] [.op (some 57) (.loadN 2 (.t 14)),
      .op (some 58) (.loadN 2 (.t 5)),
      .call (some 59) 15 [.t 58]]
     [.call (some 60) 16 [.t 57, .t 59],
      .op (some 61) (.not (.t 60))])
   (.keep [1, 2, 3, 4, 5, 12, 13, 14, 15, 16, 61] (.cond (.t 61)
    (.seq (.ops [.op (some 10) (.mov (.k (.bool false)))])
     (.keep [10] (.ret)))
    (.skip))))
  (.keep [1, 2, 3, 4, 5, 12, 13, 14, 15, 16] (.seq (.ops [.op (some 17) (.mov (.k (.int .i64 1)))])
  (.keep [1, 2, 3, 4, 5, 12, 13, 14, 15, 16, 17] (.seq (.ops [.op (some 62) (.loadN 2 (.t 14)),
     .op (some 63) (.mov (.t 17)),
     .call (some 64) 17 [.t 62, .t 63],
     .op (some 17) (.mov (.t 64))])
  (.keep [1, 2, 3, 4, 5, 12, 13, 15, 16, 17] (.seq (.seq (.ops [.op (some 65) (.mov (.t 17)),
      .op (some 66) (.bin .lss (.t 65) (.k (.int .i64 0))),
      .op (some 67) (.mov (.t 66)),
      .andor 72 false 2 67 [.op (some 68) (.loadN 2 (.t 15)), .op (some 69) (.loadN 2 (.t 12)), .call (some 70) 16 [.t 68, .t 69], .op (some 71) (.not (.t 70))] (.t 71),
      .op (some 73) (.mov (.t 72)),
      .andor 77 false 8 73 [.op (some 74) (.mov (.t 16)), .op (some 75) (.mov (.t 13)), .op (some 76) (.bin .neq (.t 74) (.t 75))] (.t 76)])
   (.keep [1, 2, 3, 4, 5, 12, 13, 15, 77] (.cond (.t 77)
    (.seq (.ops [.op (some 10) (.mov (.k (.bool false)))])
     (.keep [10] (.ret)))
    (.skip))))
  (.keep [1, 2, 3, 4, 5, 12, 13, 15] (.seq (.ops [.op (some 18) (.mov (.k (.int .i64 1)))])
  (.keep [1, 2, 3, 4, 5, 12, 13, 15, 18] (.seq (.ops [.op (some 78) (.loadN 2 (.t 15)),
     .op (some 79) (.mov (.t 18)),
     .call (some 80) 17 [.t 78, .t 79],
     .op (some 18) (.mov (.t 80))])
  (.keep [1, 2, 3, 4, 5, 12, 13, 15, 18] (.seq (.ops [.op (some 19) (.mov (.k (.int .i64 1)))])
  (.keep [1, 2, 3, 4, 5, 12, 13, 15, 18, 19] (.seq (.ops [.op (some 81) (.loadN 2 (.t 15)),
     .op (some 82) (.mov (.t 19)),
     .call (some 83) 18 [.t 81, .t 82],
     .op (some 19) (.mov (.t 83))])
  (.keep [1, 2, 3, 4, 5, 12, 13, 15, 18, 19] (.seq (.seq (.ops [.op (some 84) (.mov (.t 19)),
      .op (some 85) (.bin .lss (.t 84) (.k (.int .i64 0)))])
   (.keep [1, 2, 3, 4, 5, 12, 13, 15, 18, 19, 85] (.cond (.t 85)
    (.seq (.ops [.op (some 10) (.mov (.k (.bool false)))])
     (.keep [10] (.ret)))
    (.skip))))
  (.keep [1, 2, 3, 4, 5, 12, 13, 15, 18, 19] (.seq (.seq (.ops [.op (some 86) (.mov (.t 19)),
      .op (some 87) (.mov (.t 18)),
      .op (some 88) (.bin .neq (.t 86) (.t 87))])
   (.keep [1, 2, 3, 4, 5, 12, 13, 15, 18, 88] (.cond (.t 88)
    (.seq (.ops [.op (some 10) (.mov (.k (.bool false)))])
     (.keep [10] (.ret)))
    (.skip))))
  (.keep [1, 2, 3, 4, 5, 12, 13, 15, 18] (.seq (.ops [.op (some 90) (.loadN 2 (.t 5)),
     .call (some 91) 15 [.t 90],
     .op (some 92) (.mov (.t 1)),
     .op (some 93) (.mov (.t 2)),
     .op (some 94) (.mov (.t 3)),
     .op (some 95) (.mov (.t 4)),
     .call (some 96) 19 [.t 91, .t 92, .t 93, .t 94, .t 95],
     .op (some 89) (.mov (.t 96)),
     .op (some 97) (.ext (.t 89) 0),
     .op (some 98) (.ext (.t 89) 1),
     .op (some 20) (.alloc [.nils 4, .nils 2]),
     .op none (.store 2 (.t 20) (.t 97)),
     .op (some 21) (.mov (.t 98))])
  (.keep [12, 13, 15, 18, 20, 21] (.seq (.seq (.ops [.op (some 99) (.loadN 2 (.t 20)),
      .op (some 100) (.loadN 2 (.t 12)),
      .call (some 101) 16 [.t 99, .t 100],
      .op (some 102) (.not (.t 101)),
      .op (some 103) (.mov (.t 102)),
      .andor 107 false 4 103 [.op (some 104) (.mov (.t 21)), .op (some 105) (.mov (.t 13)), .op (some 106) (.bin .neq (.t 104) (.t 105))] (.t 106)])
   (.keep [15, 18, 107] (.cond (.t 107)
    (.seq (.ops [.op (some 10) (.mov (.k (.bool false)))])
     (.keep [10] (.ret)))
    (.skip))))
  (.keep [15, 18] (.seq (.ops [.op (some 19) (.mov (.k (.int .i64 1)))])
  (.keep [15, 18, 19] (.seq (.ops [.op (some 108) (.loadN 2 (.t 15)),
     .op (some 109) (.mov (.t 19)),
     .call (some 110) 18 [.t 108, .t 109],
     .op (some 19) (.mov (.t 110))])
  (.keep [18, 19] (.seq (.seq (.ops [.op (some 111) (.mov (.t 19)),
      .op (some 112) (.bin .lss (.t 111) (.k (.int .i64 0)))])
   (.keep [18, 19, 112] (.cond (.t 112)
    (.seq (.ops [.op (some 10) (.mov (.k (.bool false)))])
     (.keep [10] (.ret)))
    (.skip))))
  (.keep [18, 19] (.seq (.seq (.ops [.op (some 113) (.mov (.t 19)),
      .op (some 114) (.mov (.t 18)),
      .op (some 115) (.bin .neq (.t 113) (.t 114))])
   (.keep [115] (.cond (.t 115)
    (.seq (.ops [.op (some 10) (.mov (.k (.bool false)))])
     (.keep [10] (.ret)))
    (.skip))))
  (.keep [] (.seq (.ops [.op (some 10) (.mov (.k (.bool true)))])
  (.keep [10] (.ret))))))))))))))))))))))))))))))))))))))))))))))))))
theorem k_c_FnExactTakeLock_fits : fitsF Try.prog 7 ⟨116, k_c_FnExactTakeLock, [.t 10]⟩ = true := by kernel_rfl
theorem c_FnExactTakeLock {l : GLocks} {tx : Int} {table : Int} {row : Int} {mode : Int} (wl : l.wf) (wtx : wfInt tx) (wtable : wfInt table) (wrow : wfInt row) (wmode : wfInt mode) : Con Try.prog noMv 7 [l.av, int tx, int table, int row, int mode] [] (fun r h => r = bool true ∧ h = []) := by
  refine con_of2 k_c_FnExactTakeLock_fits rfl fun C hP hmv => ?_
  unfold k_c_FnExactTakeLock
  refine cx_seq ?_
  refine cx_ops ?_
  refine ax_e (e_box rfl rfl (by decide) rfl rfl rfl) ?_
  refine ax_q (q_mov rfl) ?_
  refine ax_nil ?_
  refine cx_keep rfl rfl ?_
  refine cx_seq ?_
  refine cx_ops ?_
  refine ax_q (q_mov rfl) ?_
  refine ax_nil ?_
  refine cx_keep rfl rfl ?_
  refine cx_seq ?_
  refine cx_ops ?_
  first | refine ax_q (q_ldN rfl rfl rfl) ?_ | refine ax_q (q_loadN_ip rfl (Nat.le_refl _)) ?_ | refine ax_q (q_loadN_ip rfl (by decide)) ?_ | refine ax_q (q_loadN_rptr rfl rfl (by assumption) (by decide)) ?_ | refine ax_q (q_loadN_rptr rfl rfl (mapAt (by first | assumption | omega)) (by decide)) ?_
  refine ax_q (q_mov rfl) ?_
  have sp0 := szF_spec (1048576) (GLocks.sz l)
  refine ax_call rfl (vc_pure0 (c_szLocks (by omega) (by omega) wl) hP rfl rfl ?_)
  refine ax_q (q_mov rfl) ?_
  refine ax_nil ?_
  refine cx_keep rfl rfl ?_
  refine cx_seq ?_
  refine cx_seq ?_
  refine cx_ops ?_
  refine ax_q (q_mov rfl) ?_
  refine ax_q (q_ibin rfl rfl rfl) ?_
  refine ax_nil ?_
  refine cx_keep rfl rfl ?_
  refine cx_cond rfl (fun h0 => ?_) (fun h0 => ?_)
  · have h0 := dT h0
    refine cx_seq ?_
    refine cx_ops ?_
    refine ax_q (q_mov rfl) ?_
    refine ax_nil ?_
    refine cx_keep rfl rfl ?_
    refine cx_ret (ret0 rfl rfl ?_)
    exact ⟨rfl, rfl⟩
  · have h0 := dF h0
    have ⟨ll0, ll1⟩ : l.Held.length ≤ 1048576 ∧ l.Waits.length ≤ 1048576 := by
      have : GLocks.sz l = szL (fun _ => 0) l.Held + szL (fun _ => 0) l.Waits := rfl
      have := @szL_len _ (fun _ => 0) (l.Held)
      have := @szL_len _ (fun _ => 0) (l.Waits)
      omega
    have hq := @takeLock_len l ⟨tx, table, row, mode⟩
    have hl := wl.1
    refine cx_skip ?_
    refine cx_keep rfl rfl ?_
    refine cx_seq ?_
    refine cx_ops ?_
    first | refine ax_q (q_ldN rfl rfl rfl) ?_ | refine ax_q (q_loadN_ip rfl (Nat.le_refl _)) ?_ | refine ax_q (q_loadN_ip rfl (by decide)) ?_ | refine ax_q (q_loadN_rptr rfl rfl (by assumption) (by decide)) ?_ | refine ax_q (q_loadN_rptr rfl rfl (mapAt (by first | assumption | omega)) (by decide)) ?_
    first | refine ax_call rfl (vc_pure (c_toLocks  ?_ ?_) hP rfl ?_) | refine ax_call rfl (vc_lend (c_toLocks  ?_ ?_) hP (by repeat (first | exact lal_id _ rfl | exact LAL.nil | refine LAL.cons ?_ ?_ | exact la_id _ rfl | exact LA.lend (lend_whole rfl (by first | (simp; done) | (rw [List.length_map]; rfl))) | refine LA.agg ?_ | refine LA.fn ?_ | refine LA.lend ?_ | exact Lend.d _ | exact Lend.zs _ | exact lend_whole rfl (by first | (simp; done) | (rw [List.length_map]; rfl)) | refine Lend.ptr rfl ?_ | refine Lend.fn ?_ | exact LendL.nil | refine LendL.cons ?_ ?_)) ?_)
    · first | assumption | omega | (simp; done) | (simp; omega)
    · first | assumption | omega | (simp; done) | (simp; omega)
    rintro r h ⟨rfl, rfl⟩
    refine ⟨fun i => 29 + 200 * i, [0, 1], ⟨rfl, rfl, rfl, rfl, rfl, (by first | exact (fun h => absurd h Bool.false_ne_true) | exact (fun _ => ⟨rfl, (noisl_of (by repeat (first | exact trivial | refine ⟨noisl_map (fun _ => rfl), ?_⟩ | refine ⟨?_, ?_⟩)))⟩))⟩, ?_⟩
    skip
    refine ax_q (q_mov rfl) ?_
    refine ax_q (q_mov rfl) ?_
    refine ax_q (q_mov rfl) ?_
    refine ax_q (q_mov rfl) ?_
    first | refine ax_call rfl (vc_pure (c_sTakeLock (x := ⟨tx, table, row, mode⟩) ?_ ?_ ?_) hP rfl ?_) | refine ax_call rfl (vc_lend (c_sTakeLock (x := ⟨tx, table, row, mode⟩) ?_ ?_ ?_) hP (by repeat (first | exact lal_id _ rfl | exact LAL.nil | refine LAL.cons ?_ ?_ | exact la_id _ rfl | exact LA.lend (lend_whole rfl (by first | (simp; done) | (rw [List.length_map]; rfl))) | refine LA.agg ?_ | refine LA.fn ?_ | refine LA.lend ?_ | exact Lend.d _ | exact Lend.zs _ | exact lend_whole rfl (by first | (simp; done) | (rw [List.length_map]; rfl)) | refine Lend.ptr rfl ?_ | refine Lend.fn ?_ | exact LendL.nil | refine LendL.cons ?_ ?_)) ?_)
    · first | assumption | omega | (simp; done) | (simp; omega)
    · first | assumption | omega | (simp; done) | (simp; omega)
    · first | assumption | omega | (simp; done) | (simp; omega)
    rintro r h ⟨rfl, rfl⟩
    refine ⟨fun i => 34 + 200 * i, [0, 1], ⟨rfl, rfl, rfl, rfl, rfl, (by first | exact (fun h => absurd h Bool.false_ne_true) | exact (fun _ => ⟨rfl, (noisl_of (by repeat (first | exact trivial | refine ⟨noisl_map (fun _ => rfl), ?_⟩ | refine ⟨?_, ?_⟩)))⟩))⟩, ?_⟩
    skip
    refine ax_q (q_mov rfl) ?_
    refine ax_q (q_ext rfl rfl) ?_
    refine ax_q (q_ext rfl rfl) ?_
    refine ax_e (e_alloc (by decide) rfl rfl) ?_
    refine ax_e (e_st rfl rfl rfl rfl rfl rfl rfl) ?_
    refine ax_q (q_mov rfl) ?_
    refine ax_nil ?_
    refine cx_keep rfl rfl ?_
    refine cx_seq ?_
    refine cx_ops ?_
    first | refine ax_q (q_ldN rfl rfl rfl) ?_ | refine ax_q (q_loadN_ip rfl (Nat.le_refl _)) ?_ | refine ax_q (q_loadN_ip rfl (by decide)) ?_ | refine ax_q (q_loadN_rptr rfl rfl (by assumption) (by decide)) ?_ | refine ax_q (q_loadN_rptr rfl rfl (mapAt (by first | assumption | omega)) (by decide)) ?_
    first | refine ax_call rfl (vc_pure (c_toLocks  ?_ ?_) hP rfl ?_) | refine ax_call rfl (vc_lend (c_toLocks  ?_ ?_) hP (by repeat (first | exact lal_id _ rfl | exact LAL.nil | refine LAL.cons ?_ ?_ | exact la_id _ rfl | exact LA.lend (lend_whole rfl (by first | (simp; done) | (rw [List.length_map]; rfl))) | refine LA.agg ?_ | refine LA.fn ?_ | refine LA.lend ?_ | exact Lend.d _ | exact Lend.zs _ | exact lend_whole rfl (by first | (simp; done) | (rw [List.length_map]; rfl)) | refine Lend.ptr rfl ?_ | refine Lend.fn ?_ | exact LendL.nil | refine LendL.cons ?_ ?_)) ?_)
    · first | assumption | omega | (simp; done) | (simp; omega)
    · first | assumption | omega | (simp; done) | (simp; omega)
    rintro r h ⟨rfl, rfl⟩
    refine ⟨fun i => 38 + 200 * i, [0, 1], ⟨rfl, rfl, rfl, rfl, rfl, (by first | exact (fun h => absurd h Bool.false_ne_true) | exact (fun _ => ⟨rfl, (noisl_of (by repeat (first | exact trivial | refine ⟨noisl_map (fun _ => rfl), ?_⟩ | refine ⟨?_, ?_⟩)))⟩))⟩, ?_⟩
    skip
    refine ax_e (e_alloc (by decide) rfl rfl) ?_
    refine ax_e (e_st rfl rfl rfl rfl rfl rfl rfl) ?_
    refine ax_nil ?_
    refine cx_keep rfl rfl ?_
    refine cx_seq ?_
    refine cx_ops ?_
    first | refine ax_q (q_ldN rfl rfl rfl) ?_ | refine ax_q (q_loadN_ip rfl (Nat.le_refl _)) ?_ | refine ax_q (q_loadN_ip rfl (by decide)) ?_ | refine ax_q (q_loadN_rptr rfl rfl (by assumption) (by decide)) ?_ | refine ax_q (q_loadN_rptr rfl rfl (mapAt (by first | assumption | omega)) (by decide)) ?_
    refine ax_q (q_mov rfl) ?_
    refine ax_q (q_mov rfl) ?_
    refine ax_q (q_mov rfl) ?_
    refine ax_q (q_mov rfl) ?_
    first | refine ax_call rfl (vc_pure (c_TakeLock (x := ⟨tx, table, row, mode⟩) ?_ ?_) hP rfl ?_) | refine ax_call rfl (vc_lend (c_TakeLock (x := ⟨tx, table, row, mode⟩) ?_ ?_) hP (by repeat (first | exact lal_id _ rfl | exact LAL.nil | refine LAL.cons ?_ ?_ | exact la_id _ rfl | exact LA.lend (lend_whole rfl (by first | (simp; done) | (rw [List.length_map]; rfl))) | refine LA.agg ?_ | refine LA.fn ?_ | refine LA.lend ?_ | exact Lend.d _ | exact Lend.zs _ | exact lend_whole rfl (by first | (simp; done) | (rw [List.length_map]; rfl)) | refine Lend.ptr rfl ?_ | refine Lend.fn ?_ | exact LendL.nil | refine LendL.cons ?_ ?_)) ?_)
    · first | assumption | omega | (simp; done) | (simp; omega)
    · first | assumption | omega | (simp; done) | (simp; omega)
    rintro r h ⟨rfl, rfl⟩
    refine ⟨fun i => 45 + 200 * i, [0, 1], ⟨rfl, rfl, rfl, rfl, rfl, (by first | exact (fun h => absurd h Bool.false_ne_true) | exact (fun _ => ⟨rfl, (noisl_of (by repeat (first | exact trivial | refine ⟨noisl_map (fun _ => rfl), ?_⟩ | refine ⟨?_, ?_⟩)))⟩))⟩, ?_⟩
    skip
    refine ax_q (q_mov rfl) ?_
    refine ax_q (q_ext rfl rfl) ?_
    refine ax_q (q_ext rfl rfl) ?_
    refine ax_e (e_alloc (by decide) rfl rfl) ?_
    refine ax_e (e_st rfl rfl rfl rfl rfl rfl rfl) ?_
    refine ax_q (q_mov rfl) ?_
    refine ax_nil ?_
    refine cx_keep rfl rfl ?_
    refine cx_seq ?_
    refine cx_seq ?_
    refine cx_ops ?_
    first | refine ax_q (q_ldN rfl rfl rfl) ?_ | refine ax_q (q_loadN_ip rfl (Nat.le_refl _)) ?_ | refine ax_q (q_loadN_ip rfl (by decide)) ?_ | refine ax_q (q_loadN_rptr rfl rfl (by assumption) (by decide)) ?_ | refine ax_q (q_loadN_rptr rfl rfl (mapAt (by first | assumption | omega)) (by decide)) ?_
    first | refine ax_q (q_ldN rfl rfl rfl) ?_ | refine ax_q (q_loadN_ip rfl (Nat.le_refl _)) ?_ | refine ax_q (q_loadN_ip rfl (by decide)) ?_ | refine ax_q (q_loadN_rptr rfl rfl (by assumption) (by decide)) ?_ | refine ax_q (q_loadN_rptr rfl rfl (mapAt (by first | assumption | omega)) (by decide)) ?_
    first | refine ax_call rfl (vc_pure0 (c_eqLocks  ?_ ?_) hP rfl rfl ?_) | refine ax_call rfl (vc_lend0 (c_eqLocks  ?_ ?_) hP (by repeat (first | exact lal_id _ rfl | exact LAL.nil | refine LAL.cons ?_ ?_ | exact la_id _ rfl | exact LA.lend (lend_whole rfl (by first | (simp; done) | (rw [List.length_map]; rfl))) | refine LA.agg ?_ | refine LA.fn ?_ | refine LA.lend ?_ | exact Lend.d _ | exact Lend.zs _ | exact lend_whole rfl (by first | (simp; done) | (rw [List.length_map]; rfl)) | refine Lend.ptr rfl ?_ | refine Lend.fn ?_ | exact LendL.nil | refine LendL.cons ?_ ?_)) rfl rfl ?_)
    · first | assumption | omega | (simp; done) | (simp; omega)
    · first | assumption | omega | (simp; done) | (simp; omega)
    refine ax_q (q_not rfl) ?_
    refine ax_q (q_mov rfl) ?_
    apply ax_or rfl rfl
    · intro g
      have g := bF g
      refine ax_q (q_mov rfl) ?_
      refine ax_q (q_mov rfl) ?_
      refine ax_q (q_ibin rfl rfl rfl) ?_
      exact ax_nil ⟨rfl, by repeat (first | exact trivial | refine ⟨rfl, ?_⟩ | refine ⟨?_, ?_⟩)⟩
    refine ax_nil ?_
    refine cx_keep rfl rfl ?_
    refine cx_cond rfl (fun h1 => ?_) (fun h1 => ?_)
    · have h1 := (fun h => (or_T h).imp bT nT) h1
      first | exact absurd rfl h1 | (exfalso; omega) | exact absurd h1 (by simp [eqb_rfl]) | exact absurd h1 (by simp [eqb_rfl] <;> omega)
    · have h1 := (fun h => And.intro (bF (or_F h).1) (nF (or_F h).2)) h1
      refine cx_skip ?_
      refine cx_keep rfl rfl ?_
      refine cx_seq ?_
      refine cx_seq ?_
      refine cx_drawL 0 57 (fun _ => false) (fun _ => true) [] ([]) [[14], [5], [58]] [[], [], []] rfl ?_
      first | refine ⟨⟨57, _, []⟩, .inl ⟨rfl, rfl, rfl, locl_of (loc_q (q_ldN rfl rfl rfl))⟩, ?_⟩ | refine ⟨⟨57, _, []⟩, .inl ⟨rfl, rfl, rfl, locl_of (loc_q (q_loadN_ip rfl (Nat.le_refl _)))⟩, ?_⟩ | refine ⟨⟨57, _, []⟩, .inl ⟨rfl, rfl, rfl, locl_of (loc_q (q_loadN_ip rfl (by decide)))⟩, ?_⟩ | refine ⟨⟨57, _, []⟩, .inl ⟨rfl, rfl, rfl, locl_of (loc_q (q_loadN_rptr rfl rfl (by assumption) (by decide)))⟩, ?_⟩ | refine ⟨⟨57, _, []⟩, .inl ⟨rfl, rfl, rfl, locl_of (loc_q (q_loadN_rptr rfl rfl (mapAt (by first | assumption | omega)) (by decide)))⟩, ?_⟩
      first | refine ⟨_, .inr ⟨rfl, _, rfl, .inr ⟨rfl, rfl, .inr rfl, rfl, rfl⟩, loc_q (q_ldN rfl rfl rfl)⟩, ?_⟩ | refine ⟨_, .inr ⟨rfl, _, rfl, .inr ⟨rfl, rfl, .inr rfl, rfl, rfl⟩, loc_q (q_loadN_ip rfl (Nat.le_refl _))⟩, ?_⟩ | refine ⟨_, .inr ⟨rfl, _, rfl, .inr ⟨rfl, rfl, .inr rfl, rfl, rfl⟩, loc_q (q_loadN_ip rfl (by decide))⟩, ?_⟩ | refine ⟨_, .inr ⟨rfl, _, rfl, .inr ⟨rfl, rfl, .inr rfl, rfl, rfl⟩, loc_q (q_loadN_rptr rfl rfl (by assumption) (by decide))⟩, ?_⟩ | refine ⟨_, .inr ⟨rfl, _, rfl, .inr ⟨rfl, rfl, .inr rfl, rfl, rfl⟩, loc_q (q_loadN_rptr rfl rfl (mapAt (by first | assumption | omega)) (by decide))⟩, ?_⟩
      first | refine ⟨_, .inr ⟨rfl, _, rfl, .inr ⟨rfl, rfl, .inr rfl, rfl, rfl⟩, loc_call (fun i => 59 + 200 * i) false rfl (c_toLocks  (by first | assumption | omega | (simp; done) | (simp; omega)) (by first | assumption | omega | (simp; done) | (simp; omega))) hP (.inr ⟨rfl, rfl, rfl⟩) rfl rfl (fun h => by cases h)⟩, ?_⟩ | refine ⟨_, .inr ⟨rfl, _, rfl, .inr ⟨rfl, rfl, .inr rfl, rfl, rfl⟩, loc_call (fun i => 59 + 200 * i) true rfl (c_toLocks  (by first | assumption | omega | (simp; done) | (simp; omega)) (by first | assumption | omega | (simp; done) | (simp; omega))) hP (.inl ⟨rfl, (by repeat (first | exact lal_id _ rfl | exact LAL.nil | refine LAL.cons ?_ ?_ | exact la_id _ rfl | exact LA.lend (lend_whole rfl (by first | (simp; done) | (rw [List.length_map]; rfl))) | refine LA.agg ?_ | refine LA.fn ?_ | refine LA.lend ?_ | exact Lend.d _ | exact Lend.zs _ | exact lend_whole rfl (by first | (simp; done) | (rw [List.length_map]; rfl)) | refine Lend.ptr rfl ?_ | refine Lend.fn ?_ | exact LendL.nil | refine LendL.cons ?_ ?_))⟩) rfl rfl (fun _ => ⟨rfl, noisl_of (by repeat (first | exact trivial | refine ⟨noisl_map (fun _ => rfl), ?_⟩ | refine ⟨?_, ?_⟩))⟩)⟩, ?_⟩
      refine ⟨rfl, ?_⟩
      first | refine ax_call rfl (vc_pure0 (c_eqLocks  ?_ ?_) hP rfl rfl ?_) | refine ax_call rfl (vc_lend0 (c_eqLocks  ?_ ?_) hP (by repeat (first | exact lal_id _ rfl | exact LAL.nil | refine LAL.cons ?_ ?_ | exact la_id _ rfl | exact LA.lend (lend_whole rfl (by first | (simp; done) | (rw [List.length_map]; rfl))) | refine LA.agg ?_ | refine LA.fn ?_ | refine LA.lend ?_ | exact Lend.d _ | exact Lend.zs _ | exact lend_whole rfl (by first | (simp; done) | (rw [List.length_map]; rfl)) | refine Lend.ptr rfl ?_ | refine Lend.fn ?_ | exact LendL.nil | refine LendL.cons ?_ ?_)) rfl rfl ?_)
      · first | assumption | omega | (simp; done) | (simp; omega)
      · first | assumption | omega | (simp; done) | (simp; omega)
      refine ax_q (q_not rfl) ?_
      refine ax_nil ?_
      refine cx_keep rfl rfl ?_
      refine cx_cond rfl (fun h2 => ?_) (fun h2 => ?_)
      · have h2 := bT h2
        first | exact absurd rfl h2 | (exfalso; omega) | exact absurd h2 (by simp [eqb_rfl]) | exact absurd h2 (by simp [eqb_rfl] <;> omega)
      · have h2 := bF h2
        refine cx_skip ?_
        refine cx_keep rfl rfl ?_
        refine cx_seq ?_
        refine cx_ops ?_
        refine ax_q (q_mov rfl) ?_
        refine ax_nil ?_
        refine cx_keep rfl rfl ?_
        refine cx_seq ?_
        refine cx_ops ?_
        first | refine ax_q (q_ldN rfl rfl rfl) ?_ | refine ax_q (q_loadN_ip rfl (Nat.le_refl _)) ?_ | refine ax_q (q_loadN_ip rfl (by decide)) ?_ | refine ax_q (q_loadN_rptr rfl rfl (by assumption) (by decide)) ?_ | refine ax_q (q_loadN_rptr rfl rfl (mapAt (by first | assumption | omega)) (by decide)) ?_
        refine ax_q (q_mov rfl) ?_
        refine ax_call rfl (vcall_own (c_markLocks (a := l) (k0 := 1) (by show _ ≤ _; first | omega | (simp only [GLocks.mkN]; omega))) hP hmv false (fun e => bif Nat.beq e 1000 then 38 else 238) [1000, 1001] ⟨rfl, rfl, rfl, rfl, (by repeat (first | exact trivial | refine ⟨rfl, ?_⟩)), rfl, rfl, rfl⟩ (.pass rfl rfl (.pass rfl rfl .nil)) ?_)
        rintro r h ⟨rfl, rfl⟩
        refine ⟨fun e => bif Nat.beq e 1000 then 38 else 238, [], ⟨rfl, rfl, rfl, rfl, (mem2 rfl rfl), rfl, rfl, fun h => by cases h⟩, ?_⟩
        refine ax_q (q_mov rfl) ?_
        refine ax_nil ?_
        refine cx_keep rfl rfl ?_
        refine cx_seq ?_
        refine cx_seq ?_
        refine cx_ops ?_
        refine ax_q (q_mov rfl) ?_
        refine ax_q (q_ibin rfl rfl rfl) ?_
        refine ax_q (q_mov rfl) ?_
        apply ax_or rfl rfl
        · intro g
          have g := dF g
          first | refine ax_q (q_ldN rfl rfl rfl) ?_ | refine ax_q (q_loadN_ip rfl (Nat.le_refl _)) ?_ | refine ax_q (q_loadN_ip rfl (by decide)) ?_ | refine ax_q (q_loadN_rptr rfl rfl (by assumption) (by decide)) ?_ | refine ax_q (q_loadN_rptr rfl rfl (mapAt (by first | assumption | omega)) (by decide)) ?_
          first | refine ax_q (q_ldN rfl rfl rfl) ?_ | refine ax_q (q_loadN_ip rfl (Nat.le_refl _)) ?_ | refine ax_q (q_loadN_ip rfl (by decide)) ?_ | refine ax_q (q_loadN_rptr rfl rfl (by assumption) (by decide)) ?_ | refine ax_q (q_loadN_rptr rfl rfl (mapAt (by first | assumption | omega)) (by decide)) ?_
          first | refine ax_call rfl (vc_pure0 (c_eqLocks  ?_ ?_) hP rfl rfl ?_) | refine ax_call rfl (vc_lend0 (c_eqLocks  ?_ ?_) hP (by repeat (first | exact lal_id _ rfl | exact LAL.nil | refine LAL.cons ?_ ?_ | exact la_id _ rfl | exact LA.lend (lend_whole rfl (by first | (simp; done) | (rw [List.length_map]; rfl))) | refine LA.agg ?_ | refine LA.fn ?_ | refine LA.lend ?_ | exact Lend.d _ | exact Lend.zs _ | exact lend_whole rfl (by first | (simp; done) | (rw [List.length_map]; rfl)) | refine Lend.ptr rfl ?_ | refine Lend.fn ?_ | exact LendL.nil | refine LendL.cons ?_ ?_)) rfl rfl ?_)
          · first | assumption | omega | (simp; done) | (simp; omega)
          · first | assumption | omega | (simp; done) | (simp; omega)
          refine ax_q (q_not rfl) ?_
          exact ax_nil ⟨rfl, by repeat (first | exact trivial | refine ⟨rfl, ?_⟩ | refine ⟨?_, ?_⟩)⟩
        refine ax_q (q_mov rfl) ?_
        apply ax_or rfl rfl
        · intro g
          have g := (fun h => And.intro (dF (or_F h).1) (bF (or_F h).2)) g
          refine ax_q (q_mov rfl) ?_
          refine ax_q (q_mov rfl) ?_
          refine ax_q (q_ibin rfl rfl rfl) ?_
          exact ax_nil ⟨rfl, by repeat (first | exact trivial | refine ⟨rfl, ?_⟩ | refine ⟨?_, ?_⟩)⟩
        refine ax_nil ?_
        refine cx_keep rfl rfl ?_
        refine cx_cond rfl (fun h3 => ?_) (fun h3 => ?_)
        · have h3 := (fun h => (or_T h).imp (fun h => (or_T h).imp dT bT) nT) h3
          first | exact absurd rfl h3 | (exfalso; omega) | exact absurd h3 (by simp [eqb_rfl]) | exact absurd h3 (by simp [eqb_rfl] <;> omega)
        · have h3 := (fun h => And.intro ((fun h => And.intro (dF (or_F h).1) (bF (or_F h).2)) (or_F h).1) (nF (or_F h).2)) h3
          refine cx_skip ?_
          refine cx_keep rfl rfl ?_
          refine cx_seq ?_
          refine cx_ops ?_
          refine ax_q (q_mov rfl) ?_
          refine ax_nil ?_
          refine cx_keep rfl rfl ?_
          refine cx_seq ?_
          refine cx_ops ?_
          first | refine ax_q (q_ldN rfl rfl rfl) ?_ | refine ax_q (q_loadN_ip rfl (Nat.le_refl _)) ?_ | refine ax_q (q_loadN_ip rfl (by decide)) ?_ | refine ax_q (q_loadN_rptr rfl rfl (by assumption) (by decide)) ?_ | refine ax_q (q_loadN_rptr rfl rfl (mapAt (by first | assumption | omega)) (by decide)) ?_
          refine ax_q (q_mov rfl) ?_
          refine ax_call rfl (vcall_own (c_markLocks (a := (takeLock l ⟨tx, table, row, mode⟩).1) (k0 := 1) (by show _ ≤ _; first | omega | (simp only [GLocks.mkN]; omega))) hP hmv false (fun e => bif Nat.beq e 1000 then 45 else 245) [1000, 1001] ⟨rfl, rfl, rfl, rfl, (by repeat (first | exact trivial | refine ⟨rfl, ?_⟩)), rfl, rfl, rfl⟩ (.pass rfl rfl (.pass rfl rfl .nil)) ?_)
          rintro r h ⟨rfl, rfl⟩
          refine ⟨fun e => bif Nat.beq e 1000 then 45 else 245, [], ⟨rfl, rfl, rfl, rfl, (mem2 rfl rfl), rfl, rfl, fun h => by cases h⟩, ?_⟩
          refine ax_q (q_mov rfl) ?_
          refine ax_nil ?_
          refine cx_keep rfl rfl ?_
          refine cx_seq ?_
          refine cx_ops ?_
          refine ax_q (q_mov rfl) ?_
          refine ax_nil ?_
          refine cx_keep rfl rfl ?_
          refine cx_seq ?_
          refine cx_ops ?_
          first | refine ax_q (q_ldN rfl rfl rfl) ?_ | refine ax_q (q_loadN_ip rfl (Nat.le_refl _)) ?_ | refine ax_q (q_loadN_ip rfl (by decide)) ?_ | refine ax_q (q_loadN_rptr rfl rfl (by assumption) (by decide)) ?_ | refine ax_q (q_loadN_rptr rfl rfl (mapAt (by first | assumption | omega)) (by decide)) ?_
          refine ax_q (q_mov rfl) ?_
          refine ax_call rfl (vc_lend0 (c_heldLocks (a := (takeLock l ⟨tx, table, row, mode⟩).1) (k0 := 1) (by show _ ≤ _; first | omega | (simp only [GLocks.mkN]; omega))) hP (by repeat (first | exact lal_id _ rfl | exact LAL.nil | refine LAL.cons ?_ ?_ | exact la_id _ rfl | exact LA.lend (lend_whole rfl (by simp [GLocks.mkS, markL_len])) | refine LA.agg ?_ | refine LA.fn ?_ | refine LA.lend ?_ | exact Lend.d _ | exact Lend.zs _ | exact lend_whole rfl (by simp [GLocks.mkS, markL_len]) | refine Lend.ptr rfl ?_ | refine Lend.fn ?_ | exact LendL.nil | refine LendL.cons ?_ ?_)) rfl rfl ?_)
          refine ax_q (q_mov rfl) ?_
          refine ax_nil ?_
          refine cx_keep rfl rfl ?_
          refine cx_seq ?_
          refine cx_seq ?_
          refine cx_ops ?_
          refine ax_q (q_mov rfl) ?_
          refine ax_q (q_ibin rfl rfl rfl) ?_
          refine ax_nil ?_
          refine cx_keep rfl rfl ?_
          refine cx_cond rfl (fun h4 => ?_) (fun h4 => ?_)
          · have h4 := dT h4
            first | exact absurd rfl h4 | (exfalso; omega) | exact absurd h4 (by simp [eqb_rfl]) | exact absurd h4 (by simp [eqb_rfl] <;> omega)
          · have h4 := dF h4
            refine cx_skip ?_
            refine cx_keep rfl rfl ?_
            refine cx_seq ?_
            refine cx_seq ?_
            refine cx_ops ?_
            refine ax_q (q_mov rfl) ?_
            refine ax_q (q_mov rfl) ?_
            refine ax_q (q_ibin rfl rfl rfl) ?_
            refine ax_nil ?_
            refine cx_keep rfl rfl ?_
            refine cx_cond rfl (fun h5 => ?_) (fun h5 => ?_)
            · have h5 := nT h5
              first | exact absurd rfl h5 | (exfalso; omega) | exact absurd h5 (by simp [eqb_rfl]) | exact absurd h5 (by simp [eqb_rfl] <;> omega)
            · have h5 := nF h5
              refine cx_skip ?_
              refine cx_keep rfl rfl ?_
              refine cx_seq ?_
              refine cx_ops ?_
              first | refine ax_q (q_ldN rfl rfl rfl) ?_ | refine ax_q (q_loadN_ip rfl (Nat.le_refl _)) ?_ | refine ax_q (q_loadN_ip rfl (by decide)) ?_ | refine ax_q (q_loadN_rptr rfl rfl (by assumption) (by decide)) ?_ | refine ax_q (q_loadN_rptr rfl rfl (mapAt (by first | assumption | omega)) (by decide)) ?_
              first | refine ax_call rfl (vc_pure (c_toLocks  ?_ ?_) hP rfl ?_) | refine ax_call rfl (vc_lend (c_toLocks  ?_ ?_) hP (by repeat (first | exact lal_id _ rfl | exact LAL.nil | refine LAL.cons ?_ ?_ | exact la_id _ rfl | exact LA.lend (lend_whole rfl (by first | (simp; done) | (rw [List.length_map]; rfl))) | refine LA.agg ?_ | refine LA.fn ?_ | refine LA.lend ?_ | exact Lend.d _ | exact Lend.zs _ | exact lend_whole rfl (by first | (simp; done) | (rw [List.length_map]; rfl)) | refine Lend.ptr rfl ?_ | refine Lend.fn ?_ | exact LendL.nil | refine LendL.cons ?_ ?_)) ?_)
              · first | assumption | omega | (simp; done) | (simp; omega)
              · first | assumption | omega | (simp; done) | (simp; omega)
              rintro r h ⟨rfl, rfl⟩
              refine ⟨fun i => 91 + 200 * i, [0, 1], ⟨rfl, rfl, rfl, rfl, rfl, (by first | exact (fun h => absurd h Bool.false_ne_true) | exact (fun _ => ⟨rfl, (noisl_of (by repeat (first | exact trivial | refine ⟨noisl_map (fun _ => rfl), ?_⟩ | refine ⟨?_, ?_⟩)))⟩))⟩, ?_⟩
              skip
              refine ax_q (q_mov rfl) ?_
              refine ax_q (q_mov rfl) ?_
              refine ax_q (q_mov rfl) ?_
              refine ax_q (q_mov rfl) ?_
              first | refine ax_call rfl (vc_pure (c_TakeLock (x := ⟨tx, table, row, mode⟩) ?_ ?_) hP rfl ?_) | refine ax_call rfl (vc_lend (c_TakeLock (x := ⟨tx, table, row, mode⟩) ?_ ?_) hP (by repeat (first | exact lal_id _ rfl | exact LAL.nil | refine LAL.cons ?_ ?_ | exact la_id _ rfl | exact LA.lend (lend_whole rfl (by first | (simp; done) | (rw [List.length_map]; rfl))) | refine LA.agg ?_ | refine LA.fn ?_ | refine LA.lend ?_ | exact Lend.d _ | exact Lend.zs _ | exact lend_whole rfl (by first | (simp; done) | (rw [List.length_map]; rfl)) | refine Lend.ptr rfl ?_ | refine Lend.fn ?_ | exact LendL.nil | refine LendL.cons ?_ ?_)) ?_)
              · first | assumption | omega | (simp; done) | (simp; omega)
              · first | assumption | omega | (simp; done) | (simp; omega)
              rintro r h ⟨rfl, rfl⟩
              refine ⟨fun i => 96 + 200 * i, [0, 1], ⟨rfl, rfl, rfl, rfl, rfl, (by first | exact (fun h => absurd h Bool.false_ne_true) | exact (fun _ => ⟨rfl, (noisl_of (by repeat (first | exact trivial | refine ⟨noisl_map (fun _ => rfl), ?_⟩ | refine ⟨?_, ?_⟩)))⟩))⟩, ?_⟩
              skip
              refine ax_q (q_mov rfl) ?_
              refine ax_q (q_ext rfl rfl) ?_
              refine ax_q (q_ext rfl rfl) ?_
              refine ax_e (e_alloc (by decide) rfl rfl) ?_
              refine ax_e (e_st rfl rfl rfl rfl rfl rfl rfl) ?_
              refine ax_q (q_mov rfl) ?_
              refine ax_nil ?_
              refine cx_keep rfl rfl ?_
              refine cx_seq ?_
              refine cx_seq ?_
              refine cx_ops ?_
              first | refine ax_q (q_ldN rfl rfl rfl) ?_ | refine ax_q (q_loadN_ip rfl (Nat.le_refl _)) ?_ | refine ax_q (q_loadN_ip rfl (by decide)) ?_ | refine ax_q (q_loadN_rptr rfl rfl (by assumption) (by decide)) ?_ | refine ax_q (q_loadN_rptr rfl rfl (mapAt (by first | assumption | omega)) (by decide)) ?_
              first | refine ax_q (q_ldN rfl rfl rfl) ?_ | refine ax_q (q_loadN_ip rfl (Nat.le_refl _)) ?_ | refine ax_q (q_loadN_ip rfl (by decide)) ?_ | refine ax_q (q_loadN_rptr rfl rfl (by assumption) (by decide)) ?_ | refine ax_q (q_loadN_rptr rfl rfl (mapAt (by first | assumption | omega)) (by decide)) ?_
              first | refine ax_call rfl (vc_pure0 (c_eqLocks  ?_ ?_) hP rfl rfl ?_) | refine ax_call rfl (vc_lend0 (c_eqLocks  ?_ ?_) hP (by repeat (first | exact lal_id _ rfl | exact LAL.nil | refine LAL.cons ?_ ?_ | exact la_id _ rfl | exact LA.lend (lend_whole rfl (by first | (simp; done) | (rw [List.length_map]; rfl))) | refine LA.agg ?_ | refine LA.fn ?_ | refine LA.lend ?_ | exact Lend.d _ | exact Lend.zs _ | exact lend_whole rfl (by first | (simp; done) | (rw [List.length_map]; rfl)) | refine Lend.ptr rfl ?_ | refine Lend.fn ?_ | exact LendL.nil | refine LendL.cons ?_ ?_)) rfl rfl ?_)
              · first | assumption | omega | (simp; done) | (simp; omega)
              · first | assumption | omega | (simp; done) | (simp; omega)
              refine ax_q (q_not rfl) ?_
              refine ax_q (q_mov rfl) ?_
              apply ax_or rfl rfl
              · intro g
                have g := bF g
                refine ax_q (q_mov rfl) ?_
                refine ax_q (q_mov rfl) ?_
                refine ax_q (q_ibin rfl rfl rfl) ?_
                exact ax_nil ⟨rfl, by repeat (first | exact trivial | refine ⟨rfl, ?_⟩ | refine ⟨?_, ?_⟩)⟩
              refine ax_nil ?_
              refine cx_keep rfl rfl ?_
              refine cx_cond rfl (fun h6 => ?_) (fun h6 => ?_)
              · have h6 := (fun h => (or_T h).imp bT nT) h6
                first | exact absurd rfl h6 | (exfalso; omega) | exact absurd h6 (by simp [eqb_rfl]) | exact absurd h6 (by simp [eqb_rfl] <;> omega)
              · have h6 := (fun h => And.intro (bF (or_F h).1) (nF (or_F h).2)) h6
                refine cx_skip ?_
                refine cx_keep rfl rfl ?_
                refine cx_seq ?_
                refine cx_ops ?_
                refine ax_q (q_mov rfl) ?_
                refine ax_nil ?_
                refine cx_keep rfl rfl ?_
                refine cx_seq ?_
                refine cx_ops ?_
                first | refine ax_q (q_ldN rfl rfl rfl) ?_ | refine ax_q (q_loadN_ip rfl (Nat.le_refl _)) ?_ | refine ax_q (q_loadN_ip rfl (by decide)) ?_ | refine ax_q (q_loadN_rptr rfl rfl (by assumption) (by decide)) ?_ | refine ax_q (q_loadN_rptr rfl rfl (mapAt (by first | assumption | omega)) (by decide)) ?_
                refine ax_q (q_mov rfl) ?_
                refine ax_call rfl (vc_lend0 (c_heldLocks (a := (takeLock l ⟨tx, table, row, mode⟩).1) (k0 := 1) (by show _ ≤ _; first | omega | (simp only [GLocks.mkN]; omega))) hP (by repeat (first | exact lal_id _ rfl | exact LAL.nil | refine LAL.cons ?_ ?_ | exact la_id _ rfl | exact LA.lend (lend_whole rfl (by simp [GLocks.mkS, markL_len])) | refine LA.agg ?_ | refine LA.fn ?_ | refine LA.lend ?_ | exact Lend.d _ | exact Lend.zs _ | exact lend_whole rfl (by simp [GLocks.mkS, markL_len]) | refine Lend.ptr rfl ?_ | refine Lend.fn ?_ | exact LendL.nil | refine LendL.cons ?_ ?_)) rfl rfl ?_)
                refine ax_q (q_mov rfl) ?_
                refine ax_nil ?_
                refine cx_keep rfl rfl ?_
                refine cx_seq ?_
                refine cx_seq ?_
                refine cx_ops ?_
                refine ax_q (q_mov rfl) ?_
                refine ax_q (q_ibin rfl rfl rfl) ?_
                refine ax_nil ?_
                refine cx_keep rfl rfl ?_
                refine cx_cond rfl (fun h7 => ?_) (fun h7 => ?_)
                · have h7 := dT h7
                  first | exact absurd rfl h7 | (exfalso; omega) | exact absurd h7 (by simp [eqb_rfl]) | exact absurd h7 (by simp [eqb_rfl] <;> omega)
                · have h7 := dF h7
                  refine cx_skip ?_
                  refine cx_keep rfl rfl ?_
                  refine cx_seq ?_
                  refine cx_seq ?_
                  refine cx_ops ?_
                  refine ax_q (q_mov rfl) ?_
                  refine ax_q (q_mov rfl) ?_
                  refine ax_q (q_ibin rfl rfl rfl) ?_
                  refine ax_nil ?_
                  refine cx_keep rfl rfl ?_
                  refine cx_cond rfl (fun h8 => ?_) (fun h8 => ?_)
                  · have h8 := nT h8
                    first | exact absurd rfl h8 | (exfalso; omega) | exact absurd h8 (by simp [eqb_rfl]) | exact absurd h8 (by simp [eqb_rfl] <;> omega)
                  · have h8 := nF h8
                    refine cx_skip ?_
                    refine cx_keep rfl rfl ?_
                    refine cx_seq ?_
                    refine cx_ops ?_
                    refine ax_q (q_mov rfl) ?_
                    refine ax_nil ?_
                    refine cx_keep rfl rfl ?_
                    refine cx_ret (ret0 rfl rfl ?_)
                    exact ⟨rfl, rfl⟩

theorem own : ownKnob Try.prog.godebug = none := by kernel_rfl
theorem laid : laidOutB Try.prog = true := by kernel_rfl
theorem closedTs : closedT Try.prog [3, 37, 38, 40, 92, 94] = true := by kernel_rfl
theorem con (rows : List (List D)) (h : HasAll Try.prog Try.f7.params.toList rows) : Con Try.prog noMv 7 (argsAV Try.prog Try.f7.params.toList rows) [] (fun r h => r = AM.bool true ∧ h = []) := by
  rw [Try.params7] at h ⊢
  obtain ⟨d0, r0, rfl, h0, h⟩ := h
  obtain ⟨d1, r1, rfl, h1, h⟩ := h
  obtain ⟨d2, r2, rfl, h2, h⟩ := h
  obtain ⟨d3, r3, rfl, h3, h⟩ := h
  obtain ⟨d4, r4, rfl, h4, h⟩ := h
  obtain rfl := h
  obtain ⟨a0, rfl, w0⟩ := (GLocks.dec Try.underlying40 rfl (dec_slice Try.underlying37 (by kernel_rfl) (GLock.dec Try.underlying92 rfl (dec_int Try.underlying3) (dec_int Try.underlying3) (dec_int Try.underlying3) (dec_int Try.underlying3))) (dec_slice Try.underlying38 (by kernel_rfl) (GWait.dec Try.underlying94 rfl (dec_int Try.underlying3) (dec_int Try.underlying3)))) h0
  obtain ⟨a1, rfl, w1⟩ := (dec_int Try.underlying3) h1
  obtain ⟨a2, rfl, w2⟩ := (dec_int Try.underlying3) h2
  obtain ⟨a3, rfl, w3⟩ := (dec_int Try.underlying3) h3
  obtain ⟨a4, rfl, w4⟩ := (dec_int Try.underlying3) h4
  have e : argsAV Try.prog [40, 3, 3, 3, 3] [GLocks.row a0, intRow a1, intRow a2, intRow a3, intRow a4] = [a0.av, int a1, int a2, int a3, int a4] := by
    simp only [argsAV, argAV, Try.underlying3, Try.underlying40]
    rfl
  show Con Try.prog noMv 7 (argsAV Try.prog [40, 3, 3, 3, 3] [GLocks.row a0, intRow a1, intRow a2, intRow a3, intRow a4]) [] _
  rw [e]
  exact c_FnExactTakeLock w0 w1 w2 w3 w4
set_option maxRecDepth 100000 in
theorem lifted (os : Os) (started : os.Started) (H : Type) (enc : TypeId × Value → H) :
    ReturnsInHanded {} Try.checked os 7 .any (Rows.fnExactTakeLockSpec.pre6 enc Try.prog Try.f7 Rows.fnExactTakeLockRow.domain false) (Rows.fnExactTakeLockSpec.post enc Try.prog Try.f7 false true false false) := by
  refine returnsInHanded_of_change (C := Try.checked) own started (by kernel_rfl) Try.func7
    (ChangeSpec.witness6 (enc := enc) (C := Try.checked) false ⟨#[], #[.agg #[.slice none 0 0, .slice none 0 0], .int .i64 0, .int .i64 0, .int .i64 0, .int .i64 0], []⟩ 8 (by kernel_rfl) (by kernel_rfl) (by kernel_rfl) (by kernel_rfl)) ?_
  intro W base args ds gs before hval hW hcnd _
  refine law_contract closedTs laid (by kernel_rfl) rfl rfl Try.underlying4 con (fun hl => ?_) hval hW
  match ds, hl with
  | [x0, x1, x2, x3, x4], _ => rfl
theorem over : Rows.fnExactTakeLockRow.holds Try.pinned (OpenSpec.ofChange Rows.fnExactTakeLockSpec) :=
  OpenClaim.holds_of_wide 7 Try.f7 rfl rfl rfl rfl rfl rfl rfl ⟨rfl, rfl, rfl, rfl, rfl⟩ rfl rfl rfl rfl rfl (by kernel_rfl) Try.func7 (by kernel_rfl)
    (of_decide_eq_true (by kernel_rfl)) (by unfold Func.isWrapper; first | (rw [if_pos (by decide +kernel)]; kernel_rfl) | (rw [if_neg (by decide +kernel)]; exact ⟨rfl, rfl⟩))
    (fun os started H enc _ => lifted os started H enc)
theorem proved : Rows.FnExactTakeLockSaid := over
end fnExactTakeLock
end Go.Proofs.Ytljbgclkdfeegaa
#print axioms Go.Proofs.Ytljbgclkdfeegaa.fnExactTakeLock.proved
