/- The law FnFree of the given program returns true for all arguments, and its arguments read behind the call as they read before: the statement FnFreeSaid, with no condition. -/
import Derived.Test.YtljbgclkdfeegaaW1
import Derived.Test.YtljbgclkdfeegaaRows
namespace Go.Proofs.Ytljbgclkdfeegaa
open Go Go.AM Go.ChangeShapes Go.RowKit
set_option linter.unusedVariables false
namespace fnFree
set_option maxRecDepth 10000
/- loop.example/g00332/laws.FnFree -/
def k_c_FnFree : XCode :=
  .seq (.ops [.op (some 4) (.mov (.k (.bool false)))])
  (.keep [0, 1] (.seq (.seq (.ops [.op (some 16) (.mov (.t 0)),
      .op (some 17) (.lenS (.t 16)),
      .op (some 18) (.bin .gtr (.t 17) (.k (.int .i64 1048576))),
      .op (some 19) (.mov (.t 18)),
      .andor 23 false 3 19 [.op (some 20) (.mov (.t 1)), .op (some 21) (.lenS (.t 20)), .op (some 22) (.bin .gtr (.t 21) (.k (.int .i64 1048576)))] (.t 22)])
   (.keep [0, 1, 23] (.cond (.t 23)
    (.seq (.ops [.op (some 4) (.mov (.k (.bool true)))])
     (.keep [4] (.ret)))
    (.skip))))
  (.keep [0, 1] (.seq (.ops [.op (some 24) (.mov (.t 0)),
     .call (some 25) 8 [.t 24],
     .op (some 5) (.alloc [.nils 4, .nils 2]),
     .op none (.store 2 (.t 5) (.t 25))])
  (.keep [1, 5] (.seq (.ops [.op (some 26) (.mov (.t 1)),
     .call (some 27) 9 [.t 26, .k (.int .i64 0), .k (.int .i64 4)],
     .op (some 28) (.bin .add (.k (.int .i64 1)) (.t 27)),
     .op (some 6) (.mov (.t 28))])
  (.keep [5, 6] (.seq (.ops [.op (some 30) (.loadN 2 (.t 5)),
     .op (some 31) (.mov (.t 6)),
     .call (some 32) 10 [.t 30, .t 31],
     .op (some 29) (.mov (.t 32)),
     .op (some 33) (.ext (.t 29) 0),
     .op (some 34) (.ext (.t 29) 1),
     .op (some 7) (.alloc [.nils 4, .nils 2]),
     .op none (.store 2 (.t 7) (.t 33)),
     .op (some 8) (.mov (.t 34))])
  (.keep [5, 6, 7, 8] (.seq (.ops [.op (some 36) (.loadN 2 (.t 5)),
     .op (some 37) (.mov (.t 6)),
     .call (some 38) 11 [.t 36, .t 37],
     .op (some 35) (.mov (.t 38)),
     .op (some 39) (.ext (.t 35) 0),
     .op (some 40) (.ext (.t 35) 1),
     .op (some 9) (.alloc [.nils 4, .nils 2]),
     .op none (.store 2 (.t 9) (.t 39)),
     .op (some 10) (.mov (.t 40))])
  (.keep [6, 7, 8, 9] (.seq (.ops [.op (some 42) (.loadN 2 (.t 7)),
     .op (some 43) (.mov (.t 6)),
     .call (some 44) 12 [.t 42, .t 43],
     .op (some 41) (.mov (.t 44)),
     .op (some 45) (.ext (.t 41) 0),
     .op (some 46) (.ext (.t 41) 1),
     .op (some 11) (.mov (.t 45)),
     .op (some 12) (.mov (.t 46))])
  (.keep [6, 7, 8, 9, 11, 12] (.seq (.seq (.ops [.op (some 47) (.mov (.t 8)),
      .op (some 48) (.bin .neq (.t 47) (.k (.int .i64 0))),
      .op (some 49) (.mov (.t 48)),
      .andor 54 false 2 49 [.op (some 50) (.loadN 2 (.t 7)), .op (some 51) (.loadN 2 (.t 9)), .call (some 52) 13 [.t 50, .t 51], .op (some 53) (.not (.t 52))] (.t 53),
      .op (some 55) (.mov (.t 54)),
      .andor 58 false 8 55 [.op (some 56) (.mov (.t 12)), .op (some 57) (.bin .neq (.t 56) (.k (.int .i64 0)))] (.t 57),
      .op (some 59) (.mov (.t 58)),
      .andor 63 false 12 59 [.op (some 60) (.mov (.t 11)), .op (some 61) (.lenS (.t 60)), .op (some 62) (.bin .neq (.t 61) (.k (.int .i64 0)))] (.t 62)])
   (.keep [6, 7, 63] (.cond (.t 63)
    (.seq (.ops [.op (some 4) (.mov (.k (.bool false)))])
     (.keep [4] (.ret)))
    (.skip))))
  (.keep [6, 7] (.seq (.seq (.ops [.op (some 13) (.mov (.k (.int .i64 0)))])
   (.keep [6, 7, 13] (.block 0 (.loop (.seq (.seq (.ops [.op (some 64) (.mov (.t 13)),
         .op (some 65) (.fadr (.t 7) 1),
         .op (some 66) (.load1 (.t 65)),
         .op (some 67) (.lenS (.t 66)),
         .op (some 68) (.bin .lss (.t 64) (.t 67))])
      (.keep [6, 7, 13, 68] (.cond (.t 68)
       (.skip)
       (.exit 0))))
     (.keep [6, 7, 13] (.seq (.block 1 (.seq (.ops [.op (some 71) (.fadr (.t 7) 1),
          .op (some 72) (.load1 (.t 71)),
          .op (some 73) (.mov (.t 13)),
          .op (some 74) (.iadr 2 (.t 72) (.t 73)),
          .op (some 75) (.fadr (.t 74) 0),
          .op (some 76) (.load1 (.t 75)),
          .op (some 77) (.mov (.t 6)),
          .op (some 78) (.bin .eql (.t 76) (.t 77)),
          .op (some 79) (.mov (.t 78)),
          .andor 88 false 8 79 [.op (some 80) (.fadr (.t 7) 1), .op (some 81) (.load1 (.t 80)), .op (some 82) (.mov (.t 13)), .op (some 83) (.iadr 2 (.t 81) (.t 82)), .op (some 84) (.fadr (.t 83) 1), .op (some 85) (.load1 (.t 84)), .op (some 86) (.mov (.t 6)), .op (some 87) (.bin .eql (.t 85) (.t 86))] (.t 87)])
       (.keep [6, 7, 13, 88] (.cond (.t 88)
        (.seq (.ops [.op (some 4) (.mov (.k (.bool false)))])
         (.keep [4] (.ret)))
        (.skip)))))
     (.keep [6, 7, 13] (.ops [.op (some 69) (.mov (.t 13)),
       .op (some 70) (.bin .add (.t 69) (.k (.int .i64 1))),
       .op (some 13) (.mov (.t 70))])))))))))
  (.keep [6, 7] (.seq (.ops [.op (some 90) (.loadN 2 (.t 7)),
     .op (some 91) (.mov (.t 6)),
     .call (some 92) 10 [.t 90, .t 91],
     .op (some 89) (.mov (.t 92)),
     .op (some 93) (.ext (.t 89) 0),
     .op (some 94) (.ext (.t 89) 1),
     .op (some 14) (.alloc [.nils 4, .nils 2]),
     .op none (.store 2 (.t 14) (.t 93)),
     .op (some 15) (.mov (.t 94))])
  (.keep [7, 14, 15] (.seq (.ops [.op (some 95) (.mov (.t 15)),
     .op (some 96) (.bin .eql (.t 95) (.k (.int .i64 0))),
     .op (some 97) (.mov (.t 96)),
     .andor 101 true 2 97 [.op (some 98) (.loadN 2 (.t 14)), .op (some 99) (.loadN 2 (.t 7)), .call (some 100) 13 [.t 98, .t 99]] (.t 100),
     .op (some 4) (.mov (.t 101))])
  (.keep [4] (.ret))))))))))))))))))))))
theorem k_c_FnFree_fits : fitsF Try.prog 3 ⟨102, k_c_FnFree, [.t 4]⟩ = true := by kernel_rfl
theorem c_FnFree {code more : Str} : Con Try.prog noMv 3 [.d (.sl 1 (code.map byteRow)), .d (.sl 1 (more.map byteRow))] [] (fun r h => r = bool true ∧ h = []) := by
  refine con_of2 k_c_FnFree_fits rfl fun C hP hmv => ?_
  unfold k_c_FnFree
  refine cx_seq ?_
  refine cx_ops ?_
  refine ax_q (q_mov rfl) ?_
  refine ax_nil ?_
  refine cx_keep rfl rfl ?_
  refine cx_seq ?_
  refine cx_seq ?_
  refine cx_ops ?_
  refine ax_q (q_mov rfl) ?_
  first | refine ax_q (q_lenS_map rfl) ?_ | refine ax_q (q_lenS_osl rfl) ?_ | refine ax_q (q_lenS_zs rfl) ?_ | refine ax_q (q_lenS rfl) ?_
  refine ax_q (q_ibin rfl rfl rfl) ?_
  refine ax_q (q_mov rfl) ?_
  apply ax_or rfl rfl
  · intro g
    have g := dF g
    refine ax_q (q_mov rfl) ?_
    first | refine ax_q (q_lenS_map rfl) ?_ | refine ax_q (q_lenS_osl rfl) ?_ | refine ax_q (q_lenS_zs rfl) ?_ | refine ax_q (q_lenS rfl) ?_
    refine ax_q (q_ibin rfl rfl rfl) ?_
    exact ax_nil ⟨rfl, by repeat (first | exact trivial | refine ⟨rfl, ?_⟩ | refine ⟨?_, ?_⟩)⟩
  refine ax_nil ?_
  refine cx_keep rfl rfl ?_
  refine cx_cond rfl (fun h0 => ?_) (fun h0 => ?_)
  · have h0 := (fun h => (or_T h).imp dT dT) h0
    refine cx_seq ?_
    refine cx_ops ?_
    refine ax_q (q_mov rfl) ?_
    refine ax_nil ?_
    refine cx_keep rfl rfl ?_
    refine cx_ret (ret0 rfl rfl ?_)
    exact ⟨rfl, rfl⟩
  · have h0 := (fun h => And.intro (dF (or_F h).1) (dF (or_F h).2)) h0
    have hc : code.length ≤ 1048576 := by omega
    have hm : more.length ≤ 1048576 := by omega
    refine cx_skip ?_
    refine cx_keep rfl rfl ?_
    refine cx_seq ?_
    refine cx_ops ?_
    refine ax_q (q_mov rfl) ?_
    first | refine ax_call rfl (vc_pure (c_LocksOf  ?_) hP rfl ?_) | refine ax_call rfl (vc_lend (c_LocksOf  ?_) hP (by repeat (first | exact lal_id _ rfl | exact LAL.nil | refine LAL.cons ?_ ?_ | exact la_id _ rfl | exact LA.lend (lend_whole rfl (by first | (simp; done) | (rw [List.length_map]; rfl))) | refine LA.agg ?_ | refine LA.fn ?_ | refine LA.lend ?_ | exact Lend.d _ | exact Lend.zs _ | exact lend_whole rfl (by first | (simp; done) | (rw [List.length_map]; rfl)) | refine Lend.ptr rfl ?_ | refine Lend.fn ?_ | exact LendL.nil | refine LendL.cons ?_ ?_)) ?_)
    · first | assumption | omega | (simp; done) | (simp; omega)
    rintro r h ⟨l, hl, rfl, rfl⟩
    refine ⟨fun i => 25 + 200 * i, [0, 1], ⟨rfl, rfl, rfl, rfl, rfl, (by first | exact (fun h => absurd h Bool.false_ne_true) | exact (fun _ => ⟨rfl, (noisl_of (by repeat (first | exact trivial | refine ⟨noisl_map (fun _ => rfl), ?_⟩ | refine ⟨?_, ?_⟩)))⟩))⟩, ?_⟩
    skip
    obtain ⟨hw, _, hb0, hb1, _⟩ := locksOK_iff.1 hl
    have ha := @atF_bounds more 0 4 (by omega)
    have htx : isTx (1 + atF more 0 4) = true := isTx_mk (by omega)
    have hf := freeLocks_ok hl htx
    have hfl0 : (freed l (1 + atF more 0 4)).Held.length ≤ l.Held.length := filter_len _ _
    have hfl1 : (freed l (1 + atF more 0 4)).Waits.length ≤ l.Waits.length := filter_len _ _
    have hok := freed_ok (tx := 1 + atF more 0 4) hl
    have hwf := locksOK_wf hl
    refine ax_e (e_alloc (by decide) rfl rfl) ?_
    refine ax_e (e_st rfl rfl rfl rfl rfl rfl rfl) ?_
    refine ax_nil ?_
    refine cx_keep rfl rfl ?_
    refine cx_seq ?_
    refine cx_ops ?_
    refine ax_q (q_mov rfl) ?_
    first | refine ax_call rfl (vc_pure0 (c_at  ?_ ?_ ?_) hP rfl rfl ?_) | refine ax_call rfl (vc_lend0 (c_at  ?_ ?_ ?_) hP (by repeat (first | exact lal_id _ rfl | exact LAL.nil | refine LAL.cons ?_ ?_ | exact la_id _ rfl | exact LA.lend (lend_whole rfl (by first | (simp; done) | (rw [List.length_map]; rfl))) | refine LA.agg ?_ | refine LA.fn ?_ | refine LA.lend ?_ | exact Lend.d _ | exact Lend.zs _ | exact lend_whole rfl (by first | (simp; done) | (rw [List.length_map]; rfl)) | refine Lend.ptr rfl ?_ | refine Lend.fn ?_ | exact LendL.nil | refine LendL.cons ?_ ?_)) rfl rfl ?_)
    · first | assumption | omega | (simp; done) | (simp; omega)
    · first | assumption | omega | (simp; done) | (simp; omega)
    · first | assumption | omega | (simp; done) | (simp; omega)
    refine ax_q (q_add rfl rfl (by omega)) ?_
    refine ax_q (q_mov rfl) ?_
    refine ax_nil ?_
    refine cx_keep rfl rfl ?_
    refine cx_seq ?_
    refine cx_ops ?_
    first | refine ax_q (q_ldN rfl rfl rfl) ?_ | refine ax_q (q_loadN_ip rfl (Nat.le_refl _)) ?_ | refine ax_q (q_loadN_ip rfl (by decide)) ?_ | refine ax_q (q_loadN_rptr rfl rfl (by assumption) (by decide)) ?_ | refine ax_q (q_loadN_rptr rfl rfl (mapAt (by first | assumption | omega)) (by decide)) ?_
    refine ax_q (q_mov rfl) ?_
    first | refine ax_call rfl (vc_pure (c_FreeLocks  ?_ ?_) hP rfl ?_) | refine ax_call rfl (vc_lend (c_FreeLocks  ?_ ?_) hP (by repeat (first | exact lal_id _ rfl | exact LAL.nil | refine LAL.cons ?_ ?_ | exact la_id _ rfl | exact LA.lend (lend_whole rfl (by first | (simp; done) | (rw [List.length_map]; rfl))) | refine LA.agg ?_ | refine LA.fn ?_ | refine LA.lend ?_ | exact Lend.d _ | exact Lend.zs _ | exact lend_whole rfl (by first | (simp; done) | (rw [List.length_map]; rfl)) | refine Lend.ptr rfl ?_ | refine Lend.fn ?_ | exact LendL.nil | refine LendL.cons ?_ ?_)) ?_)
    · first | assumption | omega | (simp; done) | (simp; omega)
    · first | assumption | omega | (simp; done) | (simp; omega)
    rintro r h ⟨rfl, rfl⟩
    refine ⟨fun i => 32 + 200 * i, [0, 1], ⟨rfl, rfl, rfl, rfl, rfl, (by first | exact (fun h => absurd h Bool.false_ne_true) | exact (fun _ => ⟨rfl, (noisl_of (by repeat (first | exact trivial | refine ⟨noisl_map (fun _ => rfl), ?_⟩ | refine ⟨?_, ?_⟩)))⟩))⟩, ?_⟩
    skip
    rw [hf]
    refine ax_q (q_mov rfl) ?_
    refine ax_q (q_ext rfl rfl) ?_
    refine ax_q (q_ext rfl rfl) ?_
    refine ax_e (e_alloc (by decide) rfl rfl) ?_
    refine ax_e (e_st rfl rfl rfl rfl rfl rfl rfl) ?_
    refine ax_q (q_mov rfl) ?_
    refine ax_nil ?_
    refine cx_keep rfl rfl ?_
    refine cx_seq ?_
    refine cx_ops ?_
    first | refine ax_q (q_ldN rfl rfl rfl) ?_ | refine ax_q (q_loadN_ip rfl (Nat.le_refl _)) ?_ | refine ax_q (q_loadN_ip rfl (by decide)) ?_ | refine ax_q (q_loadN_rptr rfl rfl (by assumption) (by decide)) ?_ | refine ax_q (q_loadN_rptr rfl rfl (mapAt (by first | assumption | omega)) (by decide)) ?_
    refine ax_q (q_mov rfl) ?_
    first | refine ax_call rfl (vc_pure (c_sFreeLocks  ?_ ?_ ?_) hP rfl ?_) | refine ax_call rfl (vc_lend (c_sFreeLocks  ?_ ?_ ?_) hP (by repeat (first | exact lal_id _ rfl | exact LAL.nil | refine LAL.cons ?_ ?_ | exact la_id _ rfl | exact LA.lend (lend_whole rfl (by first | (simp; done) | (rw [List.length_map]; rfl))) | refine LA.agg ?_ | refine LA.fn ?_ | refine LA.lend ?_ | exact Lend.d _ | exact Lend.zs _ | exact lend_whole rfl (by first | (simp; done) | (rw [List.length_map]; rfl)) | refine Lend.ptr rfl ?_ | refine Lend.fn ?_ | exact LendL.nil | refine LendL.cons ?_ ?_)) ?_)
    · first | assumption | omega | (simp; done) | (simp; omega)
    · first | assumption | omega | (simp; done) | (simp; omega)
    · first | assumption | omega | (simp; done) | (simp; omega)
    rintro r h ⟨rfl, rfl⟩
    refine ⟨fun i => 38 + 200 * i, [0, 1], ⟨rfl, rfl, rfl, rfl, rfl, (by first | exact (fun h => absurd h Bool.false_ne_true) | exact (fun _ => ⟨rfl, (noisl_of (by repeat (first | exact trivial | refine ⟨noisl_map (fun _ => rfl), ?_⟩ | refine ⟨?_, ?_⟩)))⟩))⟩, ?_⟩
    skip
    rw [hf]
    refine ax_q (q_mov rfl) ?_
    refine ax_q (q_ext rfl rfl) ?_
    refine ax_q (q_ext rfl rfl) ?_
    refine ax_e (e_alloc (by decide) rfl rfl) ?_
    refine ax_e (e_st rfl rfl rfl rfl rfl rfl rfl) ?_
    refine ax_q (q_mov rfl) ?_
    refine ax_nil ?_
    refine cx_keep rfl rfl ?_
    refine cx_seq ?_
    refine cx_ops ?_
    first | refine ax_q (q_ldN rfl rfl rfl) ?_ | refine ax_q (q_loadN_ip rfl (Nat.le_refl _)) ?_ | refine ax_q (q_loadN_ip rfl (by decide)) ?_ | refine ax_q (q_loadN_rptr rfl rfl (by assumption) (by decide)) ?_ | refine ax_q (q_loadN_rptr rfl rfl (mapAt (by first | assumption | omega)) (by decide)) ?_
    refine ax_q (q_mov rfl) ?_
    first | refine ax_call rfl (vc_pure (c_LocksOfTx  ?_ ?_) hP rfl ?_) | refine ax_call rfl (vc_lend (c_LocksOfTx  ?_ ?_) hP (by repeat (first | exact lal_id _ rfl | exact LAL.nil | refine LAL.cons ?_ ?_ | exact la_id _ rfl | exact LA.lend (lend_whole rfl (by first | (simp; done) | (rw [List.length_map]; rfl))) | refine LA.agg ?_ | refine LA.fn ?_ | refine LA.lend ?_ | exact Lend.d _ | exact Lend.zs _ | exact lend_whole rfl (by first | (simp; done) | (rw [List.length_map]; rfl)) | refine Lend.ptr rfl ?_ | refine Lend.fn ?_ | exact LendL.nil | refine LendL.cons ?_ ?_)) ?_)
    · first | assumption | omega | (simp; done) | (simp; omega)
    · first | assumption | omega | (simp; done) | (simp; omega)
    rintro r h ⟨rfl, rfl⟩
    refine ⟨fun i => 44 + 200 * i, [0], ⟨rfl, rfl, rfl, rfl, rfl, (by first | exact (fun h => absurd h Bool.false_ne_true) | exact (fun _ => ⟨rfl, (noisl_of (by repeat (first | exact trivial | refine ⟨noisl_map (fun _ => rfl), ?_⟩ | refine ⟨?_, ?_⟩)))⟩))⟩, ?_⟩
    skip
    rw [locksOfTx_3 hok htx, freed_none]
    refine ax_q (q_mov rfl) ?_
    refine ax_q (q_ext rfl rfl) ?_
    refine ax_q (q_ext rfl rfl) ?_
    refine ax_q (q_mov rfl) ?_
    refine ax_q (q_mov rfl) ?_
    refine ax_nil ?_
    refine cx_keep rfl rfl ?_
    refine cx_seq ?_
    refine cx_seq ?_
    refine cx_ops ?_
    refine ax_q (q_mov rfl) ?_
    refine ax_q (q_ibin rfl rfl rfl) ?_
    refine ax_q (q_mov rfl) ?_
    apply ax_or rfl rfl
    · intro g
      have g := nF g
      first | refine ax_q (q_ldN rfl rfl rfl) ?_ | refine ax_q (q_loadN_ip rfl (Nat.le_refl _)) ?_ | refine ax_q (q_loadN_ip rfl (by decide)) ?_ | refine ax_q (q_loadN_rptr rfl rfl (by assumption) (by decide)) ?_ | refine ax_q (q_loadN_rptr rfl rfl (mapAt (by first | assumption | omega)) (by decide)) ?_
      first | refine ax_q (q_ldN rfl rfl rfl) ?_ | refine ax_q (q_loadN_ip rfl (Nat.le_refl _)) ?_ | refine ax_q (q_loadN_ip rfl (by decide)) ?_ | refine ax_q (q_loadN_rptr rfl rfl (by assumption) (by decide)) ?_ | refine ax_q (q_loadN_rptr rfl rfl (mapAt (by first | assumption | omega)) (by decide)) ?_
      first | refine ax_call rfl (vc_pure0 (c_sameLocks  ?_ ?_) hP rfl rfl ?_) | refine ax_call rfl (vc_lend0 (c_sameLocks  ?_ ?_) hP (by repeat (first | exact lal_id _ rfl | exact LAL.nil | refine LAL.cons ?_ ?_ | exact la_id _ rfl | exact LA.lend (lend_whole rfl (by first | (simp; done) | (rw [List.length_map]; rfl))) | refine LA.agg ?_ | refine LA.fn ?_ | refine LA.lend ?_ | exact Lend.d _ | exact Lend.zs _ | exact lend_whole rfl (by first | (simp; done) | (rw [List.length_map]; rfl)) | refine Lend.ptr rfl ?_ | refine Lend.fn ?_ | exact LendL.nil | refine LendL.cons ?_ ?_)) rfl rfl ?_)
      · first | assumption | omega | (simp; done) | (simp; omega)
      · first | assumption | omega | (simp; done) | (simp; omega)
      refine ax_q (q_not rfl) ?_
      exact ax_nil ⟨rfl, by repeat (first | exact trivial | refine ⟨rfl, ?_⟩ | refine ⟨?_, ?_⟩)⟩
    refine ax_q (q_mov rfl) ?_
    apply ax_or rfl rfl
    · intro g
      have g := (fun h => And.intro (nF (or_F h).1) (bF (or_F h).2)) g
      refine ax_q (q_mov rfl) ?_
      refine ax_q (q_ibin rfl rfl rfl) ?_
      exact ax_nil ⟨rfl, by repeat (first | exact trivial | refine ⟨rfl, ?_⟩ | refine ⟨?_, ?_⟩)⟩
    refine ax_q (q_mov rfl) ?_
    apply ax_or rfl rfl
    · intro g
      have g := (fun h => And.intro ((fun h => And.intro (nF (or_F h).1) (bF (or_F h).2)) (or_F h).1) (nF (or_F h).2)) g
      refine ax_q (q_mov rfl) ?_
      first | refine ax_q (q_lenS_map rfl) ?_ | refine ax_q (q_lenS_osl rfl) ?_ | refine ax_q (q_lenS_zs rfl) ?_ | refine ax_q (q_lenS rfl) ?_
      refine ax_q (q_ibin rfl rfl rfl) ?_
      exact ax_nil ⟨rfl, by repeat (first | exact trivial | refine ⟨rfl, ?_⟩ | refine ⟨?_, ?_⟩)⟩
    refine ax_nil ?_
    refine cx_keep rfl rfl ?_
    refine cx_cond rfl (fun h1 => ?_) (fun h1 => ?_)
    · have h1 := (fun h => (or_T h).imp (fun h => (or_T h).imp (fun h => (or_T h).imp nT bT) nT) nT) h1
      exact absurd h1 (by simp [eqb_rfl])
    · have h1 := (fun h => And.intro ((fun h => And.intro ((fun h => And.intro (nF (or_F h).1) (bF (or_F h).2)) (or_F h).1) (nF (or_F h).2)) (or_F h).1) (nF (or_F h).2)) h1
      refine cx_skip ?_
      refine cx_keep rfl rfl ?_
      refine cx_seq ?_
      refine cx_seq ?_
      refine cx_ops ?_
      refine ax_q (q_mov rfl) ?_
      refine ax_nil ?_
      refine cx_keep rfl rfl ?_
      refine cx_block ?_
      refine cx_loopU (fun n k => k ≤ (freed l (1 + atF more 0 4)).Waits.length ∧ n = (freed l (1 + atF more 0 4)).Waits.length - k) (fun k : Nat => [(13, int k)]) (fun _ => [(7, .box [.osl 32 4 0 (freed l (1 + atF more 0 4)).Held.length, .osl 232 2 0 (freed l (1 + atF more 0 4)).Waits.length]), (32, .rows 4 ((freed l (1 + atF more 0 4)).Held.map GLock.row)), (232, .rows 2 ((freed l (1 + atF more 0 4)).Waits.map GWait.row))]) ⟨_, 0, ⟨Nat.zero_le _, rfl⟩, by repeat (first | exact trivial | refine ⟨rfl, ?_⟩ | refine ⟨?_, ?_⟩)⟩ ?_
      rintro n k ⟨hk, rfl⟩
      refine cx_seq ?_
      refine cx_seq ?_
      refine cx_ops ?_
      refine ax_q (q_mov rfl) ?_
      first | refine ax_q (q_fadr_ptr rfl) ?_ | refine ax_q (q_fadr_rptr rfl) ?_ | refine ax_q (q_fadr_ip rfl) ?_
      first | refine ax_q (q_load1_ptr rfl rfl rfl) ?_ | refine ax_q (q_load1_ip rfl) ?_ | refine ax_q (q_load1_rptr rfl rfl (by assumption) rfl) ?_ | refine ax_q (q_load1_rptr rfl rfl (mapAt (by first | assumption | omega)) rfl) ?_
      first | refine ax_q (q_lenS_map rfl) ?_ | refine ax_q (q_lenS_osl rfl) ?_ | refine ax_q (q_lenS_zs rfl) ?_ | refine ax_q (q_lenS rfl) ?_
      refine ax_q (q_ibin rfl rfl rfl) ?_
      refine ax_nil ?_
      refine cx_keep rfl rfl ?_
      refine cx_cond rfl (fun h2 => ?_) (fun h2 => ?_)
      · have h2 := dT h2
        have h2x : k < (freed l (1 + atF more 0 4)).Waits.length := by omega
        have hwt := freed_wait (List.getElem_mem h2x)
        refine cx_skip ?_
        refine cx_keep rfl rfl ?_
        refine cx_seq ?_
        refine cx_block ?_
        refine cx_seq ?_
        refine cx_ops ?_
        first | refine ax_q (q_fadr_ptr rfl) ?_ | refine ax_q (q_fadr_rptr rfl) ?_ | refine ax_q (q_fadr_ip rfl) ?_
        first | refine ax_q (q_load1_ptr rfl rfl rfl) ?_ | refine ax_q (q_load1_ip rfl) ?_ | refine ax_q (q_load1_rptr rfl rfl (by assumption) rfl) ?_ | refine ax_q (q_load1_rptr rfl rfl (mapAt (by first | assumption | omega)) rfl) ?_
        refine ax_q (q_mov rfl) ?_
        refine ax_q (q_ixo rfl rfl h2x) ?_
        first | refine ax_q (q_fadr_ptr rfl) ?_ | refine ax_q (q_fadr_rptr rfl) ?_ | refine ax_q (q_fadr_ip rfl) ?_
        first | refine ax_q (q_load1_ptr rfl rfl rfl) ?_ | refine ax_q (q_load1_ip rfl) ?_ | refine ax_q (q_load1_rptr rfl rfl (by assumption) rfl) ?_ | refine ax_q (q_load1_rptr rfl rfl (mapAt (by first | assumption | omega)) rfl) ?_
        refine ax_q (q_mov rfl) ?_
        refine ax_q (q_ibin rfl rfl rfl) ?_
        refine ax_q (q_mov rfl) ?_
        apply ax_or rfl rfl
        · intro g
          have g := dF g
          first | refine ax_q (q_fadr_ptr rfl) ?_ | refine ax_q (q_fadr_rptr rfl) ?_ | refine ax_q (q_fadr_ip rfl) ?_
          first | refine ax_q (q_load1_ptr rfl rfl rfl) ?_ | refine ax_q (q_load1_ip rfl) ?_ | refine ax_q (q_load1_rptr rfl rfl (by assumption) rfl) ?_ | refine ax_q (q_load1_rptr rfl rfl (mapAt (by first | assumption | omega)) rfl) ?_
          refine ax_q (q_mov rfl) ?_
          refine ax_q (q_ixo rfl rfl h2x) ?_
          first | refine ax_q (q_fadr_ptr rfl) ?_ | refine ax_q (q_fadr_rptr rfl) ?_ | refine ax_q (q_fadr_ip rfl) ?_
          first | refine ax_q (q_load1_ptr rfl rfl rfl) ?_ | refine ax_q (q_load1_ip rfl) ?_ | refine ax_q (q_load1_rptr rfl rfl (by assumption) rfl) ?_ | refine ax_q (q_load1_rptr rfl rfl (mapAt (by first | assumption | omega)) rfl) ?_
          refine ax_q (q_mov rfl) ?_
          refine ax_q (q_ibin rfl rfl rfl) ?_
          exact ax_nil ⟨rfl, by repeat (first | exact trivial | refine ⟨rfl, ?_⟩ | refine ⟨?_, ?_⟩)⟩
        refine ax_nil ?_
        refine cx_keep rfl rfl ?_
        refine cx_cond rfl (fun h3 => ?_) (fun h3 => ?_)
        · have h3 := (fun h => (or_T h).imp dT dT) h3
          exact absurd h3 (by rintro (h | h); exact hwt.1 h; exact hwt.2 h)
        · have h3 := (fun h => And.intro (dF (or_F h).1) (dF (or_F h).2)) h3
          refine cx_skip ?_
          refine cx_keep rfl rfl ?_
          refine cx_ops ?_
          refine ax_q (q_mov rfl) ?_
          refine ax_qe (r' := int ((k + 1 : Nat) : Int)) (q_ibin rfl rfl rfl) (by rw [wi (by omega) (by omega)]; rfl) ?_
          refine ax_q (q_mov rfl) ?_
          refine ax_nil ?_
          exact ⟨_, k + 1, by omega, ⟨by omega, rfl⟩, by repeat (first | exact trivial | refine ⟨rfl, ?_⟩ | refine ⟨?_, ?_⟩)⟩
      · have h2 := dF h2
        refine cx_exit rfl ?_
        refine cx_keep rfl rfl ?_
        refine cx_seq ?_
        refine cx_ops ?_
        first | refine ax_q (q_ldN rfl rfl rfl) ?_ | refine ax_q (q_loadN_ip rfl (Nat.le_refl _)) ?_ | refine ax_q (q_loadN_ip rfl (by decide)) ?_ | refine ax_q (q_loadN_rptr rfl rfl (by assumption) (by decide)) ?_ | refine ax_q (q_loadN_rptr rfl rfl (mapAt (by first | assumption | omega)) (by decide)) ?_
        refine ax_q (q_mov rfl) ?_
        first | refine ax_call rfl (vc_pure (c_FreeLocks  ?_ ?_) hP rfl ?_) | refine ax_call rfl (vc_lend (c_FreeLocks  ?_ ?_) hP (by repeat (first | exact lal_id _ rfl | exact LAL.nil | refine LAL.cons ?_ ?_ | exact la_id _ rfl | exact LA.lend (lend_whole rfl (by first | (simp; done) | (rw [List.length_map]; rfl))) | refine LA.agg ?_ | refine LA.fn ?_ | refine LA.lend ?_ | exact Lend.d _ | exact Lend.zs _ | exact lend_whole rfl (by first | (simp; done) | (rw [List.length_map]; rfl)) | refine Lend.ptr rfl ?_ | refine Lend.fn ?_ | exact LendL.nil | refine LendL.cons ?_ ?_)) ?_)
        · first | assumption | omega | (simp; done) | (simp; omega)
        · first | assumption | omega | (simp; done) | (simp; omega)
        rintro r h ⟨rfl, rfl⟩
        refine ⟨fun i => 92 + 200 * i, [0, 1], ⟨rfl, rfl, rfl, rfl, rfl, (by first | exact (fun h => absurd h Bool.false_ne_true) | exact (fun _ => ⟨rfl, (noisl_of (by repeat (first | exact trivial | refine ⟨noisl_map (fun _ => rfl), ?_⟩ | refine ⟨?_, ?_⟩)))⟩))⟩, ?_⟩
        skip
        rw [freeLocks_ok hok htx, freed_again]
        refine ax_q (q_mov rfl) ?_
        refine ax_q (q_ext rfl rfl) ?_
        refine ax_q (q_ext rfl rfl) ?_
        refine ax_e (e_alloc (by decide) rfl rfl) ?_
        refine ax_e (e_st rfl rfl rfl rfl rfl rfl rfl) ?_
        refine ax_q (q_mov rfl) ?_
        refine ax_nil ?_
        refine cx_keep rfl rfl ?_
        refine cx_seq ?_
        refine cx_ops ?_
        refine ax_q (q_mov rfl) ?_
        refine ax_q (q_ibin rfl rfl rfl) ?_
        refine ax_q (q_mov rfl) ?_
        apply ax_and rfl rfl
        · intro g
          have g := dT g
          first | refine ax_q (q_ldN rfl rfl rfl) ?_ | refine ax_q (q_loadN_ip rfl (Nat.le_refl _)) ?_ | refine ax_q (q_loadN_ip rfl (by decide)) ?_ | refine ax_q (q_loadN_rptr rfl rfl (by assumption) (by decide)) ?_ | refine ax_q (q_loadN_rptr rfl rfl (mapAt (by first | assumption | omega)) (by decide)) ?_
          first | refine ax_q (q_ldN rfl rfl rfl) ?_ | refine ax_q (q_loadN_ip rfl (Nat.le_refl _)) ?_ | refine ax_q (q_loadN_ip rfl (by decide)) ?_ | refine ax_q (q_loadN_rptr rfl rfl (by assumption) (by decide)) ?_ | refine ax_q (q_loadN_rptr rfl rfl (mapAt (by first | assumption | omega)) (by decide)) ?_
          first | refine ax_call rfl (vc_pure0 (c_sameLocks  ?_ ?_) hP rfl rfl ?_) | refine ax_call rfl (vc_lend0 (c_sameLocks  ?_ ?_) hP (by repeat (first | exact lal_id _ rfl | exact LAL.nil | refine LAL.cons ?_ ?_ | exact la_id _ rfl | exact LA.lend (lend_whole rfl (by first | (simp; done) | (rw [List.length_map]; rfl))) | refine LA.agg ?_ | refine LA.fn ?_ | refine LA.lend ?_ | exact Lend.d _ | exact Lend.zs _ | exact lend_whole rfl (by first | (simp; done) | (rw [List.length_map]; rfl)) | refine Lend.ptr rfl ?_ | refine Lend.fn ?_ | exact LendL.nil | refine LendL.cons ?_ ?_)) rfl rfl ?_)
          · first | assumption | omega | (simp; done) | (simp; omega)
          · first | assumption | omega | (simp; done) | (simp; omega)
          exact ax_nil ⟨rfl, by repeat (first | exact trivial | refine ⟨rfl, ?_⟩ | refine ⟨?_, ?_⟩)⟩
        refine ax_q (q_mov rfl) ?_
        refine ax_nil ?_
        refine cx_keep rfl rfl ?_
        refine cx_ret (ret0 rfl rfl ?_)
        exact ⟨by simp [eqb_rfl, mkRes], rfl⟩

theorem own : ownKnob Try.prog.godebug = none := by kernel_rfl
theorem laid : laidOutB Try.prog = true := by kernel_rfl
theorem closedTs : closedT Try.prog [5, 22] = true := by kernel_rfl
theorem con (rows : List (List D)) (h : HasAll Try.prog Try.f3.params.toList rows) : Con Try.prog noMv 3 (argsAV Try.prog Try.f3.params.toList rows) [] (fun r h => r = AM.bool true ∧ h = []) := by
  rw [Try.params3] at h ⊢
  obtain ⟨d0, r0, rfl, h0, h⟩ := h
  obtain ⟨d1, r1, rfl, h1, h⟩ := h
  obtain rfl := h
  obtain ⟨a0, rfl, w0⟩ := (dec_slice (sz := 1) Try.underlying22 (by kernel_rfl) (dec_byte Try.underlying5)) h0
  obtain ⟨a1, rfl, w1⟩ := (dec_slice (sz := 1) Try.underlying22 (by kernel_rfl) (dec_byte Try.underlying5)) h1
  have e : argsAV Try.prog [22, 22] [[.sl 1 (a0.map byteRow)], [.sl 1 (a1.map byteRow)]] = [.d (.sl 1 (a0.map byteRow)), .d (.sl 1 (a1.map byteRow))] := by
    first | (simp only [argsAV, argAV, Try.underlying22]; done) | (simp only [argsAV, argAV, Try.underlying22]; rfl)
  show Con Try.prog noMv 3 (argsAV Try.prog [22, 22] [[.sl 1 (a0.map byteRow)], [.sl 1 (a1.map byteRow)]]) [] _
  rw [e]
  exact c_FnFree
set_option maxRecDepth 100000 in
theorem lifted (os : Os) (started : os.Started) (H : Type) (enc : TypeId × Value → H) :
    ReturnsInHanded {} Try.checked os 3 .any (Rows.fnFreeSpec.pre6 enc Try.prog Try.f3 Rows.fnFreeRow.domain false) (Rows.fnFreeSpec.post enc Try.prog Try.f3 false true false false) := by
  refine returnsInHanded_of_change (C := Try.checked) own started (by kernel_rfl) Try.func3
    (ChangeSpec.witness6 (enc := enc) (C := Try.checked) false ⟨#[], #[.slice none 0 0, .slice none 0 0], []⟩ 8 (by kernel_rfl) (by kernel_rfl) (by kernel_rfl) (by kernel_rfl)) ?_
  intro W base args ds gs before hval hW hcnd _
  refine law_contract closedTs laid (by kernel_rfl) rfl rfl Try.underlying4 con (fun hl => ?_) hval hW
  match ds, hl with
  | [x0, x1], _ => rfl
theorem over : Rows.fnFreeRow.holds Try.pinned (OpenSpec.ofChange Rows.fnFreeSpec) :=
  OpenClaim.holds_of_wide 3 Try.f3 rfl rfl rfl rfl rfl rfl rfl ⟨rfl, rfl, rfl, rfl, rfl⟩ rfl rfl rfl rfl rfl (by kernel_rfl) Try.func3 (by kernel_rfl)
    (of_decide_eq_true (by kernel_rfl)) (by unfold Func.isWrapper; first | (rw [if_pos (by decide +kernel)]; kernel_rfl) | (rw [if_neg (by decide +kernel)]; exact ⟨rfl, rfl⟩))
    (fun os started H enc _ => lifted os started H enc)
theorem proved : Rows.FnFreeSaid := over
end fnFree
end Go.Proofs.Ytljbgclkdfeegaa
#print axioms Go.Proofs.Ytljbgclkdfeegaa.fnFree.proved
