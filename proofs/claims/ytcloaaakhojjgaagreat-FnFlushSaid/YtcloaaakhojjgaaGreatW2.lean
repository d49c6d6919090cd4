/- The walks: what each function computes, as a contract without a world (part 2). -/
import Derived.Test.YtcloaaakhojjgaaGreatProg
import Derived.Test.YtcloaaakhojjgaaGreatW1
namespace Go.Proofs.YtcloaaakhojjgaaGreat
open Go Go.AM
set_option maxRecDepth 10000
set_option linter.unusedVariables false
set_option linter.unusedSimpArgs false
/- loop.example/g00332/spec.l04CheckOK -/
def k_c_l04CheckOK : XCode :=
 .seq (.ops [.op (some 1) (.box (.t 0)),
   .op (some 2) (.mov (.k (.bool false)))])
 (.keep [1] (.seq (.ops [.op (some 9) (.fadr (.t 1) 9),
   .op (some 10) (.load1 (.t 9)),
   .call (some 11) 165 [.t 10],
   .op (some 8) (.mov (.t 11)),
   .op (some 12) (.ext (.t 8) 0),
   .op (some 13) (.ext (.t 8) 1),
   .op (some 14) (.ext (.t 8) 2),
   .op (some 3) (.mov (.t 12)),
   .op (some 4) (.mov (.t 13)),
   .op (some 5) (.mov (.t 14))])
 (.keep [1, 3, 4, 5] (.seq (.seq (.ops [.op (some 15) (.mov (.t 5)),
   .op (some 16) (.not (.t 15)),
   .op (some 17) (.mov (.t 16)),
   .andor 21 false 2 17 [.op (some 18) (.mov (.t 3)), .op (some 19) (.lenS (.t 18)), .op (some 20) (.bin .gtr (.t 19) (.k (.int .i64 8)))] (.t 20),
   .op (some 22) (.mov (.t 21)),
   .andor 26 false 7 22 [.op (some 23) (.mov (.t 4)), .op (some 24) (.lenS (.t 23)), .op (some 25) (.bin .gtr (.t 24) (.k (.int .i64 10)))] (.t 25)])
  (.keep [1, 3, 4, 26] (.cond (.t 26)
  (.seq (.ops [.op (some 2) (.mov (.k (.bool false)))])
   (.keep [2] (.ret)))
  (.skip))))
 (.keep [1, 3, 4] (.seq (.seq (.ops [.op (some 6) (.mov (.k (.int .i64 0)))])
  (.keep [1, 3, 4, 6] (.block 0 (.loop (.seq (.seq (.ops [.op (some 27) (.mov (.t 6)),
     .op (some 28) (.mov (.t 3)),
     .op (some 29) (.lenS (.t 28)),
     .op (some 30) (.bin .lss (.t 27) (.t 29))])
   (.keep [1, 3, 4, 6, 30] (.cond (.t 30)
    (.skip)
    (.exit 0))))
   (.keep [1, 3, 4, 6] (.seq (.block 1 (.seq (.draw [.op (some 33) (.mov (.t 3)),
     .op (some 34) (.mov (.t 6)),
     .op (some 35) (.iadr 2 (.t 33) (.t 34)),
     .op (some 36) (.iadrA 1 2 (.t 35) (.k (.int .i64 0))),
     .op (some 37) (.load1 (.t 36)),
     .call (some 38) 31 [.t 37, .k (.int .i64 0), .k (.int .i64 7)],
     .op (some 39) (.not (.t 38)),
     .op (some 40) (.mov (.t 39)),
     .andor 51 false 7 40 [.op (some 41) (.mov (.t 3)), .op (some 42) (.mov (.t 6)), .op (some 43) (.iadr 2 (.t 41) (.t 42)), .op (some 44) (.iadrA 1 2 (.t 43) (.k (.int .i64 1))), .op (some 45) (.load1 (.t 44)), .op (some 46) (.fadr (.t 1) 1), .op (some 47) (.load1 (.t 46)), .op (some 48) (.bin .sub (.t 47) (.k (.int .i64 1))), .call (some 49) 31 [.t 45, .k (.int .i64 1), .t 48], .op (some 50) (.not (.t 49))] (.t 50),
     .op (some 52) (.mov (.t 51)),
     .andor 69 false 19 52 [.op (some 53) (.mov (.t 6)), .op (some 54) (.bin .gtr (.t 53) (.k (.int .i64 0))), .op (some 55) (.mov (.t 54)), .andor 68 true 22 55 [.op (some 56) (.mov (.t 3)), .op (some 57) (.mov (.t 6)), .op (some 58) (.bin .sub (.t 57) (.k (.int .i64 1))), .op (some 59) (.iadr 2 (.t 56) (.t 58)), .op (some 60) (.iadrA 1 2 (.t 59) (.k (.int .i64 0))), .op (some 61) (.load1 (.t 60)), .op (some 62) (.mov (.t 3)), .op (some 63) (.mov (.t 6)), .op (some 64) (.iadr 2 (.t 62) (.t 63)), .op (some 65) (.iadrA 1 2 (.t 64) (.k (.int .i64 0))), .op (some 66) (.load1 (.t 65)), .op (some 67) (.bin .geq (.t 61) (.t 66))] (.t 67)] (.t 68)])
    (.keep [1, 3, 4, 6, 69] (.cond (.t 69)
    (.seq (.ops [.op (some 2) (.mov (.k (.bool false)))])
     (.keep [2] (.ret)))
    (.skip)))))
   (.keep [1, 3, 4, 6] (.ops [.op (some 31) (.mov (.t 6)),
    .op (some 32) (.bin .add (.t 31) (.k (.int .i64 1))),
    .op (some 6) (.mov (.t 32))])))))))))
 (.keep [1, 4] (.seq (.seq (.ops [.op (some 7) (.mov (.k (.int .i64 0)))])
  (.keep [1, 4, 7] (.block 2 (.loop (.seq (.seq (.ops [.op (some 70) (.mov (.t 7)),
     .op (some 71) (.mov (.t 4)),
     .op (some 72) (.lenS (.t 71)),
     .op (some 73) (.bin .lss (.t 70) (.t 72))])
   (.keep [1, 4, 7, 73] (.cond (.t 73)
    (.skip)
    (.exit 2))))
   (.keep [1, 4, 7] (.seq (.block 3 (.seq (.draw [.op (some 76) (.mov (.t 4)),
     .op (some 77) (.mov (.t 7)),
     .op (some 78) (.iadr 2 (.t 76) (.t 77)),
     .op (some 79) (.iadrA 1 2 (.t 78) (.k (.int .i64 0))),
     .op (some 80) (.load1 (.t 79)),
     .call (some 81) 31 [.t 80, .k (.int .i64 1), .k (.int .i64 60)],
     .op (some 82) (.not (.t 81)),
     .op (some 83) (.mov (.t 82)),
     .andor 94 false 7 83 [.op (some 84) (.mov (.t 4)), .op (some 85) (.mov (.t 7)), .op (some 86) (.iadr 2 (.t 84) (.t 85)), .op (some 87) (.iadrA 1 2 (.t 86) (.k (.int .i64 1))), .op (some 88) (.load1 (.t 87)), .op (some 89) (.fadr (.t 1) 1), .op (some 90) (.load1 (.t 89)), .op (some 91) (.bin .sub (.t 90) (.k (.int .i64 1))), .call (some 92) 31 [.t 88, .k (.int .i64 1), .t 91], .op (some 93) (.not (.t 92))] (.t 93),
     .op (some 95) (.mov (.t 94)),
     .andor 112 false 19 95 [.op (some 96) (.mov (.t 7)), .op (some 97) (.bin .gtr (.t 96) (.k (.int .i64 0))), .op (some 98) (.mov (.t 97)), .andor 111 true 22 98 [.op (some 99) (.mov (.t 4)), .op (some 100) (.mov (.t 7)), .op (some 101) (.bin .sub (.t 100) (.k (.int .i64 1))), .op (some 102) (.iadr 2 (.t 99) (.t 101)), .op (some 103) (.iadrA 1 2 (.t 102) (.k (.int .i64 0))), .op (some 104) (.load1 (.t 103)), .op (some 105) (.mov (.t 4)), .op (some 106) (.mov (.t 7)), .op (some 107) (.iadr 2 (.t 105) (.t 106)), .op (some 108) (.iadrA 1 2 (.t 107) (.k (.int .i64 0))), .op (some 109) (.load1 (.t 108)), .op (some 110) (.bin .geq (.t 104) (.t 109))] (.t 110)] (.t 111)])
    (.keep [1, 4, 7, 112] (.cond (.t 112)
    (.seq (.ops [.op (some 2) (.mov (.k (.bool false)))])
     (.keep [2] (.ret)))
    (.skip)))))
   (.keep [1, 4, 7] (.ops [.op (some 74) (.mov (.t 7)),
    .op (some 75) (.bin .add (.t 74) (.k (.int .i64 1))),
    .op (some 7) (.mov (.t 75))])))))))))
 (.keep [] (.seq (.ops [.op (some 2) (.mov (.k (.bool true)))])
 (.keep [2] (.ret))))))))))))
theorem k_c_l04CheckOK_fits : fitsF Tryz.prog 124 ⟨113, k_c_l04CheckOK, [.t 2]⟩ = true := by kernel_rfl
set_option maxHeartbeats 4000000 in
theorem c_l04CheckOK {x : GLogRecord} (hl : x.After.length ≤ 1048576) (hm : 1 ≤ x.Lsn ∧ x.Lsn ≤ 60) : Con Tryz.prog noMv 124 [x.av] [] (fun r h => r = bool (checkOK x.After x.Lsn) ∧ h = []) := by
 refine con_of2 k_c_l04CheckOK_fits rfl fun C hP hmv => ?_
 unfold k_c_l04CheckOK
 refine cx_seq (cx_ops ?_)
 refine ax_e (e_box rfl rfl (by decide) rfl rfl rfl) ?_
 refine ax_q (q_mov rfl) ?_
 refine ax_nil (cx_keep rfl rfl (cx_seq (cx_ops ?_)))
 refine ax_q (q_fadr_ptr rfl) ?_
 refine ax_q (q_load1_ptr rfl rfl rfl) ?_
 refine ax_call rfl (vc_pure0 (c_l04ReadCheck (t := x.After) ?_) hP rfl rfl ?_)
 ·
  assumption
 have hl12 := @readX_len x.After
 refine ax_q (q_mov rfl) ?_
 refine ax_q (q_ext rfl rfl) ?_
 refine ax_q (q_ext rfl rfl) ?_
 refine ax_q (q_ext rfl rfl) ?_
 refine ax_q (q_mov rfl) ?_
 refine ax_q (q_mov rfl) ?_
 refine ax_q (q_mov rfl) ?_
 refine ax_nil (cx_keep rfl rfl (cx_seq (cx_seq (cx_ops ?_))))
 refine ax_q (q_mov rfl) ?_
 refine ax_q (q_not rfl) ?_
 refine ax_q (q_mov rfl) ?_
 apply ax_or rfl rfl
 ·
  intro g
  have g := bF g
  refine ax_q (q_mov rfl) ?_
  refine ax_q (q_lenS_map rfl) ?_
  refine ax_q (q_ibin rfl rfl rfl) ?_
  exact ax_nil ⟨rfl, by repeat constructor⟩
 refine ax_q (q_mov rfl) ?_
 apply ax_or rfl rfl
 ·
  intro g
  have g := (fun h => And.intro (bF (or_F h).1) (dF (or_F h).2)) g
  refine ax_q (q_mov rfl) ?_
  refine ax_q (q_lenS_map rfl) ?_
  refine ax_q (q_ibin rfl rfl rfl) ?_
  exact ax_nil ⟨rfl, by repeat constructor⟩
 refine ax_nil (cx_keep rfl rfl ?_)
 refine cx_cond rfl (fun h0 => ?_) (fun h0 => ?_)
 ·
  have h0 : badX (readX x.After) = true := h0
  refine cx_seq (cx_ops ?_)
  refine ax_q (q_mov rfl) ?_
  refine ax_nil (cx_keep rfl rfl ?_)
  refine cx_ret (ret0 rfl rfl ?_)
  exact ⟨by rw [checkX, h0]; rfl, rfl⟩
 ·
  have h0 : badX (readX x.After) = false := h0
  refine cx_skip ?_
  refine cx_keep rfl rfl (cx_seq (cx_seq (cx_ops ?_)))
  refine ax_q (q_mov rfl) ?_
  refine ax_nil (cx_keep rfl rfl (cx_block ?_))
  refine cx_loopU (fun m k => k ≤ (readX x.After).1.length ∧ m = (readX x.After).1.length - k ∧ checkOK x.After x.Lsn = (okL 7 x.Lsn ((readX x.After).1.drop k) (prevP (readX x.After).1 (-1) k) && okL 60 x.Lsn (readX x.After).2.1 0)) (fun k : Nat => [(6, int k)]) (fun _ => [(1, .box (x.row.map .d))]) ⟨_, 0, ⟨Nat.zero_le _, rfl, by rw [checkX, h0]; rfl⟩, by repeat constructor⟩ ?_
  rintro m k ⟨hk, rfl, hc⟩
  refine cx_seq (cx_seq (cx_ops ?_))
  refine ax_q (q_mov rfl) ?_
  refine ax_q (q_mov rfl) ?_
  refine ax_q (q_lenS_map rfl) ?_
  refine ax_q (q_ibin rfl rfl rfl) ?_
  refine ax_nil (cx_keep rfl rfl ?_)
  refine cx_cond rfl (fun h1 => ?_) (fun h1 => ?_)
  ·
   have h1 := dT h1
   have hkx : k < (readX x.After).1.length := by omega
   refine cx_skip ?_
   refine cx_keep rfl rfl (cx_seq (cx_block (cx_seq (cx_draw ?_))))
   refine ax_q (q_mov rfl) ?_
   refine ax_q (q_mov rfl) ?_
   refine ax_q (q_ix rfl rfl (mapAt hkx)) ?_
   refine ax_q (q_iadrI rfl rfl (by decide) (by decide)) ?_
   first | refine ax_q (q_load1_ptr rfl rfl rfl) ?_ | refine ax_q (q_load1_ip rfl) ?_
   refine ax_callq rfl (c_l01In  ) hP (lal_id _ rfl) rfl ?_
   refine ax_q (q_not rfl) ?_
   refine ax_q (q_mov rfl) ?_
   apply ax_or rfl rfl
   ·
    intro g
    have g := bF g
    refine ax_q (q_mov rfl) ?_
    refine ax_q (q_mov rfl) ?_
    refine ax_q (q_ix rfl rfl (mapAt hkx)) ?_
    refine ax_q (q_iadrI rfl rfl (by decide) (by decide)) ?_
    first | refine ax_q (q_load1_ptr rfl rfl rfl) ?_ | refine ax_q (q_load1_ip rfl) ?_
    refine ax_q (q_fadr_ptr rfl) ?_
    refine ax_q (q_load1_ptr rfl rfl rfl) ?_
    refine ax_qe (r' := int (x.Lsn - 1)) (q_ibin rfl rfl rfl) (by rw [wi (by omega) (by omega)]) ?_
    refine ax_callq rfl (c_l01In  ) hP (lal_id _ rfl) rfl ?_
    refine ax_q (q_not rfl) ?_
    exact ax_nil ⟨rfl, by repeat constructor⟩
   refine ax_q (q_mov rfl) ?_
   apply ax_or rfl rfl
   ·
    intro g
    have g := (fun h => And.intro (bF (or_F h).1) (bF (or_F h).2)) g
    refine ax_q (q_mov rfl) ?_
    refine ax_q (q_ibin rfl rfl rfl) ?_
    refine ax_q (q_mov rfl) ?_
    apply ax_and rfl rfl
    ·
     intro g
     have g := dT g
     refine ax_q (q_mov rfl) ?_
     refine ax_q (q_mov rfl) ?_
     refine ax_qe (r' := int ((k - 1 : Nat) : Int)) (q_ibin rfl rfl rfl) (by rw [wi (by omega) (by omega)]; exact congrArg AM.int (by omega)) ?_
     refine ax_q (q_ix rfl rfl (mapAt (Nat.lt_of_le_of_lt (Nat.sub_le k 1) hkx))) ?_
     refine ax_q (q_iadrI rfl rfl (by decide) (by decide)) ?_
     first | refine ax_q (q_load1_ptr rfl rfl rfl) ?_ | refine ax_q (q_load1_ip rfl) ?_
     refine ax_q (q_mov rfl) ?_
     refine ax_q (q_mov rfl) ?_
     refine ax_q (q_ix rfl rfl (mapAt hkx)) ?_
     refine ax_q (q_iadrI rfl rfl (by decide) (by decide)) ?_
     first | refine ax_q (q_load1_ptr rfl rfl rfl) ?_ | refine ax_q (q_load1_ip rfl) ?_
     refine ax_q (q_ibin rfl rfl rfl) ?_
     exact ax_nil ⟨rfl, by repeat constructor⟩
    exact ax_nil ⟨rfl, by repeat constructor⟩
   refine ax_nil (cx_keep rfl rfl ?_)
   refine cx_cond rfl (fun h2 => ?_) (fun h2 => ?_)
   ·
    have h2 : badPr 0 7 x.Lsn (readX x.After).1 k hkx = true := h2
    refine cx_seq (cx_ops ?_)
    refine ax_q (q_mov rfl) ?_
    refine ax_nil (cx_keep rfl rfl ?_)
    refine cx_ret (ret0 rfl rfl ?_)
    exact ⟨by rw [hc, okL_step hkx (by decide), show badPr ((-1) + 1) 7 x.Lsn (readX x.After).1 k hkx = true from h2]; rfl, rfl⟩
   ·
    have h2 : badPr 0 7 x.Lsn (readX x.After).1 k hkx = false := h2
    refine cx_skip ?_
    refine cx_keep rfl rfl (cx_ops ?_)
    refine ax_q (q_mov rfl) ?_
    refine ax_qe (r' := int ((k + 1 : Nat) : Int)) (q_ibin rfl rfl rfl) (by rw [wi (by omega) (by omega)]; rfl) ?_
    refine ax_q (q_mov rfl) ?_
    refine ax_nil ?_
    exact ⟨_, k + 1, by omega, ⟨by omega, rfl, by rw [hc, okL_step hkx (by decide), show badPr ((-1) + 1) 7 x.Lsn (readX x.After).1 k hkx = false from h2, Bool.not_false, Bool.true_and]⟩, by repeat constructor⟩
  ·
   have h1 := dF h1
   obtain rfl : k = (readX x.After).1.length := by omega
   refine cx_exit rfl ?_
   refine cx_keep rfl rfl (cx_seq (cx_seq (cx_ops ?_)))
   refine ax_q (q_mov rfl) ?_
   refine ax_nil (cx_keep rfl rfl (cx_block ?_))
   refine cx_loopU (fun m k => k ≤ (readX x.After).2.1.length ∧ m = (readX x.After).2.1.length - k ∧ checkOK x.After x.Lsn = (okL 60 x.Lsn ((readX x.After).2.1.drop k) (prevP (readX x.After).2.1 0 k))) (fun k : Nat => [(7, int k)]) (fun _ => [(1, .box (x.row.map .d))]) ⟨_, 0, ⟨Nat.zero_le _, rfl, by rw [hc, okL_end]; rfl⟩, by repeat constructor⟩ ?_
   rintro m k ⟨hk, rfl, hc⟩
   refine cx_seq (cx_seq (cx_ops ?_))
   refine ax_q (q_mov rfl) ?_
   refine ax_q (q_mov rfl) ?_
   refine ax_q (q_lenS_map rfl) ?_
   refine ax_q (q_ibin rfl rfl rfl) ?_
   refine ax_nil (cx_keep rfl rfl ?_)
   refine cx_cond rfl (fun h3 => ?_) (fun h3 => ?_)
   ·
    have h3 := dT h3
    have hkx : k < (readX x.After).2.1.length := by omega
    refine cx_skip ?_
    refine cx_keep rfl rfl (cx_seq (cx_block (cx_seq (cx_draw ?_))))
    refine ax_q (q_mov rfl) ?_
    refine ax_q (q_mov rfl) ?_
    refine ax_q (q_ix rfl rfl (mapAt hkx)) ?_
    refine ax_q (q_iadrI rfl rfl (by decide) (by decide)) ?_
    first | refine ax_q (q_load1_ptr rfl rfl rfl) ?_ | refine ax_q (q_load1_ip rfl) ?_
    refine ax_callq rfl (c_l01In  ) hP (lal_id _ rfl) rfl ?_
    refine ax_q (q_not rfl) ?_
    refine ax_q (q_mov rfl) ?_
    apply ax_or rfl rfl
    ·
     intro g
     have g := bF g
     refine ax_q (q_mov rfl) ?_
     refine ax_q (q_mov rfl) ?_
     refine ax_q (q_ix rfl rfl (mapAt hkx)) ?_
     refine ax_q (q_iadrI rfl rfl (by decide) (by decide)) ?_
     first | refine ax_q (q_load1_ptr rfl rfl rfl) ?_ | refine ax_q (q_load1_ip rfl) ?_
     refine ax_q (q_fadr_ptr rfl) ?_
     refine ax_q (q_load1_ptr rfl rfl rfl) ?_
     refine ax_qe (r' := int (x.Lsn - 1)) (q_ibin rfl rfl rfl) (by rw [wi (by omega) (by omega)]) ?_
     refine ax_callq rfl (c_l01In  ) hP (lal_id _ rfl) rfl ?_
     refine ax_q (q_not rfl) ?_
     exact ax_nil ⟨rfl, by repeat constructor⟩
    refine ax_q (q_mov rfl) ?_
    apply ax_or rfl rfl
    ·
     intro g
     have g := (fun h => And.intro (bF (or_F h).1) (bF (or_F h).2)) g
     refine ax_q (q_mov rfl) ?_
     refine ax_q (q_ibin rfl rfl rfl) ?_
     refine ax_q (q_mov rfl) ?_
     apply ax_and rfl rfl
     ·
      intro g
      have g := dT g
      refine ax_q (q_mov rfl) ?_
      refine ax_q (q_mov rfl) ?_
      refine ax_qe (r' := int ((k - 1 : Nat) : Int)) (q_ibin rfl rfl rfl) (by rw [wi (by omega) (by omega)]; exact congrArg AM.int (by omega)) ?_
      refine ax_q (q_ix rfl rfl (mapAt (Nat.lt_of_le_of_lt (Nat.sub_le k 1) hkx))) ?_
      refine ax_q (q_iadrI rfl rfl (by decide) (by decide)) ?_
      first | refine ax_q (q_load1_ptr rfl rfl rfl) ?_ | refine ax_q (q_load1_ip rfl) ?_
      refine ax_q (q_mov rfl) ?_
      refine ax_q (q_mov rfl) ?_
      refine ax_q (q_ix rfl rfl (mapAt hkx)) ?_
      refine ax_q (q_iadrI rfl rfl (by decide) (by decide)) ?_
      first | refine ax_q (q_load1_ptr rfl rfl rfl) ?_ | refine ax_q (q_load1_ip rfl) ?_
      refine ax_q (q_ibin rfl rfl rfl) ?_
      exact ax_nil ⟨rfl, by repeat constructor⟩
     exact ax_nil ⟨rfl, by repeat constructor⟩
    refine ax_nil (cx_keep rfl rfl ?_)
    refine cx_cond rfl (fun h4 => ?_) (fun h4 => ?_)
    ·
     have h4 : badPr 1 60 x.Lsn (readX x.After).2.1 k hkx = true := h4
     refine cx_seq (cx_ops ?_)
     refine ax_q (q_mov rfl) ?_
     refine ax_nil (cx_keep rfl rfl ?_)
     refine cx_ret (ret0 rfl rfl ?_)
     exact ⟨by rw [hc, okL_step hkx (by decide), show badPr (0 + 1) 60 x.Lsn (readX x.After).2.1 k hkx = true from h4]; rfl, rfl⟩
    ·
     have h4 : badPr 1 60 x.Lsn (readX x.After).2.1 k hkx = false := h4
     refine cx_skip ?_
     refine cx_keep rfl rfl (cx_ops ?_)
     refine ax_q (q_mov rfl) ?_
     refine ax_qe (r' := int ((k + 1 : Nat) : Int)) (q_ibin rfl rfl rfl) (by rw [wi (by omega) (by omega)]; rfl) ?_
     refine ax_q (q_mov rfl) ?_
     refine ax_nil ?_
     exact ⟨_, k + 1, by omega, ⟨by omega, rfl, by rw [hc, okL_step hkx (by decide), show badPr (0 + 1) 60 x.Lsn (readX x.After).2.1 k hkx = false from h4, Bool.not_false, Bool.true_and]⟩, by repeat constructor⟩
   ·
    have h3 := dF h3
    obtain rfl : k = (readX x.After).2.1.length := by omega
    refine cx_exit rfl ?_
    refine cx_keep rfl rfl (cx_seq (cx_ops ?_))
    refine ax_q (q_mov rfl) ?_
    refine ax_nil (cx_keep rfl rfl ?_)
    refine cx_ret (ret0 rfl rfl ?_)
    exact ⟨by rw [hc, okL_end]; rfl, rfl⟩


/- loop.example/g00332/spec.RecordOK -/
def k_c_sRecordOK : XCode :=
 .seq (.ops [.op (some 1) (.box (.t 0)),
   .op (some 2) (.mov (.k (.bool false)))])
 (.keep [1] (.seq (.seq (.ops [.op (some 4) (.fadr (.t 1) 0),
   .op (some 5) (.load1 (.t 4)),
   .call (some 6) 31 [.t 5, .k (.int .i64 1), .k (.int .i64 60)],
   .op (some 7) (.not (.t 6)),
   .op (some 8) (.mov (.t 7)),
   .andor 13 false 4 8 [.op (some 9) (.fadr (.t 1) 1), .op (some 10) (.load1 (.t 9)), .call (some 11) 31 [.t 10, .k (.int .i64 1), .k (.int .i64 60)], .op (some 12) (.not (.t 11))] (.t 12),
   .op (some 14) (.mov (.t 13)),
   .andor 19 false 10 14 [.op (some 15) (.fadr (.t 1) 3), .op (some 16) (.load1 (.t 15)), .call (some 17) 31 [.t 16, .k (.int .i64 1), .k (.int .i64 6)], .op (some 18) (.not (.t 17))] (.t 18),
   .op (some 20) (.mov (.t 19)),
   .andor 28 false 16 20 [.op (some 21) (.fadr (.t 1) 4), .op (some 22) (.load1 (.t 21)), .op (some 23) (.fadr (.t 1) 1), .op (some 24) (.load1 (.t 23)), .op (some 25) (.bin .sub (.t 24) (.k (.int .i64 1))), .call (some 26) 31 [.t 22, .k (.int .i64 0), .t 25], .op (some 27) (.not (.t 26))] (.t 27),
   .op (some 29) (.mov (.t 28)),
   .andor 37 false 25 29 [.op (some 30) (.fadr (.t 1) 5), .op (some 31) (.load1 (.t 30)), .op (some 32) (.fadr (.t 1) 1), .op (some 33) (.load1 (.t 32)), .op (some 34) (.bin .sub (.t 33) (.k (.int .i64 1))), .call (some 35) 31 [.t 31, .k (.int .i64 0), .t 34], .op (some 36) (.not (.t 35))] (.t 36),
   .op (some 38) (.mov (.t 37)),
   .andor 43 false 34 38 [.op (some 39) (.fadr (.t 1) 6), .op (some 40) (.load1 (.t 39)), .call (some 41) 31 [.t 40, .k (.int .i64 0), .k (.int .i64 7)], .op (some 42) (.not (.t 41))] (.t 42),
   .op (some 44) (.mov (.t 43)),
   .andor 49 false 40 44 [.op (some 45) (.fadr (.t 1) 7), .op (some 46) (.load1 (.t 45)), .call (some 47) 31 [.t 46, .k (.int .i64 0), .k (.int .i64 3)], .op (some 48) (.not (.t 47))] (.t 48),
   .op (some 50) (.mov (.t 49)),
   .andor 55 false 46 50 [.op (some 51) (.fadr (.t 1) 8), .op (some 52) (.load1 (.t 51)), .op (some 53) (.lenT (.t 52)), .op (some 54) (.bin .gtr (.t 53) (.k (.int .i64 30)))] (.t 54)])
  (.keep [1, 55] (.cond (.t 55)
  (.seq (.ops [.op (some 2) (.mov (.k (.bool false)))])
   (.keep [2] (.ret)))
  (.skip))))
 (.keep [1] (.seq (.seq (.ops [.op (some 56) (.fadr (.t 1) 3),
   .op (some 57) (.load1 (.t 56)),
   .op (some 58) (.bin .eql (.t 57) (.k (.int .i64 6)))])
  (.keep [1, 58] (.cond (.t 58)
  (.seq (.ops [.op (some 59) (.fadr (.t 1) 2),
    .op (some 60) (.load1 (.t 59)),
    .op (some 61) (.bin .eql (.t 60) (.k (.int .i64 0))),
    .op (some 62) (.mov (.t 61)),
    .andor 66 true 3 62 [.op (some 63) (.fadr (.t 1) 4), .op (some 64) (.load1 (.t 63)), .op (some 65) (.bin .eql (.t 64) (.k (.int .i64 0)))] (.t 65),
    .op (some 67) (.mov (.t 66)),
    .andor 71 true 8 67 [.op (some 68) (.fadr (.t 1) 5), .op (some 69) (.load1 (.t 68)), .op (some 70) (.bin .eql (.t 69) (.k (.int .i64 0)))] (.t 70),
    .op (some 72) (.mov (.t 71)),
    .andor 76 true 13 72 [.op (some 73) (.fadr (.t 1) 6), .op (some 74) (.load1 (.t 73)), .op (some 75) (.bin .eql (.t 74) (.k (.int .i64 0)))] (.t 75),
    .op (some 77) (.mov (.t 76)),
    .andor 81 true 18 77 [.op (some 78) (.fadr (.t 1) 7), .op (some 79) (.load1 (.t 78)), .op (some 80) (.bin .eql (.t 79) (.k (.int .i64 0)))] (.t 80),
    .op (some 82) (.mov (.t 81)),
    .andor 86 true 23 82 [.op (some 83) (.fadr (.t 1) 8), .op (some 84) (.load1 (.t 83)), .op (some 85) (.bin .eql (.t 84) (.k (.str [])))] (.t 85),
    .op (some 87) (.mov (.t 86)),
    .andor 90 true 28 87 [.op (some 88) (.loadN 10 (.t 1)), .call (some 89) 124 [.t 88]] (.t 89),
    .op (some 2) (.mov (.t 90))])
   (.keep [2] (.ret)))
  (.skip))))
 (.keep [1] (.seq (.seq (.ops [.op (some 91) (.fadr (.t 1) 2),
   .op (some 92) (.load1 (.t 91)),
   .call (some 93) 31 [.t 92, .k (.int .i64 1), .k (.int .i64 60)],
   .op (some 94) (.not (.t 93)),
   .op (some 95) (.mov (.t 94)),
   .andor 100 false 4 95 [.op (some 96) (.fadr (.t 1) 9), .op (some 97) (.load1 (.t 96)), .op (some 98) (.lenT (.t 97)), .op (some 99) (.bin .gtr (.t 98) (.k (.int .i64 30)))] (.t 99)])
  (.keep [1, 100] (.cond (.t 100)
  (.seq (.ops [.op (some 2) (.mov (.k (.bool false)))])
   (.keep [2] (.ret)))
  (.skip))))
 (.keep [1] (.seq (.ops [.op (some 101) (.fadr (.t 1) 3),
   .op (some 102) (.load1 (.t 101)),
   .op (some 103) (.bin .eql (.t 102) (.k (.int .i64 2))),
   .op (some 104) (.mov (.t 103)),
   .andor 108 false 3 104 [.op (some 105) (.fadr (.t 1) 3), .op (some 106) (.load1 (.t 105)), .op (some 107) (.bin .eql (.t 106) (.k (.int .i64 3)))] (.t 107),
   .op (some 3) (.mov (.t 108))])
 (.keep [1, 3] (.seq (.seq (.ops [.op (some 109) (.mov (.t 3)),
   .op (some 110) (.not (.t 109)),
   .op (some 111) (.mov (.t 110)),
   .andor 130 true 2 111 [.op (some 112) (.fadr (.t 1) 6), .op (some 113) (.load1 (.t 112)), .op (some 114) (.bin .neq (.t 113) (.k (.int .i64 0))), .op (some 115) (.mov (.t 114)), .andor 119 false 6 115 [.op (some 116) (.fadr (.t 1) 7), .op (some 117) (.load1 (.t 116)), .op (some 118) (.bin .neq (.t 117) (.k (.int .i64 0)))] (.t 118), .op (some 120) (.mov (.t 119)), .andor 124 false 11 120 [.op (some 121) (.fadr (.t 1) 8), .op (some 122) (.load1 (.t 121)), .op (some 123) (.bin .neq (.t 122) (.k (.str [])))] (.t 123), .op (some 125) (.mov (.t 124)), .andor 129 false 16 125 [.op (some 126) (.fadr (.t 1) 9), .op (some 127) (.load1 (.t 126)), .op (some 128) (.bin .neq (.t 127) (.k (.str [])))] (.t 128)] (.t 129),
   .op (some 131) (.mov (.t 130)),
   .andor 140 false 22 131 [.op (some 132) (.fadr (.t 1) 3), .op (some 133) (.load1 (.t 132)), .op (some 134) (.bin .neq (.t 133) (.k (.int .i64 3))), .op (some 135) (.mov (.t 134)), .andor 139 true 26 135 [.op (some 136) (.fadr (.t 1) 5), .op (some 137) (.load1 (.t 136)), .op (some 138) (.bin .neq (.t 137) (.k (.int .i64 0)))] (.t 138)] (.t 139),
   .op (some 141) (.mov (.t 140)),
   .andor 150 false 32 141 [.op (some 142) (.fadr (.t 1) 3), .op (some 143) (.load1 (.t 142)), .op (some 144) (.bin .eql (.t 143) (.k (.int .i64 3))), .op (some 145) (.mov (.t 144)), .andor 149 true 36 145 [.op (some 146) (.fadr (.t 1) 8), .op (some 147) (.load1 (.t 146)), .op (some 148) (.bin .neq (.t 147) (.k (.str [])))] (.t 148)] (.t 149)])
  (.keep [1, 150] (.cond (.t 150)
  (.seq (.ops [.op (some 2) (.mov (.k (.bool false)))])
   (.keep [2] (.ret)))
  (.skip))))
 (.keep [1] (.seq (.ops [.op (some 151) (.fadr (.t 1) 3),
   .op (some 152) (.load1 (.t 151)),
   .op (some 153) (.bin .eql (.t 152) (.k (.int .i64 1))),
   .op (some 154) (.fadr (.t 1) 4),
   .op (some 155) (.load1 (.t 154)),
   .op (some 156) (.bin .eql (.t 155) (.k (.int .i64 0))),
   .op (some 157) (.eqb false (.t 153) (.t 156)),
   .op (some 2) (.mov (.t 157))])
 (.keep [2] (.ret))))))))))))))
theorem k_c_sRecordOK_fits : fitsF Tryz.prog 72 ⟨158, k_c_sRecordOK, [.t 2]⟩ = true := by kernel_rfl
set_option maxHeartbeats 4000000 in
theorem c_sRecordOK {x : GLogRecord} (hl : x.After.length ≤ 1048576) : Con Tryz.prog noMv 72 [x.av] [] (fun r h => r = bool (recOK x) ∧ h = []) := by
 refine con_of2 k_c_sRecordOK_fits rfl fun C hP hmv => ?_
 unfold k_c_sRecordOK
 refine cx_seq (cx_ops ?_)
 refine ax_e (e_box rfl rfl (by decide) rfl rfl rfl) ?_
 refine ax_q (q_mov rfl) ?_
 refine ax_nil (cx_keep rfl rfl (cx_seq (cx_seq (cx_ops ?_))))
 refine ax_q (q_fadr_ptr rfl) ?_
 refine ax_q (q_load1_ptr rfl rfl rfl) ?_
 refine ax_call rfl (vc_pure0 (c_l01In  ) hP rfl rfl ?_)
 refine ax_q (q_not rfl) ?_
 refine ax_q (q_mov rfl) ?_
 apply ax_or rfl rfl
 ·
  intro g
  have g := bF g
  refine ax_q (q_fadr_ptr rfl) ?_
  refine ax_q (q_load1_ptr rfl rfl rfl) ?_
  refine ax_call rfl (vc_pure0 (c_l01In  ) hP rfl rfl ?_)
  refine ax_q (q_not rfl) ?_
  exact ax_nil ⟨rfl, by repeat constructor⟩
 refine ax_q (q_mov rfl) ?_
 apply ax_or rfl rfl
 ·
  intro g
  have g := (fun h => And.intro (bF (or_F h).1) (bF (or_F h).2)) g
  refine ax_q (q_fadr_ptr rfl) ?_
  refine ax_q (q_load1_ptr rfl rfl rfl) ?_
  refine ax_call rfl (vc_pure0 (c_l01In  ) hP rfl rfl ?_)
  refine ax_q (q_not rfl) ?_
  exact ax_nil ⟨rfl, by repeat constructor⟩
 refine ax_q (q_mov rfl) ?_
 apply ax_or rfl rfl
 ·
  intro g
  have g := (fun h => And.intro ((fun h => And.intro (bF (or_F h).1) (bF (or_F h).2)) (or_F h).1) (bF (or_F h).2)) g
  refine ax_q (q_fadr_ptr rfl) ?_
  refine ax_q (q_load1_ptr rfl rfl rfl) ?_
  refine ax_q (q_fadr_ptr rfl) ?_
  refine ax_q (q_load1_ptr rfl rfl rfl) ?_
  refine ax_qe (r' := int (x.Lsn - 1)) (q_ibin rfl rfl rfl) (by have hL := inR_iff.1 g.1.2; rw [wi (by omega) (by omega)]) ?_
  refine ax_call rfl (vc_pure0 (c_l01In  ) hP rfl rfl ?_)
  refine ax_q (q_not rfl) ?_
  exact ax_nil ⟨rfl, by repeat constructor⟩
 refine ax_q (q_mov rfl) ?_
 apply ax_or rfl rfl
 ·
  intro g
  have g := (fun h => And.intro ((fun h => And.intro ((fun h => And.intro (bF (or_F h).1) (bF (or_F h).2)) (or_F h).1) (bF (or_F h).2)) (or_F h).1) (bF (or_F h).2)) g
  refine ax_q (q_fadr_ptr rfl) ?_
  refine ax_q (q_load1_ptr rfl rfl rfl) ?_
  refine ax_q (q_fadr_ptr rfl) ?_
  refine ax_q (q_load1_ptr rfl rfl rfl) ?_
  refine ax_qe (r' := int (x.Lsn - 1)) (q_ibin rfl rfl rfl) (by have hL := inR_iff.1 g.1.1.2; rw [wi (by omega) (by omega)]) ?_
  refine ax_call rfl (vc_pure0 (c_l01In  ) hP rfl rfl ?_)
  refine ax_q (q_not rfl) ?_
  exact ax_nil ⟨rfl, by repeat constructor⟩
 refine ax_q (q_mov rfl) ?_
 apply ax_or rfl rfl
 ·
  intro g
  have g := (fun h => And.intro ((fun h => And.intro ((fun h => And.intro ((fun h => And.intro (bF (or_F h).1) (bF (or_F h).2)) (or_F h).1) (bF (or_F h).2)) (or_F h).1) (bF (or_F h).2)) (or_F h).1) (bF (or_F h).2)) g
  refine ax_q (q_fadr_ptr rfl) ?_
  refine ax_q (q_load1_ptr rfl rfl rfl) ?_
  refine ax_call rfl (vc_pure0 (c_l01In  ) hP rfl rfl ?_)
  refine ax_q (q_not rfl) ?_
  exact ax_nil ⟨rfl, by repeat constructor⟩
 refine ax_q (q_mov rfl) ?_
 apply ax_or rfl rfl
 ·
  intro g
  have g := (fun h => And.intro ((fun h => And.intro ((fun h => And.intro ((fun h => And.intro ((fun h => And.intro (bF (or_F h).1) (bF (or_F h).2)) (or_F h).1) (bF (or_F h).2)) (or_F h).1) (bF (or_F h).2)) (or_F h).1) (bF (or_F h).2)) (or_F h).1) (bF (or_F h).2)) g
  refine ax_q (q_fadr_ptr rfl) ?_
  refine ax_q (q_load1_ptr rfl rfl rfl) ?_
  refine ax_call rfl (vc_pure0 (c_l01In  ) hP rfl rfl ?_)
  refine ax_q (q_not rfl) ?_
  exact ax_nil ⟨rfl, by repeat constructor⟩
 refine ax_q (q_mov rfl) ?_
 apply ax_or rfl rfl
 ·
  intro g
  have g := (fun h => And.intro ((fun h => And.intro ((fun h => And.intro ((fun h => And.intro ((fun h => And.intro ((fun h => And.intro (bF (or_F h).1) (bF (or_F h).2)) (or_F h).1) (bF (or_F h).2)) (or_F h).1) (bF (or_F h).2)) (or_F h).1) (bF (or_F h).2)) (or_F h).1) (bF (or_F h).2)) (or_F h).1) (bF (or_F h).2)) g
  refine ax_q (q_fadr_ptr rfl) ?_
  refine ax_q (q_load1_ptr rfl rfl rfl) ?_
  refine ax_q (q_lenT rfl) ?_
  refine ax_q (q_ibin rfl rfl rfl) ?_
  exact ax_nil ⟨rfl, by repeat constructor⟩
 refine ax_nil (cx_keep rfl rfl ?_)
 refine cx_cond rfl (fun h0 => ?_) (fun h0 => ?_)
 ·
  have h0 : badS0 x = true := h0
  refine cx_seq (cx_ops ?_)
  refine ax_q (q_mov rfl) ?_
  refine ax_nil (cx_keep rfl rfl ?_)
  refine cx_ret (ret0 rfl rfl ?_)
  exact ⟨by rw [recS_0 h0]; rfl, rfl⟩
 ·
  have h0 : badS0 x = false := h0
  refine cx_skip ?_
  refine cx_keep rfl rfl (cx_seq (cx_seq (cx_ops ?_)))
  refine ax_q (q_fadr_ptr rfl) ?_
  refine ax_q (q_load1_ptr rfl rfl rfl) ?_
  have hS := badS0_no.1 h0
  refine ax_q (q_ibin rfl rfl rfl) ?_
  refine ax_nil (cx_keep rfl rfl ?_)
  refine cx_cond rfl (fun h1 => ?_) (fun h1 => ?_)
  ·
   have h1 := dT h1
   refine cx_seq (cx_ops ?_)
   refine ax_q (q_fadr_ptr rfl) ?_
   refine ax_q (q_load1_ptr rfl rfl rfl) ?_
   refine ax_q (q_ibin rfl rfl rfl) ?_
   refine ax_q (q_mov rfl) ?_
   apply ax_and rfl rfl
   ·
    intro g
    have g := dT g
    refine ax_q (q_fadr_ptr rfl) ?_
    refine ax_q (q_load1_ptr rfl rfl rfl) ?_
    refine ax_q (q_ibin rfl rfl rfl) ?_
    exact ax_nil ⟨rfl, by repeat constructor⟩
   refine ax_q (q_mov rfl) ?_
   apply ax_and rfl rfl
   ·
    intro g
    have g := (fun h => And.intro (dT (and_T h).1) (dT (and_T h).2)) g
    refine ax_q (q_fadr_ptr rfl) ?_
    refine ax_q (q_load1_ptr rfl rfl rfl) ?_
    refine ax_q (q_ibin rfl rfl rfl) ?_
    exact ax_nil ⟨rfl, by repeat constructor⟩
   refine ax_q (q_mov rfl) ?_
   apply ax_and rfl rfl
   ·
    intro g
    have g := (fun h => And.intro ((fun h => And.intro (dT (and_T h).1) (dT (and_T h).2)) (and_T h).1) (dT (and_T h).2)) g
    refine ax_q (q_fadr_ptr rfl) ?_
    refine ax_q (q_load1_ptr rfl rfl rfl) ?_
    refine ax_q (q_ibin rfl rfl rfl) ?_
    exact ax_nil ⟨rfl, by repeat constructor⟩
   refine ax_q (q_mov rfl) ?_
   apply ax_and rfl rfl
   ·
    intro g
    have g := (fun h => And.intro ((fun h => And.intro ((fun h => And.intro (dT (and_T h).1) (dT (and_T h).2)) (and_T h).1) (dT (and_T h).2)) (and_T h).1) (dT (and_T h).2)) g
    refine ax_q (q_fadr_ptr rfl) ?_
    refine ax_q (q_load1_ptr rfl rfl rfl) ?_
    refine ax_q (q_ibin rfl rfl rfl) ?_
    exact ax_nil ⟨rfl, by repeat constructor⟩
   refine ax_q (q_mov rfl) ?_
   apply ax_and rfl rfl
   ·
    intro g
    have g := (fun h => And.intro ((fun h => And.intro ((fun h => And.intro ((fun h => And.intro (dT (and_T h).1) (dT (and_T h).2)) (and_T h).1) (dT (and_T h).2)) (and_T h).1) (dT (and_T h).2)) (and_T h).1) (dT (and_T h).2)) g
    refine ax_q (q_fadr_ptr rfl) ?_
    refine ax_q (q_load1_ptr rfl rfl rfl) ?_
    refine ax_q (q_sbin rfl rfl rfl) ?_
    exact ax_nil ⟨rfl, by repeat constructor⟩
   refine ax_q (q_mov rfl) ?_
   apply ax_and rfl rfl
   ·
    intro g
    have g := (fun h => And.intro ((fun h => And.intro ((fun h => And.intro ((fun h => And.intro ((fun h => And.intro (dT (and_T h).1) (dT (and_T h).2)) (and_T h).1) (dT (and_T h).2)) (and_T h).1) (dT (and_T h).2)) (and_T h).1) (dT (and_T h).2)) (and_T h).1) (dT (and_T h).2)) g
    refine ax_q (q_ldN rfl rfl rfl) ?_
    refine ax_call rfl (vc_pure0 (c_l04CheckOK (x := x) ?_ ?_) hP rfl rfl ?_)
    ·
     assumption
    ·
     exact hS.l
    exact ax_nil ⟨rfl, by repeat constructor⟩
   refine ax_q (q_mov rfl) ?_
   refine ax_nil (cx_keep rfl rfl ?_)
   refine cx_ret (ret0 rfl rfl ?_)
   exact ⟨congrArg AM.bool (recS_6 hS h1), rfl⟩
  ·
   have h1 := dF h1
   refine cx_skip ?_
   refine cx_keep rfl rfl (cx_seq (cx_seq (cx_ops ?_)))
   refine ax_q (q_fadr_ptr rfl) ?_
   refine ax_q (q_load1_ptr rfl rfl rfl) ?_
   refine ax_call rfl (vc_pure0 (c_l01In  ) hP rfl rfl ?_)
   refine ax_q (q_not rfl) ?_
   refine ax_q (q_mov rfl) ?_
   apply ax_or rfl rfl
   ·
    intro g
    have g := bF g
    refine ax_q (q_fadr_ptr rfl) ?_
    refine ax_q (q_load1_ptr rfl rfl rfl) ?_
    refine ax_q (q_lenT rfl) ?_
    refine ax_q (q_ibin rfl rfl rfl) ?_
    exact ax_nil ⟨rfl, by repeat constructor⟩
   refine ax_nil (cx_keep rfl rfl ?_)
   refine cx_cond rfl (fun h2 => ?_) (fun h2 => ?_)
   ·
    have h2 : badS2 x = true := h2
    refine cx_seq (cx_ops ?_)
    refine ax_q (q_mov rfl) ?_
    refine ax_nil (cx_keep rfl rfl ?_)
    refine cx_ret (ret0 rfl rfl ?_)
    exact ⟨by rw [recS_2 h1 h2]; rfl, rfl⟩
   ·
    have h2 : badS2 x = false := h2
    refine cx_skip ?_
    refine cx_keep rfl rfl (cx_seq (cx_ops ?_))
    refine ax_q (q_fadr_ptr rfl) ?_
    refine ax_q (q_load1_ptr rfl rfl rfl) ?_
    refine ax_q (q_ibin rfl rfl rfl) ?_
    refine ax_q (q_mov rfl) ?_
    apply ax_or rfl rfl
    ·
     intro g
     have g := dF g
     refine ax_q (q_fadr_ptr rfl) ?_
     refine ax_q (q_load1_ptr rfl rfl rfl) ?_
     refine ax_q (q_ibin rfl rfl rfl) ?_
     exact ax_nil ⟨rfl, by repeat constructor⟩
    refine ax_q (q_mov rfl) ?_
    refine ax_nil (cx_keep rfl rfl (cx_seq (cx_seq (cx_ops ?_))))
    refine ax_q (q_mov rfl) ?_
    refine ax_q (q_not rfl) ?_
    refine ax_q (q_mov rfl) ?_
    apply ax_and rfl rfl
    ·
     intro g
     have g := (fun h => (fun h => And.intro (dF (or_F h).1) (dF (or_F h).2)) (bT h)) g
     refine ax_q (q_fadr_ptr rfl) ?_
     refine ax_q (q_load1_ptr rfl rfl rfl) ?_
     refine ax_q (q_ibin rfl rfl rfl) ?_
     refine ax_q (q_mov rfl) ?_
     apply ax_or rfl rfl
     ·
      intro g
      have g := nF g
      refine ax_q (q_fadr_ptr rfl) ?_
      refine ax_q (q_load1_ptr rfl rfl rfl) ?_
      refine ax_q (q_ibin rfl rfl rfl) ?_
      exact ax_nil ⟨rfl, by repeat constructor⟩
     refine ax_q (q_mov rfl) ?_
     apply ax_or rfl rfl
     ·
      intro g
      have g := (fun h => And.intro (nF (or_F h).1) (nF (or_F h).2)) g
      refine ax_q (q_fadr_ptr rfl) ?_
      refine ax_q (q_load1_ptr rfl rfl rfl) ?_
      refine ax_q (q_sbin rfl rfl rfl) ?_
      exact ax_nil ⟨rfl, by repeat constructor⟩
     refine ax_q (q_mov rfl) ?_
     apply ax_or rfl rfl
     ·
      intro g
      have g := (fun h => And.intro ((fun h => And.intro (nF (or_F h).1) (nF (or_F h).2)) (or_F h).1) (nF (or_F h).2)) g
      refine ax_q (q_fadr_ptr rfl) ?_
      refine ax_q (q_load1_ptr rfl rfl rfl) ?_
      refine ax_q (q_sbin rfl rfl rfl) ?_
      exact ax_nil ⟨rfl, by repeat constructor⟩
     exact ax_nil ⟨rfl, by repeat constructor⟩
    refine ax_q (q_mov rfl) ?_
    apply ax_or rfl rfl
    ·
     intro g
     have g := (fun h => (and_F h).imp (fun h => (fun h => (or_T h).imp dT dT) (bF h)) (fun h => And.intro ((fun h => And.intro ((fun h => And.intro (nF (or_F h).1) (nF (or_F h).2)) (or_F h).1) (nF (or_F h).2)) (or_F h).1) (nF (or_F h).2))) g
     refine ax_q (q_fadr_ptr rfl) ?_
     refine ax_q (q_load1_ptr rfl rfl rfl) ?_
     refine ax_q (q_ibin rfl rfl rfl) ?_
     refine ax_q (q_mov rfl) ?_
     apply ax_and rfl rfl
     ·
      intro g
      have g := nT g
      refine ax_q (q_fadr_ptr rfl) ?_
      refine ax_q (q_load1_ptr rfl rfl rfl) ?_
      refine ax_q (q_ibin rfl rfl rfl) ?_
      exact ax_nil ⟨rfl, by repeat constructor⟩
     exact ax_nil ⟨rfl, by repeat constructor⟩
    refine ax_q (q_mov rfl) ?_
    apply ax_or rfl rfl
    ·
     intro g
     have g := (fun h => And.intro ((fun h => (and_F h).imp (fun h => (fun h => (or_T h).imp dT dT) (bF h)) (fun h => And.intro ((fun h => And.intro ((fun h => And.intro (nF (or_F h).1) (nF (or_F h).2)) (or_F h).1) (nF (or_F h).2)) (or_F h).1) (nF (or_F h).2))) (or_F h).1) ((fun h => (and_F h).imp nF nF) (or_F h).2)) g
     refine ax_q (q_fadr_ptr rfl) ?_
     refine ax_q (q_load1_ptr rfl rfl rfl) ?_
     refine ax_q (q_ibin rfl rfl rfl) ?_
     refine ax_q (q_mov rfl) ?_
     apply ax_and rfl rfl
     ·
      intro g
      have g := dT g
      refine ax_q (q_fadr_ptr rfl) ?_
      refine ax_q (q_load1_ptr rfl rfl rfl) ?_
      refine ax_q (q_sbin rfl rfl rfl) ?_
      exact ax_nil ⟨rfl, by repeat constructor⟩
     exact ax_nil ⟨rfl, by repeat constructor⟩
    refine ax_nil (cx_keep rfl rfl ?_)
    refine cx_cond rfl (fun h3 => ?_) (fun h3 => ?_)
    ·
     have h3 : badS3 x = true := h3
     refine cx_seq (cx_ops ?_)
     refine ax_q (q_mov rfl) ?_
     refine ax_nil (cx_keep rfl rfl ?_)
     refine cx_ret (ret0 rfl rfl ?_)
     exact ⟨by rw [recS_3 h1 h3]; rfl, rfl⟩
    ·
     have h3 : badS3 x = false := h3
     refine cx_skip ?_
     refine cx_keep rfl rfl (cx_seq (cx_ops ?_))
     refine ax_q (q_fadr_ptr rfl) ?_
     refine ax_q (q_load1_ptr rfl rfl rfl) ?_
     refine ax_q (q_ibin rfl rfl rfl) ?_
     refine ax_q (q_fadr_ptr rfl) ?_
     refine ax_q (q_load1_ptr rfl rfl rfl) ?_
     refine ax_q (q_ibin rfl rfl rfl) ?_
     refine ax_q (q_eqb rfl rfl) ?_
     refine ax_q (q_mov rfl) ?_
     refine ax_nil (cx_keep rfl rfl ?_)
     refine cx_ret (ret0 rfl rfl ?_)
     exact ⟨congrArg AM.bool (recS_4 hS h1 h2 h3), rfl⟩


/- loop.example/g00332/spec.StoreOK -/
def k_c_sStoreOK : XCode :=
 .seq (.ops [.op (some 1) (.box (.t 0)),
   .op (some 2) (.mov (.k (.bool false)))])
 (.keep [1] (.seq (.seq (.ops [.op (some 10) (.fadr (.t 1) 0),
   .op (some 11) (.loadN 4 (.t 10)),
   .call (some 12) 71 [.t 11],
   .op (some 13) (.not (.t 12)),
   .op (some 14) (.mov (.t 13)),
   .andor 20 false 4 14 [.op (some 15) (.fadr (.t 1) 0), .op (some 16) (.fadr (.t 15) 0), .op (some 17) (.load1 (.t 16)), .op (some 18) (.lenS (.t 17)), .op (some 19) (.bin .neq (.t 18) (.k (.int .i64 69)))] (.t 19),
   .op (some 21) (.mov (.t 20)),
   .andor 26 false 11 21 [.op (some 22) (.fadr (.t 1) 4), .op (some 23) (.load1 (.t 22)), .call (some 24) 31 [.t 23, .k (.int .i64 1), .k (.int .i64 60)], .op (some 25) (.not (.t 24))] (.t 25),
   .op (some 27) (.mov (.t 26)),
   .andor 32 false 17 27 [.op (some 28) (.fadr (.t 1) 5), .op (some 29) (.load1 (.t 28)), .op (some 30) (.lenS (.t 29)), .op (some 31) (.bin .gtr (.t 30) (.k (.int .i64 60)))] (.t 31),
   .op (some 33) (.mov (.t 32)),
   .andor 41 false 23 33 [.op (some 34) (.fadr (.t 1) 6), .op (some 35) (.load1 (.t 34)), .op (some 36) (.fadr (.t 1) 5), .op (some 37) (.load1 (.t 36)), .op (some 38) (.lenS (.t 37)), .call (some 39) 31 [.t 35, .k (.int .i64 0), .t 38], .op (some 40) (.not (.t 39))] (.t 40),
   .op (some 42) (.mov (.t 41)),
   .andor 47 false 32 42 [.op (some 43) (.fadr (.t 1) 7), .op (some 44) (.load1 (.t 43)), .op (some 45) (.lenS (.t 44)), .op (some 46) (.bin .gtr (.t 45) (.k (.int .i64 3)))] (.t 46),
   .op (some 48) (.mov (.t 47)),
   .andor 53 false 38 48 [.op (some 49) (.fadr (.t 1) 8), .op (some 50) (.load1 (.t 49)), .call (some 51) 31 [.t 50, .k (.int .i64 0), .k (.int .i64 2)], .op (some 52) (.not (.t 51))] (.t 52)])
  (.keep [1, 53] (.cond (.t 53)
  (.seq (.ops [.op (some 2) (.mov (.k (.bool false)))])
   (.keep [2] (.ret)))
  (.skip))))
 (.keep [1] (.seq (.seq (.ops [.op (some 3) (.mov (.k (.int .i64 0)))])
  (.keep [1, 3] (.block 0 (.loop (.seq (.seq (.ops [.op (some 54) (.mov (.t 3)),
     .op (some 55) (.fadr (.t 1) 5),
     .op (some 56) (.load1 (.t 55)),
     .op (some 57) (.lenS (.t 56)),
     .op (some 58) (.bin .lss (.t 54) (.t 57))])
   (.keep [1, 3, 58] (.cond (.t 58)
    (.skip)
    (.exit 0))))
   (.keep [1, 3] (.seq (.block 1 (.seq (.ops [.op (some 61) (.fadr (.t 1) 5),
     .op (some 62) (.load1 (.t 61)),
     .op (some 63) (.mov (.t 3)),
     .op (some 64) (.iadr 10 (.t 62) (.t 63)),
     .op (some 65) (.loadN 10 (.t 64)),
     .op (some 4) (.alloc [.int .i64 0, .int .i64 0, .int .i64 0, .int .i64 0, .int .i64 0, .int .i64 0, .int .i64 0, .int .i64 0, .str [], .str []]),
     .op none (.store 10 (.t 4) (.t 65))])
    (.keep [1, 3, 4] (.seq (.draw [.op (some 66) (.loadN 10 (.t 4)),
     .call (some 67) 72 [.t 66],
     .op (some 68) (.not (.t 67)),
     .op (some 69) (.mov (.t 68)),
     .andor 75 false 3 69 [.op (some 70) (.fadr (.t 4) 1), .op (some 71) (.load1 (.t 70)), .op (some 72) (.mov (.t 3)), .op (some 73) (.bin .add (.t 72) (.k (.int .i64 1))), .op (some 74) (.bin .neq (.t 71) (.t 73))] (.t 74),
     .op (some 76) (.mov (.t 75)),
     .andor 82 false 10 76 [.op (some 77) (.fadr (.t 4) 0), .op (some 78) (.load1 (.t 77)), .op (some 79) (.fadr (.t 1) 4), .op (some 80) (.load1 (.t 79)), .op (some 81) (.bin .gtr (.t 78) (.t 80))] (.t 81),
     .op (some 83) (.mov (.t 82)),
     .andor 98 false 17 83 [.op (some 84) (.mov (.t 3)), .op (some 85) (.bin .gtr (.t 84) (.k (.int .i64 0))), .op (some 86) (.mov (.t 85)), .andor 97 true 20 86 [.op (some 87) (.fadr (.t 1) 5), .op (some 88) (.load1 (.t 87)), .op (some 89) (.mov (.t 3)), .op (some 90) (.bin .sub (.t 89) (.k (.int .i64 1))), .op (some 91) (.iadr 10 (.t 88) (.t 90)), .op (some 92) (.fadr (.t 91) 0), .op (some 93) (.load1 (.t 92)), .op (some 94) (.fadr (.t 4) 0), .op (some 95) (.load1 (.t 94)), .op (some 96) (.bin .gtr (.t 93) (.t 95))] (.t 96)] (.t 97)])
    (.keep [1, 3, 98] (.cond (.t 98)
    (.seq (.ops [.op (some 2) (.mov (.k (.bool false)))])
     (.keep [2] (.ret)))
    (.skip)))))))
   (.keep [1, 3] (.ops [.op (some 59) (.mov (.t 3)),
    .op (some 60) (.bin .add (.t 59) (.k (.int .i64 1))),
    .op (some 3) (.mov (.t 60))])))))))))
 (.keep [1] (.seq (.seq (.ops [.op (some 5) (.mov (.k (.int .i64 0)))])
  (.keep [1, 5] (.block 2 (.loop (.seq (.seq (.ops [.op (some 99) (.mov (.t 5)),
     .op (some 100) (.fadr (.t 1) 7),
     .op (some 101) (.load1 (.t 100)),
     .op (some 102) (.lenS (.t 101)),
     .op (some 103) (.bin .lss (.t 99) (.t 102))])
   (.keep [1, 5, 103] (.cond (.t 103)
    (.skip)
    (.exit 2))))
   (.keep [1, 5] (.seq (.block 3 (.seq (.ops [.op (some 106) (.fadr (.t 1) 7),
     .op (some 107) (.load1 (.t 106)),
     .op (some 108) (.mov (.t 5)),
     .op (some 109) (.iadr 5 (.t 107) (.t 108)),
     .op (some 110) (.loadN 5 (.t 109)),
     .op (some 6) (.alloc [.int .i64 0, .int .i64 0, .nils 1, .bool false, .int .i64 0]),
     .op none (.store 5 (.t 6) (.t 110))])
    (.keep [1, 5, 6] (.seq (.ops [.op (some 111) (.fadr (.t 6) 0),
     .op (some 112) (.load1 (.t 111)),
     .call (some 113) 31 [.t 112, .k (.int .i64 0), .k (.int .i64 7)],
     .op (some 114) (.not (.t 113)),
     .op (some 115) (.mov (.t 114)),
     .andor 120 false 4 115 [.op (some 116) (.fadr (.t 6) 1), .op (some 117) (.loadN 2 (.t 116)), .call (some 118) 73 [.t 117], .op (some 119) (.not (.t 118))] (.t 119),
     .op (some 121) (.mov (.t 120)),
     .andor 129 false 10 121 [.op (some 122) (.fadr (.t 6) 1), .op (some 123) (.fadr (.t 122) 0), .op (some 124) (.load1 (.t 123)), .op (some 125) (.fadr (.t 1) 5), .op (some 126) (.load1 (.t 125)), .op (some 127) (.lenS (.t 126)), .op (some 128) (.bin .gtr (.t 124) (.t 127))] (.t 128),
     .op (some 130) (.mov (.t 129)),
     .andor 138 false 19 130 [.op (some 131) (.fadr (.t 6) 4), .op (some 132) (.load1 (.t 131)), .op (some 133) (.fadr (.t 1) 5), .op (some 134) (.load1 (.t 133)), .op (some 135) (.lenS (.t 134)), .call (some 136) 31 [.t 132, .k (.int .i64 0), .t 135], .op (some 137) (.not (.t 136))] (.t 137),
     .op (some 139) (.mov (.t 138)),
     .andor 146 false 28 139 [.op (some 140) (.fadr (.t 6) 3), .op (some 141) (.load1 (.t 140)), .op (some 142) (.fadr (.t 6) 4), .op (some 143) (.load1 (.t 142)), .op (some 144) (.bin .gtr (.t 143) (.k (.int .i64 0))), .op (some 145) (.eqb true (.t 141) (.t 144))] (.t 145),
     .op (some 147) (.mov (.t 146)),
     .andor 154 false 36 147 [.op (some 148) (.loadN 9 (.t 1)), .op (some 149) (.fadr (.t 6) 0), .op (some 150) (.load1 (.t 149)), .call (some 151) 48 [.t 148, .t 150], .op (some 152) (.mov (.t 5)), .op (some 153) (.bin .neq (.t 151) (.t 152))] (.t 153)])
    (.keep [1, 5, 154] (.cond (.t 154)
    (.seq (.ops [.op (some 2) (.mov (.k (.bool false)))])
     (.keep [2] (.ret)))
    (.skip)))))))
   (.keep [1, 5] (.ops [.op (some 104) (.mov (.t 5)),
    .op (some 105) (.bin .add (.t 104) (.k (.int .i64 1))),
    .op (some 5) (.mov (.t 105))])))))))))
 (.keep [1] (.seq (.seq (.ops [.op (some 7) (.mov (.k (.int .i64 0)))])
  (.keep [1, 7] (.block 4 (.loop (.seq (.seq (.ops [.op (some 155) (.mov (.t 7)),
     .op (some 156) (.bin .lss (.t 155) (.k (.int .i64 8)))])
   (.keep [1, 7, 156] (.cond (.t 156)
    (.skip)
    (.exit 4))))
   (.keep [1, 7] (.seq (.block 5 (.seq (.ops [.op (some 160) (.fadr (.t 1) 0),
     .op (some 161) (.loadN 4 (.t 160)),
     .op (some 162) (.mov (.t 7)),
     .call (some 163) 74 [.t 161, .t 162],
     .op (some 159) (.mov (.t 163)),
     .op (some 164) (.ext (.t 159) 0),
     .op (some 165) (.ext (.t 159) 1),
     .op (some 8) (.alloc [.int .i64 0, .nils 1]),
     .op none (.store 2 (.t 8) (.t 164)),
     .op (some 9) (.mov (.t 165))])
    (.keep [1, 7, 8, 9] (.seq (.ops [.op (some 166) (.mov (.t 9)),
     .op (some 167) (.not (.t 166)),
     .op (some 168) (.mov (.t 167)),
     .andor 174 false 2 168 [.op (some 169) (.fadr (.t 8) 0), .op (some 170) (.load1 (.t 169)), .op (some 171) (.fadr (.t 1) 6), .op (some 172) (.load1 (.t 171)), .op (some 173) (.bin .gtr (.t 170) (.t 172))] (.t 173)])
    (.keep [1, 7, 174] (.cond (.t 174)
    (.seq (.ops [.op (some 2) (.mov (.k (.bool false)))])
     (.keep [2] (.ret)))
    (.skip)))))))
   (.keep [1, 7] (.ops [.op (some 157) (.mov (.t 7)),
    .op (some 158) (.bin .add (.t 157) (.k (.int .i64 1))),
    .op (some 7) (.mov (.t 158))])))))))))
 (.keep [] (.seq (.ops [.op (some 2) (.mov (.k (.bool true)))])
 (.keep [2] (.ret))))))))))))
theorem k_c_sStoreOK_fits : fitsF Tryz.prog 30 ⟨175, k_c_sStoreOK, [.t 2]⟩ = true := by kernel_rfl
set_option maxHeartbeats 8000000 in
theorem c_sStoreOK {s : GStore} (hb0 : StB s) : Con Tryz.prog noMv 30 [s.av] [] (fun r h => r = bool (storeOK s) ∧ h = []) := by
 refine con_of2 k_c_sStoreOK_fits rfl fun C hP hmv => ?_
 unfold k_c_sStoreOK
 obtain ⟨hw0, hw1, hw2, hw3, hwa, hw4, hw5, hw6⟩ := id hb0
 refine cx_seq (cx_ops ?_)
 refine ax_e (e_box rfl rfl (by decide) rfl rfl rfl) ?_
 refine ax_q (q_mov rfl) ?_
 refine ax_nil (cx_keep rfl rfl (cx_seq (cx_seq (cx_ops ?_))))
 refine ax_q (q_fadr_ptr rfl) ?_
 refine ax_q (q_ldN rfl rfl rfl) ?_
 refine ax_call rfl (vc_pure0 (c_sDiskOK (d := s.Disk) ?_ ?_ ?_) hP rfl rfl ?_)
 ·
  assumption
 ·
  assumption
 ·
  assumption
 refine ax_q (q_not rfl) ?_
 refine ax_q (q_mov rfl) ?_
 apply ax_or rfl rfl
 ·
  intro g
  have g := bF g
  refine ax_q (q_fadr_ptr rfl) ?_
  refine ax_q (q_fadr_ptr rfl) ?_
  refine ax_q (q_load1_ptr rfl rfl rfl) ?_
  refine ax_q (q_lenS_map rfl) ?_
  refine ax_q (q_ibin rfl rfl rfl) ?_
  exact ax_nil ⟨rfl, by repeat constructor⟩
 refine ax_q (q_mov rfl) ?_
 apply ax_or rfl rfl
 ·
  intro g
  have g := (fun h => And.intro (bF (or_F h).1) (nF (or_F h).2)) g
  refine ax_q (q_fadr_ptr rfl) ?_
  refine ax_q (q_load1_ptr rfl rfl rfl) ?_
  refine ax_call rfl (vc_pure0 (c_l01In  ) hP rfl rfl ?_)
  refine ax_q (q_not rfl) ?_
  exact ax_nil ⟨rfl, by repeat constructor⟩
 refine ax_q (q_mov rfl) ?_
 apply ax_or rfl rfl
 ·
  intro g
  have g := (fun h => And.intro ((fun h => And.intro (bF (or_F h).1) (nF (or_F h).2)) (or_F h).1) (bF (or_F h).2)) g
  refine ax_q (q_fadr_ptr rfl) ?_
  refine ax_q (q_load1_ptr rfl rfl rfl) ?_
  refine ax_q (q_lenS_map rfl) ?_
  refine ax_q (q_ibin rfl rfl rfl) ?_
  exact ax_nil ⟨rfl, by repeat constructor⟩
 refine ax_q (q_mov rfl) ?_
 apply ax_or rfl rfl
 ·
  intro g
  have g := (fun h => And.intro ((fun h => And.intro ((fun h => And.intro (bF (or_F h).1) (nF (or_F h).2)) (or_F h).1) (bF (or_F h).2)) (or_F h).1) (dF (or_F h).2)) g
  refine ax_q (q_fadr_ptr rfl) ?_
  refine ax_q (q_load1_ptr rfl rfl rfl) ?_
  refine ax_q (q_fadr_ptr rfl) ?_
  refine ax_q (q_load1_ptr rfl rfl rfl) ?_
  refine ax_q (q_lenS_map rfl) ?_
  refine ax_call rfl (vc_pure0 (c_l01In  ) hP rfl rfl ?_)
  refine ax_q (q_not rfl) ?_
  exact ax_nil ⟨rfl, by repeat constructor⟩
 refine ax_q (q_mov rfl) ?_
 apply ax_or rfl rfl
 ·
  intro g
  have g := (fun h => And.intro ((fun h => And.intro ((fun h => And.intro ((fun h => And.intro (bF (or_F h).1) (nF (or_F h).2)) (or_F h).1) (bF (or_F h).2)) (or_F h).1) (dF (or_F h).2)) (or_F h).1) (bF (or_F h).2)) g
  refine ax_q (q_fadr_ptr rfl) ?_
  refine ax_q (q_load1_ptr rfl rfl rfl) ?_
  refine ax_q (q_lenS_map rfl) ?_
  refine ax_q (q_ibin rfl rfl rfl) ?_
  exact ax_nil ⟨rfl, by repeat constructor⟩
 refine ax_q (q_mov rfl) ?_
 apply ax_or rfl rfl
 ·
  intro g
  have g := (fun h => And.intro ((fun h => And.intro ((fun h => And.intro ((fun h => And.intro ((fun h => And.intro (bF (or_F h).1) (nF (or_F h).2)) (or_F h).1) (bF (or_F h).2)) (or_F h).1) (dF (or_F h).2)) (or_F h).1) (bF (or_F h).2)) (or_F h).1) (dF (or_F h).2)) g
  refine ax_q (q_fadr_ptr rfl) ?_
  refine ax_q (q_load1_ptr rfl rfl rfl) ?_
  refine ax_call rfl (vc_pure0 (c_l01In  ) hP rfl rfl ?_)
  refine ax_q (q_not rfl) ?_
  exact ax_nil ⟨rfl, by repeat constructor⟩
 refine ax_nil (cx_keep rfl rfl ?_)
 refine cx_cond rfl (fun h0 => ?_) (fun h0 => ?_)
 ·
  have h0 : badHd2 s = true := h0
  refine cx_seq (cx_ops ?_)
  refine ax_q (q_mov rfl) ?_
  refine ax_nil (cx_keep rfl rfl ?_)
  refine cx_ret (ret0 rfl rfl ?_)
  exact ⟨by rw [storeOK_h2 h0]; rfl, rfl⟩
 ·
  have h0 : badHd2 s = false := h0
  obtain ⟨HD, hf3, hh⟩ := hd2_of h0
  have hll := HD.lo
  have hsu := HD.su
  refine cx_skip ?_
  refine cx_keep rfl rfl (cx_seq (cx_seq (cx_ops ?_)))
  refine ax_q (q_mov rfl) ?_
  refine ax_nil (cx_keep rfl rfl (cx_block ?_))
  refine cx_loopU (fun n k => k ≤ s.Log.length ∧ n = s.Log.length - k ∧ epochsOK s.Epoch 1 s.Log = epochsOK s.Epoch (lowAt s.Log k) (s.Log.drop k) ∧ ∀ i (h : i < s.Log.length), i < k → recOK s.Log[i] = true ∧ s.Log[i].Lsn = ((i + 1 : Nat) : Int)) (fun k : Nat => [(3, int k)]) (fun _ => [(1, .box (s.row.map .d))]) ⟨_, 0, ⟨Nat.zero_le _, rfl, rfl, fun i h hi => by omega⟩, by repeat constructor⟩ ?_
  rintro n k ⟨hk, rfl, he, hr⟩
  refine cx_seq (cx_seq (cx_ops ?_))
  refine ax_q (q_mov rfl) ?_
  refine ax_q (q_fadr_ptr rfl) ?_
  refine ax_q (q_load1_ptr rfl rfl rfl) ?_
  refine ax_q (q_lenS_map rfl) ?_
  refine ax_q (q_ibin rfl rfl rfl) ?_
  refine ax_nil (cx_keep rfl rfl ?_)
  refine cx_cond rfl (fun h1 => ?_) (fun h1 => ?_)
  ·
   have h1 := dT h1
   have h1x : k < s.Log.length := by omega
   refine cx_skip ?_
   refine cx_keep rfl rfl (cx_seq (cx_block (cx_seq (cx_ops ?_))))
   refine ax_q (q_fadr_ptr rfl) ?_
   refine ax_q (q_load1_ptr rfl rfl rfl) ?_
   refine ax_q (q_mov rfl) ?_
   refine ax_q (q_ix rfl rfl (mapAt h1x)) ?_
   first | refine ax_q (q_ldN rfl rfl rfl) ?_ | refine ax_q (q_loadN_ip rfl (Nat.le_refl _)) ?_
   refine ax_e (e_alloc (by decide) rfl rfl) ?_
   refine ax_e (e_st rfl rfl rfl rfl rfl rfl rfl) ?_
   refine ax_nil (cx_keep rfl rfl (cx_seq (cx_draw ?_)))
   refine ax_q (q_ldN rfl rfl rfl) ?_
   refine ax_callq rfl (c_sRecordOK (x := s.Log[k]) ?_) hP (lal_id _ rfl) rfl ?_
   ·
    exact hb0.af k h1x
   refine ax_q (q_not rfl) ?_
   refine ax_q (q_mov rfl) ?_
   apply ax_or rfl rfl
   ·
    intro g
    have g := bF g
    refine ax_q (q_fadr_ptr rfl) ?_
    refine ax_q (q_load1_ptr rfl rfl rfl) ?_
    refine ax_q (q_mov rfl) ?_
    refine ax_qe (r' := int ((k + 1 : Nat) : Int)) (q_ibin rfl rfl rfl) (by rw [wi (by omega) (by omega)]; rfl) ?_
    refine ax_q (q_ibin rfl rfl rfl) ?_
    exact ax_nil ⟨rfl, by repeat constructor⟩
   refine ax_q (q_mov rfl) ?_
   apply ax_or rfl rfl
   ·
    intro g
    have g := (fun h => And.intro (bF (or_F h).1) (nF (or_F h).2)) g
    refine ax_q (q_fadr_ptr rfl) ?_
    refine ax_q (q_load1_ptr rfl rfl rfl) ?_
    refine ax_q (q_fadr_ptr rfl) ?_
    refine ax_q (q_load1_ptr rfl rfl rfl) ?_
    refine ax_q (q_ibin rfl rfl rfl) ?_
    exact ax_nil ⟨rfl, by repeat constructor⟩
   refine ax_q (q_mov rfl) ?_
   apply ax_or rfl rfl
   ·
    intro g
    have g := (fun h => And.intro ((fun h => And.intro (bF (or_F h).1) (nF (or_F h).2)) (or_F h).1) (dF (or_F h).2)) g
    refine ax_q (q_mov rfl) ?_
    refine ax_q (q_ibin rfl rfl rfl) ?_
    refine ax_q (q_mov rfl) ?_
    apply ax_and rfl rfl
    ·
     intro g
     have g := dT g
     refine ax_q (q_fadr_ptr rfl) ?_
     refine ax_q (q_load1_ptr rfl rfl rfl) ?_
     refine ax_q (q_mov rfl) ?_
     refine ax_qe (r' := int ((k - 1 : Nat) : Int)) (q_ibin rfl rfl rfl) (by rw [wi (by omega) (by omega)]; exact congrArg AM.int (by omega)) ?_
     refine ax_q (q_ix rfl rfl (mapAtZ (z := .zero) (by omega))) ?_
     first | refine ax_q (q_fadr_ptr rfl) ?_ | refine ax_q (q_fadr_rptr rfl) ?_ | refine ax_q (q_fadr_ip rfl) ?_
     first | refine ax_q (q_load1_ptr rfl rfl rfl) ?_ | refine ax_q (q_load1_ip rfl) ?_
     refine ax_q (q_fadr_ptr rfl) ?_
     refine ax_q (q_load1_ptr rfl rfl rfl) ?_
     refine ax_q (q_ibin rfl rfl rfl) ?_
     exact ax_nil ⟨rfl, by repeat constructor⟩
    exact ax_nil ⟨rfl, by repeat constructor⟩
   refine ax_nil (cx_keep rfl rfl ?_)
   refine cx_cond rfl (fun h2 => ?_) (fun h2 => ?_)
   ·
    have h2 : rec2Bad s k s.Log[k] (s.Log.getD (k - 1) .zero).Epoch = true := h2
    have hbad := rec2_t h1x he h2
    refine cx_seq (cx_ops ?_)
    refine ax_q (q_mov rfl) ?_
    refine ax_nil (cx_keep rfl rfl ?_)
    refine cx_ret (ret0 rfl rfl ?_)
    exact ⟨by rw [hbad]; rfl, rfl⟩
   ·
    have h2 : rec2Bad s k s.Log[k] (s.Log.getD (k - 1) .zero).Epoch = false := h2
    have hst := rec2_f h1x h2
    refine cx_skip ?_
    refine cx_keep rfl rfl (cx_ops ?_)
    refine ax_q (q_mov rfl) ?_
    refine ax_qe (r' := int ((k + 1 : Nat) : Int)) (q_ibin rfl rfl rfl) (by rw [wi (by omega) (by omega)]; rfl) ?_
    refine ax_q (q_mov rfl) ?_
    refine ax_nil ?_
    exact ⟨_, k + 1, by omega, ⟨by omega, rfl, by rw [he, epochs_step h1x, hst.2.2, Bool.true_and, lowAt_s h1x], fun i h hi => by
     rcases Nat.lt_succ_iff_lt_or_eq.1 hi with q | rfl
     ·
      exact hr i h q
     ·
      exact ⟨hst.1, hst.2.1⟩⟩, by repeat constructor⟩
  ·
   have h1 := dF h1
   obtain rfl : k = s.Log.length := by omega
   rw [epochs_end] at he
   have hg : goodA s.Log = true := goodA_iff.2 (fun i h => hr i h h)
   have h0g := badHd_f HD hg
   refine cx_exit rfl ?_
   refine cx_keep rfl rfl (cx_seq (cx_seq (cx_ops ?_)))
   refine ax_q (q_mov rfl) ?_
   refine ax_nil (cx_keep rfl rfl (cx_block ?_))
   refine cx_loopU (fun n k => k ≤ s.Frames.length ∧ n = s.Frames.length - k ∧ ∀ j (hj : j < s.Frames.length), j < k → frameBad s j s.Frames[j] = false) (fun k : Nat => [(5, int k)]) (fun _ => [(1, .box (s.row.map .d))]) ⟨_, 0, ⟨Nat.zero_le _, rfl, fun j _ hj => by omega⟩, by repeat constructor⟩ ?_
   rintro n k ⟨hk, rfl, hb⟩
   refine cx_seq (cx_seq (cx_ops ?_))
   refine ax_q (q_mov rfl) ?_
   refine ax_q (q_fadr_ptr rfl) ?_
   refine ax_q (q_load1_ptr rfl rfl rfl) ?_
   refine ax_q (q_lenS_map rfl) ?_
   refine ax_q (q_ibin rfl rfl rfl) ?_
   refine ax_nil (cx_keep rfl rfl ?_)
   refine cx_cond rfl (fun h3 => ?_) (fun h3 => ?_)
   ·
    have h3 := dT h3
    have h0x : k < s.Frames.length := by omega
    have hwk := hb0.sw _ (List.getElem_mem h0x)
    have hsk := hb0.sl _ (List.getElem_mem h0x)
    refine cx_skip ?_
    refine cx_keep rfl rfl (cx_seq (cx_block (cx_seq (cx_ops ?_))))
    refine ax_q (q_fadr_ptr rfl) ?_
    refine ax_q (q_load1_ptr rfl rfl rfl) ?_
    refine ax_q (q_mov rfl) ?_
    refine ax_q (q_ix rfl rfl (mapAt h0x)) ?_
    first | refine ax_q (q_ldN rfl rfl rfl) ?_ | refine ax_q (q_loadN_ip rfl (Nat.le_refl _)) ?_
    refine ax_e (e_alloc (by decide) rfl rfl) ?_
    refine ax_e (e_st rfl rfl rfl rfl rfl rfl rfl) ?_
    refine ax_nil (cx_keep rfl rfl (cx_seq (cx_ops ?_)))
    refine ax_q (q_fadr_ptr rfl) ?_
    refine ax_q (q_load1_ptr rfl rfl rfl) ?_
    refine ax_call rfl (vc_pure0 (c_l01In  ) hP rfl rfl ?_)
    refine ax_q (q_not rfl) ?_
    refine ax_q (q_mov rfl) ?_
    apply ax_or rfl rfl
    ·
     intro g
     have g := bF g
     refine ax_q (q_fadr_ptr rfl) ?_
     refine ax_q (q_ldN rfl rfl rfl) ?_
     refine ax_call rfl (vc_pure0 (c_sPageOK (p := s.Frames[k].Page) ?_) hP rfl rfl ?_)
     ·
      assumption
     refine ax_q (q_not rfl) ?_
     exact ax_nil ⟨rfl, by repeat constructor⟩
    refine ax_q (q_mov rfl) ?_
    apply ax_or rfl rfl
    ·
     intro g
     have g := (fun h => And.intro (bF (or_F h).1) (bF (or_F h).2)) g
     refine ax_q (q_fadr_ptr rfl) ?_
     refine ax_q (q_fadr_ptr rfl) ?_
     refine ax_q (q_load1_ptr rfl rfl rfl) ?_
     refine ax_q (q_fadr_ptr rfl) ?_
     refine ax_q (q_load1_ptr rfl rfl rfl) ?_
     refine ax_q (q_lenS_map rfl) ?_
     refine ax_q (q_ibin rfl rfl rfl) ?_
     exact ax_nil ⟨rfl, by repeat constructor⟩
    refine ax_q (q_mov rfl) ?_
    apply ax_or rfl rfl
    ·
     intro g
     have g := (fun h => And.intro ((fun h => And.intro (bF (or_F h).1) (bF (or_F h).2)) (or_F h).1) (dF (or_F h).2)) g
     refine ax_q (q_fadr_ptr rfl) ?_
     refine ax_q (q_load1_ptr rfl rfl rfl) ?_
     refine ax_q (q_fadr_ptr rfl) ?_
     refine ax_q (q_load1_ptr rfl rfl rfl) ?_
     refine ax_q (q_lenS_map rfl) ?_
     refine ax_call rfl (vc_pure0 (c_l01In  ) hP rfl rfl ?_)
     refine ax_q (q_not rfl) ?_
     exact ax_nil ⟨rfl, by repeat constructor⟩
    refine ax_q (q_mov rfl) ?_
    apply ax_or rfl rfl
    ·
     intro g
     have g := (fun h => And.intro ((fun h => And.intro ((fun h => And.intro (bF (or_F h).1) (bF (or_F h).2)) (or_F h).1) (dF (or_F h).2)) (or_F h).1) (bF (or_F h).2)) g
     refine ax_q (q_fadr_ptr rfl) ?_
     refine ax_q (q_load1_ptr rfl rfl rfl) ?_
     refine ax_q (q_fadr_ptr rfl) ?_
     refine ax_q (q_load1_ptr rfl rfl rfl) ?_
     refine ax_q (q_ibin rfl rfl rfl) ?_
     refine ax_q (q_eqb rfl rfl) ?_
     exact ax_nil ⟨rfl, by repeat constructor⟩
    refine ax_q (q_mov rfl) ?_
    apply ax_or rfl rfl
    ·
     intro g
     have g := (fun h => And.intro ((fun h => And.intro ((fun h => And.intro ((fun h => And.intro (bF (or_F h).1) (bF (or_F h).2)) (or_F h).1) (dF (or_F h).2)) (or_F h).1) (bF (or_F h).2)) (or_F h).1) (bneF (or_F h).2)) g
     refine ax_q (q_ldN rfl rfl rfl) ?_
     refine ax_q (q_fadr_ptr rfl) ?_
     refine ax_q (q_load1_ptr rfl rfl rfl) ?_
     refine ax_call rfl (vc_pure0 (c_l05Frame (s := s) (no := s.Frames[k].No) ?_) hP rfl rfl ?_)
     ·
      assumption
     refine ax_q (q_mov rfl) ?_
     refine ax_q (q_ibin rfl rfl rfl) ?_
     exact ax_nil ⟨rfl, by repeat constructor⟩
    refine ax_nil (cx_keep rfl rfl ?_)
    refine cx_cond rfl (fun h4 => ?_) (fun h4 => ?_)
    ·
     have h4 : frameBad2 s k s.Frames[k] = true := h4
     rw [frameBad_eq] at h4
     refine cx_seq (cx_ops ?_)
     refine ax_q (q_mov rfl) ?_
     refine ax_nil (cx_keep rfl rfl ?_)
     refine cx_ret (ret0 rfl rfl ?_)
     exact ⟨by rw [storeOK_f (frames_no h0x h4)]; rfl, rfl⟩
    ·
     have hbk : frameBad2 s k s.Frames[k] = false := h4
     rw [frameBad_eq] at hbk
     refine cx_skip ?_
     refine cx_keep rfl rfl (cx_ops ?_)
     refine ax_q (q_mov rfl) ?_
     refine ax_qe (r' := int ((k + 1 : Nat) : Int)) (q_ibin rfl rfl rfl) (by rw [wi (by omega) (by omega)]; rfl) ?_
     refine ax_q (q_mov rfl) ?_
     refine ax_nil ?_
     exact ⟨_, k + 1, by omega, ⟨by omega, rfl, fun j hj hjk => by
      rcases Nat.lt_succ_iff_lt_or_eq.1 hjk with q | rfl
      ·
       exact hb j hj q
      ·
       exact hbk⟩, by repeat constructor⟩
   ·
    have h3 := dF h3
    have hfa := frames_all (s := s) (fun j hj => hb j hj (by omega))
    refine cx_exit rfl ?_
    refine cx_keep rfl rfl (cx_seq (cx_seq (cx_ops ?_)))
    refine ax_q (q_mov rfl) ?_
    refine ax_nil (cx_keep rfl rfl (cx_block ?_))
    refine cx_loopU (fun n k => k ≤ 8 ∧ n = 8 - k ∧ ∀ j, j < k → pageBad s j = false) (fun k : Nat => [(7, int k)]) (fun _ => [(1, .box (s.row.map .d))]) ⟨_, 0, ⟨Nat.zero_le _, rfl, fun j hj => by omega⟩, by repeat constructor⟩ ?_
    rintro n k ⟨hk, rfl, hp⟩
    refine cx_seq (cx_seq (cx_ops ?_))
    refine ax_q (q_mov rfl) ?_
    refine ax_q (q_ibin rfl rfl rfl) ?_
    refine ax_nil (cx_keep rfl rfl ?_)
    refine cx_cond rfl (fun h5 => ?_) (fun h5 => ?_)
    ·
     have h5 := dT h5
     have h5x : k < 8 := by omega
     refine cx_skip ?_
     refine cx_keep rfl rfl (cx_seq (cx_block (cx_seq (cx_ops ?_))))
     refine ax_q (q_fadr_ptr rfl) ?_
     refine ax_q (q_ldN rfl rfl rfl) ?_
     refine ax_q (q_mov rfl) ?_
     refine ax_call rfl (vc_pure0 (c_l05Page (d := s.Disk) (no := k) ?_ ?_ ?_) hP rfl rfl ?_)
     ·
      exact HD.di
     ·
      exact HD.se
     ·
      assumption
     refine ax_q (q_mov rfl) ?_
     refine ax_q (q_ext rfl rfl) ?_
     refine ax_q (q_ext rfl rfl) ?_
     refine ax_e (e_alloc (by decide) rfl rfl) ?_
     refine ax_e (e_st rfl rfl rfl rfl rfl rfl rfl) ?_
     refine ax_q (q_mov rfl) ?_
     refine ax_nil (cx_keep rfl rfl (cx_seq (cx_ops ?_)))
     refine ax_q (q_mov rfl) ?_
     refine ax_q (q_not rfl) ?_
     refine ax_q (q_mov rfl) ?_
     apply ax_or rfl rfl
     ·
      intro g
      have g := bF g
      refine ax_q (q_fadr_ptr rfl) ?_
      refine ax_q (q_load1_ptr rfl rfl rfl) ?_
      refine ax_q (q_fadr_ptr rfl) ?_
      refine ax_q (q_load1_ptr rfl rfl rfl) ?_
      refine ax_q (q_ibin rfl rfl rfl) ?_
      exact ax_nil ⟨rfl, by repeat constructor⟩
     refine ax_nil (cx_keep rfl rfl ?_)
     refine cx_cond rfl (fun h6 => ?_) (fun h6 => ?_)
     ·
      have h6 : pageBad s k = true := h6
      refine cx_seq (cx_ops ?_)
      refine ax_q (q_mov rfl) ?_
      refine ax_nil (cx_keep rfl rfl ?_)
      refine cx_ret (ret0 rfl rfl ?_)
      exact ⟨by rw [storeOK_p (pagesOK_no h5x h6)]; rfl, rfl⟩
     ·
      have hpk : pageBad s k = false := h6
      refine cx_skip ?_
      refine cx_keep rfl rfl (cx_ops ?_)
      refine ax_q (q_mov rfl) ?_
      refine ax_qe (r' := int ((k + 1 : Nat) : Int)) (q_ibin rfl rfl rfl) (by rw [wi (by omega) (by omega)]; rfl) ?_
      refine ax_q (q_mov rfl) ?_
      refine ax_nil ?_
      exact ⟨_, k + 1, by omega, ⟨by omega, rfl, fun j hjk => by
       rcases Nat.lt_succ_iff_lt_or_eq.1 hjk with q | rfl
       ·
        exact hp j q
       ·
        exact hpk⟩, by repeat constructor⟩
    ·
     have h5 := dF h5
     have hpo := pagesOK_all (s := s) (fun j hj => hp j (by omega))
     refine cx_exit rfl ?_
     refine cx_keep rfl rfl (cx_seq (cx_ops ?_))
     refine ax_q (q_mov rfl) ?_
     refine ax_nil (cx_keep rfl rfl ?_)
     refine cx_ret (ret0 rfl rfl ?_)
     exact ⟨by rw [storeOK_t h0g he hpo, hfa, decide_eq_true (show (s.Frames.length : Int) ≤ 3 by omega), show inR s.Hand 0 (3 - 1) = true from inR_iff.2 ⟨hh.1, by omega⟩]; rfl, rfl⟩


/- loop.example/g00332/spec.FlushLog -/
def k_c_sFlushLog : XCode :=
 .seq (.ops [.op (some 2) (.box (.t 0)),
   .op (some 4) (.alloc [.nils 1, .nils 2, .bool false, .nils 1, .int .i64 0, .nils 10, .int .i64 0, .nils 5, .int .i64 0]),
   .op (some 5) (.mov (.k (.bool false))),
   .op (some 6) (.mov (.k (.int .i64 0)))])
 (.keep [1, 2, 4] (.seq (.seq (.ops [.op (some 9) (.loadN 9 (.t 2)),
   .call (some 10) 30 [.t 9],
   .op (some 11) (.not (.t 10))])
  (.keep [1, 2, 4, 11] (.cond (.t 11)
  (.seq (.ops [.op (some 12) (.build [.nils 1, .nils 2, .bool false, .nils 1, .int .i64 0, .nils 10, .int .i64 0, .nils 5, .int .i64 0] []),
    .op none (.store 9 (.t 4) (.t 12)),
    .op (some 5) (.mov (.k (.bool false))),
    .op (some 6) (.mov (.k (.int .i64 1)))])
   (.keep [4, 5, 6] (.ret)))
  (.skip))))
 (.keep [1, 2, 4] (.seq (.seq (.ops [.op (some 13) (.mov (.t 1)),
   .op (some 14) (.fadr (.t 2) 5),
   .op (some 15) (.load1 (.t 14)),
   .op (some 16) (.lenS (.t 15)),
   .call (some 17) 31 [.t 13, .k (.int .i64 0), .t 16],
   .op (some 18) (.not (.t 17))])
  (.keep [1, 2, 4, 18] (.cond (.t 18)
  (.seq (.ops [.op (some 19) (.build [.nils 1, .nils 2, .bool false, .nils 1, .int .i64 0, .nils 10, .int .i64 0, .nils 5, .int .i64 0] []),
    .op none (.store 9 (.t 4) (.t 19)),
    .op (some 5) (.mov (.k (.bool false))),
    .op (some 6) (.mov (.k (.int .i64 4)))])
   (.keep [4, 5, 6] (.ret)))
  (.skip))))
 (.keep [1, 2, 4] (.seq (.ops [.op (some 21) (.loadN 9 (.t 2)),
   .op (some 22) (.mov (.t 1)),
   .call (some 23) 32 [.t 21, .t 22],
   .op (some 20) (.mov (.t 23)),
   .op (some 24) (.ext (.t 20) 0),
   .op (some 25) (.ext (.t 20) 1),
   .op (some 7) (.alloc [.nils 1, .nils 2, .bool false, .nils 1, .int .i64 0, .nils 10, .int .i64 0, .nils 5, .int .i64 0]),
   .op none (.store 9 (.t 7) (.t 24)),
   .op (some 8) (.mov (.t 25))])
 (.keep [4, 7, 8] (.seq (.ops [.op (some 26) (.loadN 9 (.t 7)),
   .call (some 27) 33 [.t 26],
   .op (some 28) (.mov (.t 8)),
   .op none (.store 9 (.t 4) (.t 27)),
   .op (some 5) (.mov (.t 28)),
   .op (some 6) (.mov (.k (.int .i64 0)))])
 (.keep [4, 5, 6] (.ret))))))))))
theorem k_c_sFlushLog_fits : fitsF Tryz.prog 8 ⟨29, k_c_sFlushLog, [.cN 4 9, .t 5, .t 6]⟩ = true := by kernel_rfl
set_option maxHeartbeats 4000000 in
theorem c_sFlushLog {s : GStore} {m : Nat} {n : Int} (h : DI s m) (hm : m ≤ 60) (hn : 0 ≤ n ∧ n ≤ s.Log.length) : Con Tryz.prog noMv 8 [s.av, int n] [] (fun r h => r = .tup [(flF s n).av, bool true, int 0] ∧ h = []) := by
 refine con_of2 k_c_sFlushLog_fits rfl fun C hP hmv => ?_
 unfold k_c_sFlushLog
 obtain ⟨hw0, hw1, hw2, hw3, hwa, hw4, hw5, hw6⟩ := di_stb h hm
 have hsb := di_stb h hm
 have hF := flF_di h hm hn.2
 refine cx_seq (cx_ops ?_)
 refine ax_e (e_box rfl rfl (by decide) rfl rfl rfl) ?_
 refine ax_e (e_alloc (by decide) rfl rfl) ?_
 refine ax_q (q_mov rfl) ?_
 refine ax_q (q_mov rfl) ?_
 refine ax_nil (cx_keep rfl rfl (cx_seq (cx_seq (cx_ops ?_))))
 refine ax_q (q_ldN rfl rfl rfl) ?_
 refine ax_call rfl (vc_pure0 (c_sStoreOK (s := s) ?_) hP rfl rfl ?_)
 ·
  assumption
 refine ax_q (q_not rfl) ?_
 refine ax_nil (cx_keep rfl rfl ?_)
 refine cx_cond rfl (fun h0 => ?_) (fun h0 => ?_)
 ·
  have h0 := bT h0
  rw [di_ok h hm] at h0; cases h0
 ·
  have h0 := bF h0
  refine cx_skip ?_
  refine cx_keep rfl rfl (cx_seq (cx_seq (cx_ops ?_)))
  refine ax_q (q_mov rfl) ?_
  refine ax_q (q_fadr_ptr rfl) ?_
  refine ax_q (q_load1_ptr rfl rfl rfl) ?_
  refine ax_q (q_lenS_map rfl) ?_
  refine ax_call rfl (vc_pure0 (c_l01In  ) hP rfl rfl ?_)
  refine ax_q (q_not rfl) ?_
  refine ax_nil (cx_keep rfl rfl ?_)
  refine cx_cond rfl (fun h1 => ?_) (fun h1 => ?_)
  ·
   have h1 := bT h1
   rw [inR_iff.2 hn] at h1; cases h1
  ·
   have h1 := bF h1
   refine cx_skip ?_
   refine cx_keep rfl rfl (cx_seq (cx_ops ?_))
   refine ax_q (q_ldN rfl rfl rfl) ?_
   refine ax_q (q_mov rfl) ?_
   refine ax_call rfl (vc_pure0 (c_l05Flush (s := s) (m := m) (n := n) ?_ ?_ ?_) hP rfl rfl ?_)
   ·
    assumption
   ·
    assumption
   ·
    first | assumption | omega
   refine ax_q (q_mov rfl) ?_
   refine ax_q (q_ext rfl rfl) ?_
   refine ax_q (q_ext rfl rfl) ?_
   refine ax_e (e_alloc (by decide) rfl rfl) ?_
   refine ax_e (e_st rfl rfl rfl rfl rfl rfl rfl) ?_
   refine ax_q (q_mov rfl) ?_
   refine ax_nil (cx_keep rfl rfl (cx_seq (cx_ops ?_)))
   refine ax_q (q_ldN rfl rfl rfl) ?_
   refine ax_call rfl (vc_pure0 (c_l05Own (s := flF s n) (m := m) ?_ ?_) hP rfl rfl ?_)
   ·
    assumption
   ·
    assumption
   refine ax_q (q_mov rfl) ?_
   refine ax_e (e_st rfl rfl rfl rfl rfl rfl rfl) ?_
   refine ax_q (q_mov rfl) ?_
   refine ax_q (q_mov rfl) ?_
   refine ax_nil (cx_keep rfl rfl ?_)
   refine cx_ret (ret0 rfl rfl ?_)
   exact ⟨rfl, rfl⟩


/- loop.example/g00332/laws.sameLog -/
def k_c_sameLog : XCode :=
 .seq (.ops [.op (some 4) (.mov (.k (.bool false)))])
 (.keep [0, 1] (.seq (.seq (.ops [.op (some 6) (.mov (.t 0)),
   .op (some 7) (.lenS (.t 6)),
   .op (some 8) (.mov (.t 1)),
   .op (some 9) (.lenS (.t 8)),
   .op (some 10) (.bin .neq (.t 7) (.t 9))])
  (.keep [0, 1, 10] (.cond (.t 10)
  (.seq (.ops [.op (some 4) (.mov (.k (.bool false)))])
   (.keep [4] (.ret)))
  (.skip))))
 (.keep [0, 1] (.seq (.seq (.ops [.op (some 5) (.mov (.k (.int .i64 0)))])
  (.keep [0, 1, 5] (.block 0 (.loop (.seq (.seq (.ops [.op (some 11) (.mov (.t 5)),
     .op (some 12) (.mov (.t 0)),
     .op (some 13) (.lenS (.t 12)),
     .op (some 14) (.bin .lss (.t 11) (.t 13))])
   (.keep [0, 1, 5, 14] (.cond (.t 14)
    (.skip)
    (.exit 0))))
   (.keep [0, 1, 5] (.seq (.block 1 (.seq (.draw [.op (some 17) (.mov (.t 0)),
     .op (some 18) (.mov (.t 5)),
     .op (some 19) (.iadr 10 (.t 17) (.t 18)),
     .op (some 20) (.loadN 10 (.t 19)),
     .op (some 21) (.mov (.t 1)),
     .op (some 22) (.mov (.t 5)),
     .op (some 23) (.iadr 10 (.t 21) (.t 22)),
     .op (some 24) (.loadN 10 (.t 23)),
     .op (some 25) (.eqs true [0, 0, 0, 0, 0, 0, 0, 0, 2, 2] (.t 20) (.t 24))])
    (.keep [0, 1, 5, 25] (.cond (.t 25)
    (.seq (.ops [.op (some 4) (.mov (.k (.bool false)))])
     (.keep [4] (.ret)))
    (.skip)))))
   (.keep [0, 1, 5] (.ops [.op (some 15) (.mov (.t 5)),
    .op (some 16) (.bin .add (.t 15) (.k (.int .i64 1))),
    .op (some 5) (.mov (.t 16))])))))))))
 (.keep [] (.seq (.ops [.op (some 4) (.mov (.k (.bool true)))])
 (.keep [4] (.ret))))))))
theorem k_c_sameLog_fits : fitsF Tryz.prog 14 ⟨26, k_c_sameLog, [.t 4]⟩ = true := by kernel_rfl
theorem c_sameLog {xs : List GLogRecord} (hl : xs.length ≤ 1048576) : Con Tryz.prog noMv 14 [.d (.sl 10 (xs.map GLogRecord.row)), .d (.sl 10 (xs.map GLogRecord.row))] [] (fun r h => r = bool true ∧ h = []) := by
 refine con_of2 k_c_sameLog_fits rfl fun C hP hmv => ?_
 unfold k_c_sameLog
 refine cx_seq (cx_ops ?_)
 refine ax_q (q_mov rfl) ?_
 refine ax_nil (cx_keep rfl rfl (cx_seq (cx_seq (cx_ops ?_))))
 refine ax_q (q_mov rfl) ?_
 refine ax_q (q_lenS_map rfl) ?_
 refine ax_q (q_mov rfl) ?_
 refine ax_q (q_lenS_map rfl) ?_
 refine ax_q (q_ibin rfl rfl rfl) ?_
 refine ax_nil (cx_keep rfl rfl ?_)
 refine cx_cond rfl (fun h0 => ?_) (fun h0 => ?_)
 ·
  have h0 := nT h0
  exact absurd rfl h0
 ·
  have h0 := nF h0
  refine cx_skip ?_
  refine cx_keep rfl rfl (cx_seq (cx_seq (cx_ops ?_)))
  refine ax_q (q_mov rfl) ?_
  refine ax_nil (cx_keep rfl rfl (cx_block ?_))
  refine cx_loopU (fun n k => k ≤ xs.length ∧ n = xs.length - k) (fun k : Nat => [(5, int k)]) (fun _ => []) ⟨_, 0, ⟨Nat.zero_le _, rfl⟩, by repeat constructor⟩ ?_
  rintro n k ⟨hk, rfl⟩
  refine cx_seq (cx_seq (cx_ops ?_))
  refine ax_q (q_mov rfl) ?_
  refine ax_q (q_mov rfl) ?_
  refine ax_q (q_lenS_map rfl) ?_
  refine ax_q (q_ibin rfl rfl rfl) ?_
  refine ax_nil (cx_keep rfl rfl ?_)
  refine cx_cond rfl (fun h1 => ?_) (fun h1 => ?_)
  ·
   have h1 := dT h1
   have h1x : k < xs.length := by omega
   refine cx_skip ?_
   refine cx_keep rfl rfl (cx_seq (cx_block (cx_seq (cx_draw ?_))))
   refine ax_q (q_mov rfl) ?_
   refine ax_q (q_mov rfl) ?_
   refine ax_q (q_ix rfl rfl (mapAt h1x)) ?_
   first | refine ax_q (q_ldN rfl rfl rfl) ?_ | refine ax_q (q_loadN_ip rfl (Nat.le_refl _)) ?_
   refine ax_q (q_mov rfl) ?_
   refine ax_q (q_mov rfl) ?_
   refine ax_q (q_ix rfl rfl (mapAt h1x)) ?_
   first | refine ax_q (q_ldN rfl rfl rfl) ?_ | refine ax_q (q_loadN_ip rfl (Nat.le_refl _)) ?_
   refine ax_q (GLogRecord.q_eqs rfl rfl) ?_
   refine ax_nil (cx_keep rfl rfl ?_)
   refine cx_cond rfl (fun h2 => ?_) (fun h2 => ?_)
   ·
    skip
    rw [eqb_rfl] at h2; cases h2
   ·
    skip
    refine cx_skip ?_
    refine cx_keep rfl rfl (cx_ops ?_)
    refine ax_q (q_mov rfl) ?_
    refine ax_qe (r' := int ((k + 1 : Nat) : Int)) (q_ibin rfl rfl rfl) (by rw [wi (by omega) (by omega)]; rfl) ?_
    refine ax_q (q_mov rfl) ?_
    refine ax_nil ?_
    exact ⟨_, k + 1, by omega, ⟨by omega, rfl⟩, by repeat constructor⟩
  ·
   have h1 := dF h1
   refine cx_exit rfl ?_
   refine cx_keep rfl rfl (cx_seq (cx_ops ?_))
   refine ax_q (q_mov rfl) ?_
   refine ax_nil (cx_keep rfl rfl ?_)
   refine cx_ret (ret0 rfl rfl ?_)
   exact ⟨rfl, rfl⟩


/- loop.example/g00332/laws.sameTexts -/
def k_c_sameTexts : XCode :=
 .seq (.ops [.op (some 4) (.mov (.k (.bool false)))])
 (.keep [0, 1] (.seq (.seq (.ops [.op (some 6) (.mov (.t 0)),
   .op (some 7) (.lenS (.t 6)),
   .op (some 8) (.mov (.t 1)),
   .op (some 9) (.lenS (.t 8)),
   .op (some 10) (.bin .neq (.t 7) (.t 9))])
  (.keep [0, 1, 10] (.cond (.t 10)
  (.seq (.ops [.op (some 4) (.mov (.k (.bool false)))])
   (.keep [4] (.ret)))
  (.skip))))
 (.keep [0, 1] (.seq (.seq (.ops [.op (some 5) (.mov (.k (.int .i64 0)))])
  (.keep [0, 1, 5] (.block 0 (.loop (.seq (.seq (.ops [.op (some 11) (.mov (.t 5)),
     .op (some 12) (.mov (.t 0)),
     .op (some 13) (.lenS (.t 12)),
     .op (some 14) (.bin .lss (.t 11) (.t 13))])
   (.keep [0, 1, 5, 14] (.cond (.t 14)
    (.skip)
    (.exit 0))))
   (.keep [0, 1, 5] (.seq (.block 1 (.seq (.draw [.op (some 17) (.mov (.t 0)),
     .op (some 18) (.mov (.t 5)),
     .op (some 19) (.iadr 1 (.t 17) (.t 18)),
     .op (some 20) (.load1 (.t 19)),
     .op (some 21) (.mov (.t 1)),
     .op (some 22) (.mov (.t 5)),
     .op (some 23) (.iadr 1 (.t 21) (.t 22)),
     .op (some 24) (.load1 (.t 23)),
     .op (some 25) (.bin .neq (.t 20) (.t 24))])
    (.keep [0, 1, 5, 25] (.cond (.t 25)
    (.seq (.ops [.op (some 4) (.mov (.k (.bool false)))])
     (.keep [4] (.ret)))
    (.skip)))))
   (.keep [0, 1, 5] (.ops [.op (some 15) (.mov (.t 5)),
    .op (some 16) (.bin .add (.t 15) (.k (.int .i64 1))),
    .op (some 5) (.mov (.t 16))])))))))))
 (.keep [] (.seq (.ops [.op (some 4) (.mov (.k (.bool true)))])
 (.keep [4] (.ret))))))))
theorem k_c_sameTexts_fits : fitsF Tryz.prog 80 ⟨26, k_c_sameTexts, [.t 4]⟩ = true := by kernel_rfl
theorem c_sameTexts {xs ys : List Str} (hx : xs.length ≤ 1048576) (hy : ys.length ≤ 1048576) : Con Tryz.prog noMv 80 [.d (.sl 1 (xs.map strRow)), .d (.sl 1 (ys.map strRow))] [] (fun r h => r = bool (eqb xs ys) ∧ h = []) := by
 refine con_of2 k_c_sameTexts_fits rfl fun C hP hmv => ?_
 unfold k_c_sameTexts
 refine cx_seq (cx_ops ?_)
 refine ax_q (q_mov rfl) ?_
 refine ax_nil (cx_keep rfl rfl (cx_seq (cx_seq (cx_ops ?_))))
 refine ax_q (q_mov rfl) ?_
 refine ax_q (q_lenS_map rfl) ?_
 refine ax_q (q_mov rfl) ?_
 refine ax_q (q_lenS_map rfl) ?_
 refine ax_q (q_ibin rfl rfl rfl) ?_
 refine ax_nil (cx_keep rfl rfl ?_)
 refine cx_cond rfl (fun h0 => ?_) (fun h0 => ?_)
 ·
  have h0 := nT h0
  refine cx_seq (cx_ops ?_)
  refine ax_q (q_mov rfl) ?_
  refine ax_nil (cx_keep rfl rfl ?_)
  refine cx_ret (ret0 rfl rfl ?_)
  exact ⟨congrArg AM.bool (eqb_f (fun h => h0 (by rw [h]))).symm, rfl⟩
 ·
  have h0 := nF h0
  refine cx_skip ?_
  refine cx_keep rfl rfl (cx_seq (cx_seq (cx_ops ?_)))
  refine ax_q (q_mov rfl) ?_
  refine ax_nil (cx_keep rfl rfl (cx_block ?_))
  have hl : xs.length = ys.length := by omega
  refine cx_loopU (fun n k => k ≤ xs.length ∧ n = xs.length - k ∧ xs.take k = ys.take k) (fun k : Nat => [(5, int k)]) (fun _ => []) ⟨_, 0, ⟨Nat.zero_le _, rfl, rfl⟩, by repeat constructor⟩ ?_
  rintro n k ⟨hk, rfl, ht⟩
  refine cx_seq (cx_seq (cx_ops ?_))
  refine ax_q (q_mov rfl) ?_
  refine ax_q (q_mov rfl) ?_
  refine ax_q (q_lenS_map rfl) ?_
  refine ax_q (q_ibin rfl rfl rfl) ?_
  refine ax_nil (cx_keep rfl rfl ?_)
  refine cx_cond rfl (fun h1 => ?_) (fun h1 => ?_)
  ·
   have h1 := dT h1
   have h1x : k < xs.length := by omega
   have h1y : k < ys.length := by omega
   refine cx_skip ?_
   refine cx_keep rfl rfl (cx_seq (cx_block (cx_seq (cx_draw ?_))))
   refine ax_q (q_mov rfl) ?_
   refine ax_q (q_mov rfl) ?_
   refine ax_q (q_ix rfl rfl (mapAt h1x)) ?_
   first | refine ax_q (q_load1_ptr rfl rfl rfl) ?_ | refine ax_q (q_load1_ip rfl) ?_
   refine ax_q (q_mov rfl) ?_
   refine ax_q (q_mov rfl) ?_
   refine ax_q (q_ix rfl rfl (mapAt h1y)) ?_
   first | refine ax_q (q_load1_ptr rfl rfl rfl) ?_ | refine ax_q (q_load1_ip rfl) ?_
   refine ax_q (q_sbin rfl rfl rfl) ?_
   refine ax_nil (cx_keep rfl rfl ?_)
   refine cx_cond rfl (fun h2 => ?_) (fun h2 => ?_)
   ·
    have h2 := nT h2
    refine cx_seq (cx_ops ?_)
    refine ax_q (q_mov rfl) ?_
    refine ax_nil (cx_keep rfl rfl ?_)
    refine cx_ret (ret0 rfl rfl ?_)
    exact ⟨congrArg AM.bool (eqbL_no h1x h1y (eqb_f h2)).symm, rfl⟩
   ·
    have h2 := nF h2
    refine cx_skip ?_
    refine cx_keep rfl rfl (cx_ops ?_)
    refine ax_q (q_mov rfl) ?_
    refine ax_qe (r' := int ((k + 1 : Nat) : Int)) (q_ibin rfl rfl rfl) (by rw [wi (by omega) (by omega)]; rfl) ?_
    refine ax_q (q_mov rfl) ?_
    refine ax_nil ?_
    exact ⟨_, k + 1, by omega, ⟨by omega, rfl, eqbL_step h1x h1y ht (eqb_t h2)⟩, by repeat constructor⟩
  ·
   have h1 := dF h1
   refine cx_exit rfl ?_
   refine cx_keep rfl rfl (cx_seq (cx_ops ?_))
   refine ax_q (q_mov rfl) ?_
   refine ax_nil (cx_keep rfl rfl ?_)
   refine cx_ret (ret0 rfl rfl ?_)
   exact ⟨congrArg AM.bool (eqb_t (eq_of_take hl (by rwa [show k = xs.length from by omega] at ht))).symm, rfl⟩


/- loop.example/g00332/laws.sameInts -/
def k_c_sameInts : XCode :=
 .seq (.ops [.op (some 4) (.mov (.k (.bool false)))])
 (.keep [0, 1] (.seq (.seq (.ops [.op (some 6) (.mov (.t 0)),
   .op (some 7) (.lenS (.t 6)),
   .op (some 8) (.mov (.t 1)),
   .op (some 9) (.lenS (.t 8)),
   .op (some 10) (.bin .neq (.t 7) (.t 9))])
  (.keep [0, 1, 10] (.cond (.t 10)
  (.seq (.ops [.op (some 4) (.mov (.k (.bool false)))])
   (.keep [4] (.ret)))
  (.skip))))
 (.keep [0, 1] (.seq (.seq (.ops [.op (some 5) (.mov (.k (.int .i64 0)))])
  (.keep [0, 1, 5] (.block 0 (.loop (.seq (.seq (.ops [.op (some 11) (.mov (.t 5)),
     .op (some 12) (.mov (.t 0)),
     .op (some 13) (.lenS (.t 12)),
     .op (some 14) (.bin .lss (.t 11) (.t 13))])
   (.keep [0, 1, 5, 14] (.cond (.t 14)
    (.skip)
    (.exit 0))))
   (.keep [0, 1, 5] (.seq (.block 1 (.seq (.draw [.op (some 17) (.mov (.t 0)),
     .op (some 18) (.mov (.t 5)),
     .op (some 19) (.iadr 1 (.t 17) (.t 18)),
     .op (some 20) (.load1 (.t 19)),
     .op (some 21) (.mov (.t 1)),
     .op (some 22) (.mov (.t 5)),
     .op (some 23) (.iadr 1 (.t 21) (.t 22)),
     .op (some 24) (.load1 (.t 23)),
     .op (some 25) (.bin .neq (.t 20) (.t 24))])
    (.keep [0, 1, 5, 25] (.cond (.t 25)
    (.seq (.ops [.op (some 4) (.mov (.k (.bool false)))])
     (.keep [4] (.ret)))
    (.skip)))))
   (.keep [0, 1, 5] (.ops [.op (some 15) (.mov (.t 5)),
    .op (some 16) (.bin .add (.t 15) (.k (.int .i64 1))),
    .op (some 5) (.mov (.t 16))])))))))))
 (.keep [] (.seq (.ops [.op (some 4) (.mov (.k (.bool true)))])
 (.keep [4] (.ret))))))))
theorem k_c_sameInts_fits : fitsF Tryz.prog 81 ⟨26, k_c_sameInts, [.t 4]⟩ = true := by kernel_rfl
theorem c_sameInts {xs ys : List Int} (hx : xs.length ≤ 1048576) (hy : ys.length ≤ 1048576) : Con Tryz.prog noMv 81 [.d (.sl 1 (xs.map intRow)), .d (.sl 1 (ys.map intRow))] [] (fun r h => r = bool (eqb xs ys) ∧ h = []) := by
 refine con_of2 k_c_sameInts_fits rfl fun C hP hmv => ?_
 unfold k_c_sameInts
 refine cx_seq (cx_ops ?_)
 refine ax_q (q_mov rfl) ?_
 refine ax_nil (cx_keep rfl rfl (cx_seq (cx_seq (cx_ops ?_))))
 refine ax_q (q_mov rfl) ?_
 refine ax_q (q_lenS_map rfl) ?_
 refine ax_q (q_mov rfl) ?_
 refine ax_q (q_lenS_map rfl) ?_
 refine ax_q (q_ibin rfl rfl rfl) ?_
 refine ax_nil (cx_keep rfl rfl ?_)
 refine cx_cond rfl (fun h0 => ?_) (fun h0 => ?_)
 ·
  have h0 := nT h0
  refine cx_seq (cx_ops ?_)
  refine ax_q (q_mov rfl) ?_
  refine ax_nil (cx_keep rfl rfl ?_)
  refine cx_ret (ret0 rfl rfl ?_)
  exact ⟨congrArg AM.bool (eqb_f (fun h => h0 (by rw [h]))).symm, rfl⟩
 ·
  have h0 := nF h0
  refine cx_skip ?_
  refine cx_keep rfl rfl (cx_seq (cx_seq (cx_ops ?_)))
  refine ax_q (q_mov rfl) ?_
  refine ax_nil (cx_keep rfl rfl (cx_block ?_))
  have hl : xs.length = ys.length := by omega
  refine cx_loopU (fun n k => k ≤ xs.length ∧ n = xs.length - k ∧ xs.take k = ys.take k) (fun k : Nat => [(5, int k)]) (fun _ => []) ⟨_, 0, ⟨Nat.zero_le _, rfl, rfl⟩, by repeat constructor⟩ ?_
  rintro n k ⟨hk, rfl, ht⟩
  refine cx_seq (cx_seq (cx_ops ?_))
  refine ax_q (q_mov rfl) ?_
  refine ax_q (q_mov rfl) ?_
  refine ax_q (q_lenS_map rfl) ?_
  refine ax_q (q_ibin rfl rfl rfl) ?_
  refine ax_nil (cx_keep rfl rfl ?_)
  refine cx_cond rfl (fun h1 => ?_) (fun h1 => ?_)
  ·
   have h1 := dT h1
   have h1x : k < xs.length := by omega
   have h1y : k < ys.length := by omega
   refine cx_skip ?_
   refine cx_keep rfl rfl (cx_seq (cx_block (cx_seq (cx_draw ?_))))
   refine ax_q (q_mov rfl) ?_
   refine ax_q (q_mov rfl) ?_
   refine ax_q (q_ix rfl rfl (mapAt h1x)) ?_
   first | refine ax_q (q_load1_ptr rfl rfl rfl) ?_ | refine ax_q (q_load1_ip rfl) ?_
   refine ax_q (q_mov rfl) ?_
   refine ax_q (q_mov rfl) ?_
   refine ax_q (q_ix rfl rfl (mapAt h1y)) ?_
   first | refine ax_q (q_load1_ptr rfl rfl rfl) ?_ | refine ax_q (q_load1_ip rfl) ?_
   refine ax_q (q_ibin rfl rfl rfl) ?_
   refine ax_nil (cx_keep rfl rfl ?_)
   refine cx_cond rfl (fun h2 => ?_) (fun h2 => ?_)
   ·
    have h2 := nT h2
    refine cx_seq (cx_ops ?_)
    refine ax_q (q_mov rfl) ?_
    refine ax_nil (cx_keep rfl rfl ?_)
    refine cx_ret (ret0 rfl rfl ?_)
    exact ⟨congrArg AM.bool (eqbL_no h1x h1y (eqb_f h2)).symm, rfl⟩
   ·
    have h2 := nF h2
    refine cx_skip ?_
    refine cx_keep rfl rfl (cx_ops ?_)
    refine ax_q (q_mov rfl) ?_
    refine ax_qe (r' := int ((k + 1 : Nat) : Int)) (q_ibin rfl rfl rfl) (by rw [wi (by omega) (by omega)]; rfl) ?_
    refine ax_q (q_mov rfl) ?_
    refine ax_nil ?_
    exact ⟨_, k + 1, by omega, ⟨by omega, rfl, eqbL_step h1x h1y ht (eqb_t h2)⟩, by repeat constructor⟩
  ·
   have h1 := dF h1
   refine cx_exit rfl ?_
   refine cx_keep rfl rfl (cx_seq (cx_ops ?_))
   refine ax_q (q_mov rfl) ?_
   refine ax_nil (cx_keep rfl rfl ?_)
   refine cx_ret (ret0 rfl rfl ?_)
   exact ⟨congrArg AM.bool (eqb_t (eq_of_take hl (by rwa [show k = xs.length from by omega] at ht))).symm, rfl⟩


/- loop.example/g00332/laws.sameDisk -/
def k_c_sameDisk : XCode :=
 .seq (.ops [.op (some 2) (.box (.t 0)),
   .op (some 3) (.box (.t 1)),
   .op (some 4) (.mov (.k (.bool false)))])
 (.keep [2, 3] (.seq (.seq (.ops [.op (some 6) (.fadr (.t 2) 0),
   .op (some 7) (.load1 (.t 6)),
   .op (some 8) (.fadr (.t 3) 0),
   .op (some 9) (.load1 (.t 8)),
   .call (some 10) 80 [.t 7, .t 9],
   .op (some 11) (.not (.t 10)),
   .op (some 12) (.mov (.t 11)),
   .andor 20 false 6 12 [.op (some 13) (.fadr (.t 2) 1), .op (some 14) (.load1 (.t 13)), .op (some 15) (.lenS (.t 14)), .op (some 16) (.fadr (.t 3) 1), .op (some 17) (.load1 (.t 16)), .op (some 18) (.lenS (.t 17)), .op (some 19) (.bin .neq (.t 15) (.t 18))] (.t 19),
   .op (some 21) (.mov (.t 20)),
   .andor 27 false 15 21 [.op (some 22) (.fadr (.t 2) 2), .op (some 23) (.load1 (.t 22)), .op (some 24) (.fadr (.t 3) 2), .op (some 25) (.load1 (.t 24)), .op (some 26) (.eqb true (.t 23) (.t 25))] (.t 26),
   .op (some 28) (.mov (.t 27)),
   .andor 35 false 22 28 [.op (some 29) (.fadr (.t 2) 3), .op (some 30) (.load1 (.t 29)), .op (some 31) (.fadr (.t 3) 3), .op (some 32) (.load1 (.t 31)), .call (some 33) 81 [.t 30, .t 32], .op (some 34) (.not (.t 33))] (.t 34)])
  (.keep [2, 3, 35] (.cond (.t 35)
  (.seq (.ops [.op (some 4) (.mov (.k (.bool false)))])
   (.keep [4] (.ret)))
  (.skip))))
 (.keep [2, 3] (.seq (.seq (.ops [.op (some 5) (.mov (.k (.int .i64 0)))])
  (.keep [2, 3, 5] (.block 0 (.loop (.seq (.seq (.ops [.op (some 36) (.mov (.t 5)),
     .op (some 37) (.fadr (.t 2) 1),
     .op (some 38) (.load1 (.t 37)),
     .op (some 39) (.lenS (.t 38)),
     .op (some 40) (.bin .lss (.t 36) (.t 39))])
   (.keep [2, 3, 5, 40] (.cond (.t 40)
    (.skip)
    (.exit 0))))
   (.keep [2, 3, 5] (.seq (.block 1 (.seq (.draw [.op (some 43) (.fadr (.t 2) 1),
     .op (some 44) (.load1 (.t 43)),
     .op (some 45) (.mov (.t 5)),
     .op (some 46) (.iadr 2 (.t 44) (.t 45)),
     .op (some 47) (.loadN 2 (.t 46)),
     .op (some 48) (.fadr (.t 3) 1),
     .op (some 49) (.load1 (.t 48)),
     .op (some 50) (.mov (.t 5)),
     .op (some 51) (.iadr 2 (.t 49) (.t 50)),
     .op (some 52) (.loadN 2 (.t 51)),
     .op (some 53) (.eqs true [0, 2] (.t 47) (.t 52))])
    (.keep [2, 3, 5, 53] (.cond (.t 53)
    (.seq (.ops [.op (some 4) (.mov (.k (.bool false)))])
     (.keep [4] (.ret)))
    (.skip)))))
   (.keep [2, 3, 5] (.ops [.op (some 41) (.mov (.t 5)),
    .op (some 42) (.bin .add (.t 41) (.k (.int .i64 1))),
    .op (some 5) (.mov (.t 42))])))))))))
 (.keep [] (.seq (.ops [.op (some 4) (.mov (.k (.bool true)))])
 (.keep [4] (.ret))))))))
theorem k_c_sameDisk_fits : fitsF Tryz.prog 34 ⟨54, k_c_sameDisk, [.t 4]⟩ = true := by kernel_rfl
theorem c_sameDisk {x y : GDisk} (hx0 : x.Sectors.length ≤ 1048576) (hx1 : x.Cache.length ≤ 1048576) (hx2 : x.Keep.length ≤ 1048576) (hy0 : y.Sectors.length ≤ 1048576) (hy1 : y.Cache.length ≤ 1048576) (hy2 : y.Keep.length ≤ 1048576) : Con Tryz.prog noMv 34 [x.av, y.av] [] (fun r h => r = bool (eqb x y) ∧ h = []) := by
 refine con_of2 k_c_sameDisk_fits rfl fun C hP hmv => ?_
 unfold k_c_sameDisk
 refine cx_seq (cx_ops ?_)
 refine ax_e (e_box rfl rfl (by decide) rfl rfl rfl) ?_
 refine ax_e (e_box rfl rfl (by decide) rfl rfl rfl) ?_
 refine ax_q (q_mov rfl) ?_
 refine ax_nil (cx_keep rfl rfl (cx_seq (cx_seq (cx_ops ?_))))
 refine ax_q (q_fadr_ptr rfl) ?_
 refine ax_q (q_load1_ptr rfl rfl rfl) ?_
 refine ax_q (q_fadr_ptr rfl) ?_
 refine ax_q (q_load1_ptr rfl rfl rfl) ?_
 refine ax_call rfl (vc_pure0 (c_sameTexts (xs := x.Sectors) (ys := y.Sectors) ?_ ?_) hP rfl rfl ?_)
 ·
  assumption
 ·
  assumption
 refine ax_q (q_not rfl) ?_
 refine ax_q (q_mov rfl) ?_
 apply ax_or rfl rfl
 ·
  intro g
  have g := bF g
  refine ax_q (q_fadr_ptr rfl) ?_
  refine ax_q (q_load1_ptr rfl rfl rfl) ?_
  refine ax_q (q_lenS_map rfl) ?_
  refine ax_q (q_fadr_ptr rfl) ?_
  refine ax_q (q_load1_ptr rfl rfl rfl) ?_
  refine ax_q (q_lenS_map rfl) ?_
  refine ax_q (q_ibin rfl rfl rfl) ?_
  exact ax_nil ⟨rfl, by repeat constructor⟩
 refine ax_q (q_mov rfl) ?_
 apply ax_or rfl rfl
 ·
  intro g
  have g := (fun h => And.intro (bF (or_F h).1) (nF (or_F h).2)) g
  refine ax_q (q_fadr_ptr rfl) ?_
  refine ax_q (q_load1_ptr rfl rfl rfl) ?_
  refine ax_q (q_fadr_ptr rfl) ?_
  refine ax_q (q_load1_ptr rfl rfl rfl) ?_
  refine ax_q (q_eqb rfl rfl) ?_
  exact ax_nil ⟨rfl, by repeat constructor⟩
 refine ax_q (q_mov rfl) ?_
 apply ax_or rfl rfl
 ·
  intro g
  have g := (fun h => And.intro ((fun h => And.intro (bF (or_F h).1) (nF (or_F h).2)) (or_F h).1) (bneF (or_F h).2)) g
  refine ax_q (q_fadr_ptr rfl) ?_
  refine ax_q (q_load1_ptr rfl rfl rfl) ?_
  refine ax_q (q_fadr_ptr rfl) ?_
  refine ax_q (q_load1_ptr rfl rfl rfl) ?_
  refine ax_call rfl (vc_pure0 (c_sameInts (xs := x.Keep) (ys := y.Keep) ?_ ?_) hP rfl rfl ?_)
  ·
   assumption
  ·
   assumption
  refine ax_q (q_not rfl) ?_
  exact ax_nil ⟨rfl, by repeat constructor⟩
 refine ax_nil (cx_keep rfl rfl ?_)
 refine cx_cond rfl (fun h0 => ?_) (fun h0 => ?_)
 ·
  have h0 : difD x y = true := h0
  refine cx_seq (cx_ops ?_)
  refine ax_q (q_mov rfl) ?_
  refine ax_nil (cx_keep rfl rfl ?_)
  refine cx_ret (ret0 rfl rfl ?_)
  exact ⟨congrArg AM.bool (eqb_f (difD_ne h0)).symm, rfl⟩
 ·
  have h0 : difD x y = false := h0
  obtain ⟨f1, f2, f3, f4⟩ := difD_no h0
  refine cx_skip ?_
  refine cx_keep rfl rfl (cx_seq (cx_seq (cx_ops ?_)))
  refine ax_q (q_mov rfl) ?_
  refine ax_nil (cx_keep rfl rfl (cx_block ?_))
  refine cx_loopU (fun n k => k ≤ x.Cache.length ∧ n = x.Cache.length - k ∧ x.Cache.take k = y.Cache.take k) (fun k : Nat => [(5, int k)]) (fun _ => [(2, .box [.d (.sl 1 (x.Sectors.map strRow)), .d (.sl 2 (x.Cache.map GPending.row)), .d (.bool x.Armed), .d (.sl 1 (x.Keep.map intRow))]), (3, .box [.d (.sl 1 (y.Sectors.map strRow)), .d (.sl 2 (y.Cache.map GPending.row)), .d (.bool y.Armed), .d (.sl 1 (y.Keep.map intRow))])]) ⟨_, 0, ⟨Nat.zero_le _, rfl, rfl⟩, by repeat constructor⟩ ?_
  rintro n k ⟨hk, rfl, ht⟩
  refine cx_seq (cx_seq (cx_ops ?_))
  refine ax_q (q_mov rfl) ?_
  refine ax_q (q_fadr_ptr rfl) ?_
  refine ax_q (q_load1_ptr rfl rfl rfl) ?_
  refine ax_q (q_lenS_map rfl) ?_
  refine ax_q (q_ibin rfl rfl rfl) ?_
  refine ax_nil (cx_keep rfl rfl ?_)
  refine cx_cond rfl (fun h1 => ?_) (fun h1 => ?_)
  ·
   have h1 := dT h1
   have h1x : k < x.Cache.length := by omega
   have h1y : k < y.Cache.length := by omega
   refine cx_skip ?_
   refine cx_keep rfl rfl (cx_seq (cx_block (cx_seq (cx_draw ?_))))
   refine ax_q (q_fadr_ptr rfl) ?_
   refine ax_q (q_load1_ptr rfl rfl rfl) ?_
   refine ax_q (q_mov rfl) ?_
   refine ax_q (q_ix rfl rfl (mapAt h1x)) ?_
   first | refine ax_q (q_ldN rfl rfl rfl) ?_ | refine ax_q (q_loadN_ip rfl (Nat.le_refl _)) ?_
   refine ax_q (q_fadr_ptr rfl) ?_
   refine ax_q (q_load1_ptr rfl rfl rfl) ?_
   refine ax_q (q_mov rfl) ?_
   refine ax_q (q_ix rfl rfl (mapAt h1y)) ?_
   first | refine ax_q (q_ldN rfl rfl rfl) ?_ | refine ax_q (q_loadN_ip rfl (Nat.le_refl _)) ?_
   refine ax_qe (r' := bool (!eqb x.Cache[k] y.Cache[k])) (GPending.q_eqs (a := x.Cache[k]) (b := y.Cache[k]) rfl rfl) (rfl) ?_
   refine ax_nil (cx_keep rfl rfl ?_)
   refine cx_cond rfl (fun h2 => ?_) (fun h2 => ?_)
   ·
    have h2 := bT h2
    refine cx_seq (cx_ops ?_)
    refine ax_q (q_mov rfl) ?_
    refine ax_nil (cx_keep rfl rfl ?_)
    refine cx_ret (ret0 rfl rfl ?_)
    exact ⟨congrArg AM.bool (eqb_f (fun h => by have hh := eqbL_no h1x h1y h2; rw [h, eqb_rfl] at hh; cases hh)).symm, rfl⟩
   ·
    have h2 := bF h2
    refine cx_skip ?_
    refine cx_keep rfl rfl (cx_ops ?_)
    refine ax_q (q_mov rfl) ?_
    refine ax_qe (r' := int ((k + 1 : Nat) : Int)) (q_ibin rfl rfl rfl) (by rw [wi (by omega) (by omega)]; rfl) ?_
    refine ax_q (q_mov rfl) ?_
    refine ax_nil ?_
    exact ⟨_, k + 1, by omega, ⟨by omega, rfl, eqbL_step h1x h1y ht h2⟩, by repeat constructor⟩
  ·
   have h1 := dF h1
   refine cx_exit rfl ?_
   refine cx_keep rfl rfl (cx_seq (cx_ops ?_))
   refine ax_q (q_mov rfl) ?_
   refine ax_nil (cx_keep rfl rfl ?_)
   refine cx_ret (ret0 rfl rfl ?_)
   exact ⟨congrArg AM.bool (eqb_t (GDisk.ext1 f1 (eq_of_take f2 (by rwa [show k = x.Cache.length from by omega] at ht)) f3 f4)).symm, rfl⟩


/- loop.example/g00332/laws.samePage -/
def k_c_samePage : XCode :=
 .seq (.ops [.op (some 2) (.box (.t 0)),
   .op (some 3) (.box (.t 1)),
   .op (some 4) (.mov (.k (.bool false)))])
 (.keep [2, 3] (.seq (.ops [.op (some 5) (.fadr (.t 2) 0),
   .op (some 6) (.load1 (.t 5)),
   .op (some 7) (.fadr (.t 3) 0),
   .op (some 8) (.load1 (.t 7)),
   .op (some 9) (.bin .eql (.t 6) (.t 8)),
   .op (some 10) (.mov (.t 9)),
   .andor 16 true 5 10 [.op (some 11) (.fadr (.t 2) 1), .op (some 12) (.load1 (.t 11)), .op (some 13) (.fadr (.t 3) 1), .op (some 14) (.load1 (.t 13)), .call (some 15) 80 [.t 12, .t 14]] (.t 15),
   .op (some 4) (.mov (.t 16))])
 (.keep [4] (.ret))))
theorem k_c_samePage_fits : fitsF Tryz.prog 35 ⟨17, k_c_samePage, [.t 4]⟩ = true := by kernel_rfl
theorem c_samePage {x y : Page} (hx : x.slots.length ≤ 1048576) (hy : y.slots.length ≤ 1048576) : Con Tryz.prog noMv 35 [x.av, y.av] [] (fun r h => r = bool (samP x y) ∧ h = []) := by
 refine con_of2 k_c_samePage_fits rfl fun C hP hmv => ?_
 unfold k_c_samePage
 refine cx_seq (cx_ops ?_)
 refine ax_e (e_box rfl rfl (by decide) rfl rfl rfl) ?_
 refine ax_e (e_box rfl rfl (by decide) rfl rfl rfl) ?_
 refine ax_q (q_mov rfl) ?_
 refine ax_nil (cx_keep rfl rfl (cx_seq (cx_ops ?_)))
 refine ax_q (q_fadr_ptr rfl) ?_
 refine ax_q (q_load1_ptr rfl rfl rfl) ?_
 refine ax_q (q_fadr_ptr rfl) ?_
 refine ax_q (q_load1_ptr rfl rfl rfl) ?_
 refine ax_q (q_ibin rfl rfl rfl) ?_
 refine ax_q (q_mov rfl) ?_
 apply ax_and rfl rfl
 ·
  intro g
  have g := dT g
  refine ax_q (q_fadr_ptr rfl) ?_
  refine ax_q (q_load1_ptr rfl rfl rfl) ?_
  refine ax_q (q_fadr_ptr rfl) ?_
  refine ax_q (q_load1_ptr rfl rfl rfl) ?_
  refine ax_call rfl (vc_pure0 (c_sameTexts (xs := x.slots) (ys := y.slots) ?_ ?_) hP rfl rfl ?_)
  ·
   assumption
  ·
   assumption
  exact ax_nil ⟨rfl, by repeat constructor⟩
 refine ax_q (q_mov rfl) ?_
 refine ax_nil (cx_keep rfl rfl ?_)
 refine cx_ret (ret0 rfl rfl ?_)
 exact ⟨rfl, rfl⟩


/- loop.example/g00332/laws.sameStore -/
def k_c_sameStore : XCode :=
 .seq (.ops [.op (some 2) (.box (.t 0)),
   .op (some 3) (.box (.t 1)),
   .op (some 4) (.mov (.k (.bool false)))])
 (.keep [2, 3] (.seq (.seq (.ops [.op (some 8) (.fadr (.t 2) 0),
   .op (some 9) (.loadN 4 (.t 8)),
   .op (some 10) (.fadr (.t 3) 0),
   .op (some 11) (.loadN 4 (.t 10)),
   .call (some 12) 34 [.t 9, .t 11],
   .op (some 13) (.not (.t 12)),
   .op (some 14) (.mov (.t 13)),
   .andor 20 false 6 14 [.op (some 15) (.fadr (.t 2) 4), .op (some 16) (.load1 (.t 15)), .op (some 17) (.fadr (.t 3) 4), .op (some 18) (.load1 (.t 17)), .op (some 19) (.bin .neq (.t 16) (.t 18))] (.t 19),
   .op (some 21) (.mov (.t 20)),
   .andor 28 false 13 21 [.op (some 22) (.fadr (.t 2) 5), .op (some 23) (.load1 (.t 22)), .op (some 24) (.fadr (.t 3) 5), .op (some 25) (.load1 (.t 24)), .call (some 26) 14 [.t 23, .t 25], .op (some 27) (.not (.t 26))] (.t 27),
   .op (some 29) (.mov (.t 28)),
   .andor 35 false 21 29 [.op (some 30) (.fadr (.t 2) 6), .op (some 31) (.load1 (.t 30)), .op (some 32) (.fadr (.t 3) 6), .op (some 33) (.load1 (.t 32)), .op (some 34) (.bin .neq (.t 31) (.t 33))] (.t 34),
   .op (some 36) (.mov (.t 35)),
   .andor 42 false 28 36 [.op (some 37) (.fadr (.t 2) 8), .op (some 38) (.load1 (.t 37)), .op (some 39) (.fadr (.t 3) 8), .op (some 40) (.load1 (.t 39)), .op (some 41) (.bin .neq (.t 38) (.t 40))] (.t 41),
   .op (some 43) (.mov (.t 42)),
   .andor 51 false 35 43 [.op (some 44) (.fadr (.t 2) 7), .op (some 45) (.load1 (.t 44)), .op (some 46) (.lenS (.t 45)), .op (some 47) (.fadr (.t 3) 7), .op (some 48) (.load1 (.t 47)), .op (some 49) (.lenS (.t 48)), .op (some 50) (.bin .neq (.t 46) (.t 49))] (.t 50)])
  (.keep [2, 3, 51] (.cond (.t 51)
  (.seq (.ops [.op (some 4) (.mov (.k (.bool false)))])
   (.keep [4] (.ret)))
  (.skip))))
 (.keep [2, 3] (.seq (.seq (.ops [.op (some 5) (.mov (.k (.int .i64 0)))])
  (.keep [2, 3, 5] (.block 0 (.loop (.seq (.seq (.ops [.op (some 52) (.mov (.t 5)),
     .op (some 53) (.fadr (.t 2) 7),
     .op (some 54) (.load1 (.t 53)),
     .op (some 55) (.lenS (.t 54)),
     .op (some 56) (.bin .lss (.t 52) (.t 55))])
   (.keep [2, 3, 5, 56] (.cond (.t 56)
    (.skip)
    (.exit 0))))
   (.keep [2, 3, 5] (.seq (.block 1 (.seq (.ops [.op (some 59) (.fadr (.t 2) 7),
     .op (some 60) (.load1 (.t 59)),
     .op (some 61) (.mov (.t 5)),
     .op (some 62) (.iadr 5 (.t 60) (.t 61)),
     .op (some 63) (.loadN 5 (.t 62)),
     .op (some 6) (.alloc [.int .i64 0, .int .i64 0, .nils 1, .bool false, .int .i64 0]),
     .op none (.store 5 (.t 6) (.t 63))])
    (.keep [2, 3, 5, 6] (.seq (.ops [.op (some 64) (.fadr (.t 3) 7),
     .op (some 65) (.load1 (.t 64)),
     .op (some 66) (.mov (.t 5)),
     .op (some 67) (.iadr 5 (.t 65) (.t 66)),
     .op (some 68) (.loadN 5 (.t 67)),
     .op (some 7) (.alloc [.int .i64 0, .int .i64 0, .nils 1, .bool false, .int .i64 0]),
     .op none (.store 5 (.t 7) (.t 68))])
    (.keep [2, 3, 5, 6, 7] (.seq (.ops [.op (some 69) (.fadr (.t 6) 0),
     .op (some 70) (.load1 (.t 69)),
     .op (some 71) (.fadr (.t 7) 0),
     .op (some 72) (.load1 (.t 71)),
     .op (some 73) (.bin .neq (.t 70) (.t 72)),
     .op (some 74) (.mov (.t 73)),
     .andor 80 false 5 74 [.op (some 75) (.fadr (.t 6) 3), .op (some 76) (.load1 (.t 75)), .op (some 77) (.fadr (.t 7) 3), .op (some 78) (.load1 (.t 77)), .op (some 79) (.eqb true (.t 76) (.t 78))] (.t 79),
     .op (some 81) (.mov (.t 80)),
     .andor 87 false 12 81 [.op (some 82) (.fadr (.t 6) 4), .op (some 83) (.load1 (.t 82)), .op (some 84) (.fadr (.t 7) 4), .op (some 85) (.load1 (.t 84)), .op (some 86) (.bin .neq (.t 83) (.t 85))] (.t 86),
     .op (some 88) (.mov (.t 87)),
     .andor 95 false 19 88 [.op (some 89) (.fadr (.t 6) 1), .op (some 90) (.loadN 2 (.t 89)), .op (some 91) (.fadr (.t 7) 1), .op (some 92) (.loadN 2 (.t 91)), .call (some 93) 35 [.t 90, .t 92], .op (some 94) (.not (.t 93))] (.t 94)])
    (.keep [2, 3, 5, 95] (.cond (.t 95)
    (.seq (.ops [.op (some 4) (.mov (.k (.bool false)))])
     (.keep [4] (.ret)))
    (.skip)))))))))
   (.keep [2, 3, 5] (.ops [.op (some 57) (.mov (.t 5)),
    .op (some 58) (.bin .add (.t 57) (.k (.int .i64 1))),
    .op (some 5) (.mov (.t 58))])))))))))
 (.keep [] (.seq (.ops [.op (some 4) (.mov (.k (.bool true)))])
 (.keep [4] (.ret))))))))
theorem k_c_sameStore_fits : fitsF Tryz.prog 9 ⟨96, k_c_sameStore, [.t 4]⟩ = true := by kernel_rfl
set_option maxHeartbeats 4000000 in
theorem c_sameStore {x : GStore} {m : Nat} (h : DI x m) (hm : m ≤ 60) : Con Tryz.prog noMv 9 [x.av, x.av] [] (fun r h => r = bool true ∧ h = []) := by
 refine con_of2 k_c_sameStore_fits rfl fun C hP hmv => ?_
 unfold k_c_sameStore
 obtain ⟨hw0, hw1, hw2, hw3, hwa, hw4, hw5, hw6⟩ := di_stb h hm
 refine cx_seq (cx_ops ?_)
 refine ax_e (e_box rfl rfl (by decide) rfl rfl rfl) ?_
 refine ax_e (e_box rfl rfl (by decide) rfl rfl rfl) ?_
 refine ax_q (q_mov rfl) ?_
 refine ax_nil (cx_keep rfl rfl (cx_seq (cx_seq (cx_ops ?_))))
 refine ax_q (q_fadr_ptr rfl) ?_
 refine ax_q (q_ldN rfl rfl rfl) ?_
 refine ax_q (q_fadr_ptr rfl) ?_
 refine ax_q (q_ldN rfl rfl rfl) ?_
 refine ax_call rfl (vc_pure0 (c_sameDisk (x := x.Disk) (y := x.Disk) ?_ ?_ ?_ ?_ ?_ ?_) hP rfl rfl ?_)
 ·
  assumption
 ·
  assumption
 ·
  assumption
 ·
  assumption
 ·
  assumption
 ·
  assumption
 refine ax_q (q_not rfl) ?_
 refine ax_q (q_mov rfl) ?_
 apply ax_or rfl rfl
 ·
  intro g
  have g := bF g
  refine ax_q (q_fadr_ptr rfl) ?_
  refine ax_q (q_load1_ptr rfl rfl rfl) ?_
  refine ax_q (q_fadr_ptr rfl) ?_
  refine ax_q (q_load1_ptr rfl rfl rfl) ?_
  refine ax_q (q_ibin rfl rfl rfl) ?_
  exact ax_nil ⟨rfl, by repeat constructor⟩
 refine ax_q (q_mov rfl) ?_
 apply ax_or rfl rfl
 ·
  intro g
  have g := (fun h => And.intro (bF (or_F h).1) (nF (or_F h).2)) g
  refine ax_q (q_fadr_ptr rfl) ?_
  refine ax_q (q_load1_ptr rfl rfl rfl) ?_
  refine ax_q (q_fadr_ptr rfl) ?_
  refine ax_q (q_load1_ptr rfl rfl rfl) ?_
  refine ax_call rfl (vc_pure0 (c_sameLog (xs := x.Log) ?_) hP rfl rfl ?_)
  ·
   assumption
  refine ax_q (q_not rfl) ?_
  exact ax_nil ⟨rfl, by repeat constructor⟩
 refine ax_q (q_mov rfl) ?_
 apply ax_or rfl rfl
 ·
  intro g
  have g := (fun h => And.intro ((fun h => And.intro (bF (or_F h).1) (nF (or_F h).2)) (or_F h).1) (bF (or_F h).2)) g
  refine ax_q (q_fadr_ptr rfl) ?_
  refine ax_q (q_load1_ptr rfl rfl rfl) ?_
  refine ax_q (q_fadr_ptr rfl) ?_
  refine ax_q (q_load1_ptr rfl rfl rfl) ?_
  refine ax_q (q_ibin rfl rfl rfl) ?_
  exact ax_nil ⟨rfl, by repeat constructor⟩
 refine ax_q (q_mov rfl) ?_
 apply ax_or rfl rfl
 ·
  intro g
  have g := (fun h => And.intro ((fun h => And.intro ((fun h => And.intro (bF (or_F h).1) (nF (or_F h).2)) (or_F h).1) (bF (or_F h).2)) (or_F h).1) (nF (or_F h).2)) g
  refine ax_q (q_fadr_ptr rfl) ?_
  refine ax_q (q_load1_ptr rfl rfl rfl) ?_
  refine ax_q (q_fadr_ptr rfl) ?_
  refine ax_q (q_load1_ptr rfl rfl rfl) ?_
  refine ax_q (q_ibin rfl rfl rfl) ?_
  exact ax_nil ⟨rfl, by repeat constructor⟩
 refine ax_q (q_mov rfl) ?_
 apply ax_or rfl rfl
 ·
  intro g
  have g := (fun h => And.intro ((fun h => And.intro ((fun h => And.intro ((fun h => And.intro (bF (or_F h).1) (nF (or_F h).2)) (or_F h).1) (bF (or_F h).2)) (or_F h).1) (nF (or_F h).2)) (or_F h).1) (nF (or_F h).2)) g
  refine ax_q (q_fadr_ptr rfl) ?_
  refine ax_q (q_load1_ptr rfl rfl rfl) ?_
  refine ax_q (q_lenS_map rfl) ?_
  refine ax_q (q_fadr_ptr rfl) ?_
  refine ax_q (q_load1_ptr rfl rfl rfl) ?_
  refine ax_q (q_lenS_map rfl) ?_
  refine ax_q (q_ibin rfl rfl rfl) ?_
  exact ax_nil ⟨rfl, by repeat constructor⟩
 refine ax_nil (cx_keep rfl rfl ?_)
 refine cx_cond rfl (fun h0 => ?_) (fun h0 => ?_)
 ·
  skip
  exfalso; simp [eqb_rfl] at h0
 ·
  skip
  refine cx_skip ?_
  refine cx_keep rfl rfl (cx_seq (cx_seq (cx_ops ?_)))
  refine ax_q (q_mov rfl) ?_
  refine ax_nil (cx_keep rfl rfl (cx_block ?_))
  refine cx_loopU (fun n k => k ≤ x.Frames.length ∧ n = x.Frames.length - k) (fun k : Nat => [(5, int k)]) (fun _ => [(3, .box (x.row.map .d)), (2, .box (x.row.map .d))]) ⟨_, 0, ⟨Nat.zero_le _, rfl⟩, by repeat constructor⟩ ?_
  rintro n k ⟨hk, rfl⟩
  refine cx_seq (cx_seq (cx_ops ?_))
  refine ax_q (q_mov rfl) ?_
  refine ax_q (q_fadr_ptr rfl) ?_
  refine ax_q (q_load1_ptr rfl rfl rfl) ?_
  refine ax_q (q_lenS_map rfl) ?_
  refine ax_q (q_ibin rfl rfl rfl) ?_
  refine ax_nil (cx_keep rfl rfl ?_)
  refine cx_cond rfl (fun h1 => ?_) (fun h1 => ?_)
  ·
   have h1 := dT h1
   have h1x : k < x.Frames.length := by omega
   have hwk := hw5 _ (List.getElem_mem h1x)
   refine cx_skip ?_
   refine cx_keep rfl rfl (cx_seq (cx_block (cx_seq (cx_ops ?_))))
   refine ax_q (q_fadr_ptr rfl) ?_
   refine ax_q (q_load1_ptr rfl rfl rfl) ?_
   refine ax_q (q_mov rfl) ?_
   refine ax_q (q_ix rfl rfl (mapAt h1x)) ?_
   first | refine ax_q (q_ldN rfl rfl rfl) ?_ | refine ax_q (q_loadN_ip rfl (Nat.le_refl _)) ?_
   refine ax_e (e_alloc (by decide) rfl rfl) ?_
   refine ax_e (e_st rfl rfl rfl rfl rfl rfl rfl) ?_
   refine ax_nil (cx_keep rfl rfl (cx_seq (cx_ops ?_)))
   refine ax_q (q_fadr_ptr rfl) ?_
   refine ax_q (q_load1_ptr rfl rfl rfl) ?_
   refine ax_q (q_mov rfl) ?_
   refine ax_q (q_ix rfl rfl (mapAt h1x)) ?_
   first | refine ax_q (q_ldN rfl rfl rfl) ?_ | refine ax_q (q_loadN_ip rfl (Nat.le_refl _)) ?_
   refine ax_e (e_alloc (by decide) rfl rfl) ?_
   refine ax_e (e_st rfl rfl rfl rfl rfl rfl rfl) ?_
   refine ax_nil (cx_keep rfl rfl (cx_seq (cx_ops ?_)))
   refine ax_q (q_fadr_ptr rfl) ?_
   refine ax_q (q_load1_ptr rfl rfl rfl) ?_
   refine ax_q (q_fadr_ptr rfl) ?_
   refine ax_q (q_load1_ptr rfl rfl rfl) ?_
   refine ax_q (q_ibin rfl rfl rfl) ?_
   refine ax_q (q_mov rfl) ?_
   apply ax_or rfl rfl
   ·
    intro g
    have g := nF g
    refine ax_q (q_fadr_ptr rfl) ?_
    refine ax_q (q_load1_ptr rfl rfl rfl) ?_
    refine ax_q (q_fadr_ptr rfl) ?_
    refine ax_q (q_load1_ptr rfl rfl rfl) ?_
    refine ax_q (q_eqb rfl rfl) ?_
    exact ax_nil ⟨rfl, by repeat constructor⟩
   refine ax_q (q_mov rfl) ?_
   apply ax_or rfl rfl
   ·
    intro g
    have g := (fun h => And.intro (nF (or_F h).1) (bneF (or_F h).2)) g
    refine ax_q (q_fadr_ptr rfl) ?_
    refine ax_q (q_load1_ptr rfl rfl rfl) ?_
    refine ax_q (q_fadr_ptr rfl) ?_
    refine ax_q (q_load1_ptr rfl rfl rfl) ?_
    refine ax_q (q_ibin rfl rfl rfl) ?_
    exact ax_nil ⟨rfl, by repeat constructor⟩
   refine ax_q (q_mov rfl) ?_
   apply ax_or rfl rfl
   ·
    intro g
    have g := (fun h => And.intro ((fun h => And.intro (nF (or_F h).1) (bneF (or_F h).2)) (or_F h).1) (nF (or_F h).2)) g
    refine ax_q (q_fadr_ptr rfl) ?_
    refine ax_q (q_ldN rfl rfl rfl) ?_
    refine ax_q (q_fadr_ptr rfl) ?_
    refine ax_q (q_ldN rfl rfl rfl) ?_
    refine ax_call rfl (vc_pure0 (c_samePage (x := x.Frames[k].Page) (y := x.Frames[k].Page) ?_ ?_) hP rfl rfl ?_)
    ·
     assumption
    ·
     assumption
    refine ax_q (q_not rfl) ?_
    exact ax_nil ⟨rfl, by repeat constructor⟩
   refine ax_nil (cx_keep rfl rfl ?_)
   refine cx_cond rfl (fun h2 => ?_) (fun h2 => ?_)
   ·
    skip
    exfalso; simp [samP_rfl] at h2
   ·
    skip
    refine cx_skip ?_
    refine cx_keep rfl rfl (cx_ops ?_)
    refine ax_q (q_mov rfl) ?_
    refine ax_qe (r' := int ((k + 1 : Nat) : Int)) (q_ibin rfl rfl rfl) (by rw [wi (by omega) (by omega)]; rfl) ?_
    refine ax_q (q_mov rfl) ?_
    refine ax_nil ?_
    exact ⟨_, k + 1, by omega, ⟨by omega, rfl⟩, by repeat constructor⟩
  ·
   have h1 := dF h1
   refine cx_exit rfl ?_
   refine cx_keep rfl rfl (cx_seq (cx_ops ?_))
   refine ax_q (q_mov rfl) ?_
   refine ax_nil (cx_keep rfl rfl ?_)
   refine cx_ret (ret0 rfl rfl ?_)
   exact ⟨rfl, rfl⟩


/- loop.example/g00332/impl.DiskCrash -/
def k_c_DiskCrashD : XCode :=
 .seq (.ops [.op (some 2) (.box (.t 0)),
   .op (some 4) (.alloc [.nils 1, .nils 2, .bool false, .nils 1]),
   .op (some 5) (.mov (.k (.int .i64 0)))])
 (.keep [1, 2, 4] (.seq (.block 0 (.seq (.ops [.op (some 8) (.mov (.t 1)),
    .op (some 9) (.lenS (.t 8)),
    .op (some 10) (.bin .gtr (.t 9) (.k (.int .i64 4096))),
    .op (some 7) (.mov (.t 10))])
  (.keep [1, 2, 4, 7] (.cond (.t 7)
   (.seq (.ops [.op (some 11) (.build [.nils 1, .nils 2, .bool false, .nils 1] []),
     .op none (.store 4 (.t 4) (.t 11)),
     .op (some 5) (.mov (.k (.int .i64 2)))])
   (.keep [4, 5] (.ret)))
   (.seq (.ops [.op (some 13) (.loadN 4 (.t 2)),
     .call (some 14) 36 [.t 13],
     .op (some 15) (.not (.t 14)),
     .op (some 12) (.mov (.t 15))])
   (.keep [1, 2, 4, 12] (.cond (.t 12)
    (.seq (.ops [.op (some 16) (.build [.nils 1, .nils 2, .bool false, .nils 1] []),
      .op none (.store 4 (.t 4) (.t 16)),
      .op (some 5) (.mov (.k (.int .i64 1)))])
    (.keep [4, 5] (.ret)))
    (.skip))))))))
 (.keep [1, 2, 4] (.seq (.ops [.op (some 17) (.loadN 4 (.t 2)),
   .call (some 18) 41 [.t 17],
   .op (some 6) (.alloc [.nils 1, .nils 2, .bool false, .nils 1]),
   .op none (.store 4 (.t 6) (.t 18))])
 (.keep [1, 4, 6] (.seq (.ops [.op (some 19) (.mov (.t 1)),
   .call (some 20) 42 [.t 6, .t 19]])
 (.keep [4, 6] (.seq (.ops [.op (some 21) (.loadN 4 (.t 6)),
   .op none (.store 4 (.t 4) (.t 21)),
   .op (some 5) (.mov (.k (.int .i64 0)))])
 (.keep [4, 5] (.ret))))))))))
theorem k_c_DiskCrashD_fits : fitsF Tryz.prog 11 ⟨22, k_c_DiskCrashD, [.cN 4 4, .t 5]⟩ = true := by kernel_rfl
theorem c_DiskCrashD {d : GDisk} {keep : List Int} (hw0 : d.Sectors.length ≤ 1048576) (hw1 : d.Cache.length ≤ 1048576) (hw2 : d.Keep.length ≤ 1048576) (hk : keep.length ≤ 1048576) (hd : DOK d) (hk5 : keep.length ≤ 500) : Con Tryz.prog noMv 11 [d.av, .d (.sl 1 (keep.map intRow))] [] (fun r h => r = .tup [(crashD d keep).av, int 0] ∧ h = []) := by
 refine con_of2 k_c_DiskCrashD_fits rfl fun C hP hmv => ?_
 unfold k_c_DiskCrashD
 refine cx_seq (cx_ops ?_)
 refine ax_e (e_box rfl rfl (by decide) rfl rfl rfl) ?_
 refine ax_e (e_alloc (by decide) rfl rfl) ?_
 refine ax_q (q_mov rfl) ?_
 refine ax_nil (cx_keep rfl rfl (cx_seq (cx_block (cx_seq (cx_ops ?_)))))
 refine ax_q (q_mov rfl) ?_
 refine ax_q (q_lenS_map rfl) ?_
 refine ax_q (q_ibin rfl rfl rfl) ?_
 refine ax_q (q_mov rfl) ?_
 refine ax_nil (cx_keep rfl rfl ?_)
 refine cx_cond rfl (fun h0 => ?_) (fun h0 => ?_)
 ·
  have h0 := dT h0
  exfalso; omega
 ·
  have h0 := dF h0
  refine cx_seq (cx_ops ?_)
  refine ax_q (q_ldN rfl rfl rfl) ?_
  refine ax_call rfl (vc_pure0 (c_DiskOK  ?_ ?_ ?_) hP rfl rfl ?_)
  ·
   assumption
  ·
   assumption
  ·
   assumption
  refine ax_q (q_not rfl) ?_
  refine ax_q (q_mov rfl) ?_
  refine ax_nil (cx_keep rfl rfl ?_)
  refine cx_cond rfl (fun h1 => ?_) (fun h1 => ?_)
  ·
   have h1 := bT h1
   exfalso; rw [hd.ok] at h1; cases h1
  ·
   have h1 := bF h1
   refine cx_skip ?_
   refine cx_keep rfl rfl (cx_seq (cx_ops ?_))
   refine ax_q (q_ldN rfl rfl rfl) ?_
   refine ax_call rfl (vc_pure (c_cloneD  ?_ ?_ ?_) hP rfl ?_)
   ·
    assumption
   ·
    assumption
   ·
    assumption
   rintro r h ⟨rfl, rfl⟩
   refine ⟨fun i => 18 + 200 * i, [0, 1, 2], ⟨rfl, rfl, rfl, rfl, rfl, (by first | exact (fun h => absurd h Bool.false_ne_true) | exact (fun _ => ⟨rfl, (noisl_of (by repeat (first | exact trivial | refine ⟨noisl_map (fun _ => rfl), ?_⟩ | refine ⟨?_, ?_⟩)))⟩))⟩, ?_⟩
   skip
   refine ax_e (e_alloc (by decide) rfl rfl) ?_
   refine ax_e (e_st rfl rfl rfl rfl rfl rfl rfl) ?_
   refine ax_nil (cx_keep rfl rfl (cx_seq (cx_ops ?_)))
   refine ax_q (q_mov rfl) ?_
   refine ax_call rfl (vcall_own (c_crash (d := d) (keep := keep) hw0 hw1 hw2 hk (diskOK_at h1)) hP hmv false (fun e => bif Nat.beq e 1000 then 6 else bif Nat.beq e 1001 then 18 else bif Nat.beq e 1002 then 218 else 418) [1000, 1001, 1002, 1003] ⟨rfl, rfl, rfl, rfl, ⟨rfl, rfl, rfl, rfl, trivial⟩, rfl, rfl, rfl⟩ (.pass rfl rfl (.pass rfl rfl .nil)) ?_)
   rintro r h ⟨rfl, rfl⟩
   refine ⟨fun e => bif Nat.beq e 1000 then 6 else bif Nat.beq e 1001 then 18 else bif Nat.beq e 1002 then 218 else 418, [], ⟨rfl, rfl, rfl, rfl, (mem4 rfl rfl rfl rfl), rfl, rfl, fun h => absurd h Bool.false_ne_true⟩, ?_⟩
   refine ax_nil (cx_keep rfl rfl (cx_seq (cx_ops ?_)))
   refine ax_q (q_ldN rfl rfl rfl) ?_
   refine ax_wk (wk_frz 21 18 rfl rfl (.agg (.cons (.whole (List.length_map _).symm) (.cons (.same rfl) (.cons (.same rfl) (.cons (.same rfl) .nil))))) rfl) ?_
   refine ax_wk (wk_frz 21 218 rfl rfl (.agg (.cons (.same rfl) (.cons (.whole (List.length_map _).symm) (.cons (.same rfl) (.cons (.same rfl) .nil))))) rfl) ?_
   refine ax_wk (wk_frz 21 418 rfl rfl (.agg (.cons (.same rfl) (.cons (.same rfl) (.cons (.same rfl) (.cons (.whole (List.length_map _).symm) .nil))))) rfl) ?_
   refine ax_e (e_st rfl rfl rfl rfl rfl rfl rfl) ?_
   refine ax_q (q_mov rfl) ?_
   refine ax_nil (cx_keep rfl rfl ?_)
   refine cx_ret (retN id [] rfl rfl rfl rfl rfl ?_)
   exact ⟨rfl, rfl⟩


/- (ptr loop.example/g00332/spec.l00Src).keeps -/
def k_c_keeps : XCode :=
 .seq (.ops [.op (some 2) (.mov (.k (.nils 1)))])
 (.keep [0] (.seq (.ops [.op (some 5) (.bslice 1 []),
   .op (some 3) (.mov (.t 5))])
 (.keep [0, 3] (.seq (.seq (.ops [.op (some 6) (.mov (.t 0)),
   .call (some 7) 60 [.t 6, .k (.int .i64 12)],
   .op (some 4) (.mov (.t 7))])
  (.keep [0, 3, 4] (.block 0 (.loop (.seq (.seq (.ops [.op (some 8) (.mov (.t 4)),
     .op (some 9) (.bin .gtr (.t 8) (.k (.int .i64 0)))])
   (.keep [0, 3, 4, 9] (.cond (.t 9)
    (.skip)
    (.exit 0))))
   (.keep [0, 3, 4] (.seq (.block 1 (.ops [.op (some 12) (.mov (.t 3)),
     .op (some 13) (.mov (.t 0)),
     .call (some 14) 60 [.t 13, .k (.int .i64 2)],
     .op (some 15) (.bslice 1 [.t 14]),
     .op (some 16) (.app 1 8 [.int .i64 0] (.t 12) (.t 15)),
     .op (some 3) (.mov (.t 16))]))
   (.keep [0, 3, 4] (.ops [.op (some 10) (.mov (.t 4)),
    .op (some 11) (.bin .sub (.t 10) (.k (.int .i64 1))),
    .op (some 4) (.mov (.t 11))])))))))))
 (.keep [3] (.seq (.ops [.op (some 17) (.mov (.t 3)),
   .op (some 2) (.mov (.t 17))])
 (.keep [2] (.ret))))))))
theorem k_c_keeps_fits : fitsF Tryz.prog 43 ⟨18, k_c_keeps, [.t 2]⟩ = true := by kernel_rfl
theorem c_keeps {s : Src} {n : Nat} (hs : s.ok (n + 36)) : Con Tryz.prog noMv 43 [.ptr 1000 0] (s.h 1000) (fun r h => r = .d (.sl 1 ((keepsF s).1.map intRow)) ∧ h = ((keepsF s).2).h 1000) := by
 refine con_of2 k_c_keeps_fits rfl fun C hP hmv => ?_
 unfold k_c_keeps
 refine cx_seq (cx_ops ?_)
 refine ax_q (q_mov rfl) ?_
 refine ax_nil (cx_keep rfl rfl (cx_seq (cx_ops ?_)))
 refine ax_e (e_bslice rfl (by decide) rfl rfl) ?_
 refine ax_q (q_mov rfl) ?_
 refine ax_nil (cx_keep rfl rfl (cx_seq (cx_seq (cx_ops ?_))))
 refine ax_q (q_mov rfl) ?_
 obtain ⟨q1, q2, q3⟩ := nextF_ok (s := s) (n := 12) (k := n + 33) hs
 have q3 := q3 (by omega)
 refine ax_call rfl (vcall_own (c_next (n := n + 33) ?_) hP hmv false (fun _ => 1000) [1000] ⟨rfl, rfl, rfl, rfl, ⟨rfl, trivial⟩, rfl, rfl, rfl⟩ (.pass rfl rfl (.pass rfl rfl .nil)) ?_)
 ·
  assumption
 rintro r h ⟨rfl, rfl⟩
 refine ⟨fun _ => 1000, [], ⟨rfl, rfl, rfl, rfl, mem1 rfl, rfl, rfl, fun h => absurd h Bool.false_ne_true⟩, ?_⟩
 refine ax_q (q_mov rfl) ?_
 refine ax_nil (cx_keep rfl rfl (cx_block ?_))
 refine cx_loopU (fun n1 (p : Nat × Src × List Int) => n1 = p.1 ∧ p.1 + p.2.2.length ≤ 11 ∧ p.2.1.ok (n + 3 * p.1) ∧ keepsL p.1 p.2.1 p.2.2 = keepsF s) (fun p => [(4, int p.1), (3, .osl 5 1 0 p.2.2.length)]) (fun p => [(1000, p.2.1.box), (5, .rows 1 (p.2.2.map intRow))])
  ⟨_, ((nextF s 12).1.toNat, (nextF s 12).2, []), ⟨rfl, by simp only [List.length_nil]; omega, q1.mono (by simp only; omega), rfl⟩, by rw [show (((nextF s 12).1.toNat : Nat) : Int) = (nextF s 12).1 from by omega]; exact (by repeat constructor)⟩ ?_
 rintro n1 ⟨m, u, l⟩ ⟨rfl, hm, hu, he⟩
 simp only at hm hu he ⊢
 refine cx_seq (cx_seq (cx_ops ?_))
 refine ax_q (q_mov rfl) ?_
 refine ax_q (q_ibin rfl rfl rfl) ?_
 refine ax_nil (cx_keep rfl rfl ?_)
 refine cx_cond rfl (fun h0 => ?_) (fun h0 => ?_)
 ·
  have h0 := dT h0
  obtain ⟨m, rfl⟩ : ∃ m2, n1 = m2 + 1 := ⟨n1 - 1, by omega⟩
  obtain ⟨k1, k2, k3⟩ := nextF_ok (s := u) (n := 2) (k := n + 3 * m) (hu.mono (by omega))
  refine cx_skip ?_
  refine cx_keep rfl rfl (cx_seq (cx_block (cx_ops ?_)))
  refine ax_q (q_mov rfl) ?_
  refine ax_q (q_mov rfl) ?_
  refine ax_call rfl (vcall_own (c_next (n := n + 3 * m) ?_) hP hmv false (fun _ => 1000) [1000] ⟨rfl, rfl, rfl, rfl, ⟨rfl, trivial⟩, rfl, rfl, rfl⟩ (.pass rfl rfl (.pass rfl rfl .nil)) ?_)
  ·
   exact hu.mono (by omega)
  rintro r h ⟨rfl, rfl⟩
  refine ⟨fun _ => 1000, [], ⟨rfl, rfl, rfl, rfl, mem1 rfl, rfl, rfl, fun h => absurd h Bool.false_ne_true⟩, ?_⟩
  refine ax_e (e_bslice rfl (by decide) rfl rfl) ?_
  refine ax_e (e_appn (n' := (l ++ [(nextF u 2).1]).length) (rs' := (l ++ [(nextF u 2).1]).map intRow) rfl rfl (by simp) rfl (src_osl rfl (by simp)) (.inl (by decide)) (hbnd (by omega) (by simp) (by decide)) (by simp) (app1 rfl)) ?_
  refine ax_q (q_mov rfl) ?_
  refine ax_nil (cx_keep rfl rfl (cx_ops ?_))
  refine ax_q (q_mov rfl) ?_
  refine ax_qe (r' := int (m : Int)) (q_ibin rfl rfl rfl) (by rw [wi (by omega) (by omega)]; exact congrArg AM.int (by omega)) ?_
  refine ax_q (q_mov rfl) ?_
  refine ax_nil ?_
  exact ⟨_, (m, (nextF u 2).2, l ++ [(nextF u 2).1]), by omega, ⟨rfl, by simp only [List.length_append, List.length_cons, List.length_nil]; omega, k1, by rw [← he]; rfl⟩, by repeat constructor⟩
 ·
  have h0 := dF h0
  obtain rfl : n1 = 0 := by omega
  have he2 : keepsF s = (l, u) := he.symm
  refine cx_exit rfl ?_
  refine cx_keep rfl rfl (cx_seq (cx_ops ?_))
  refine ax_q (q_mov rfl) ?_
  refine ax_q (q_mov rfl) ?_
  refine ax_nil (cx_keep rfl rfl ?_)
  refine cx_wk (wk_frz 2 5 rfl rfl (.whole (List.length_map _).symm) rfl) ?_
  refine cx_ret (retN id [1000] rfl rfl rfl rfl rfl ?_)
  rw [he2]; exact ⟨rfl, rfl⟩


/- loop.example/g00332/spec.KeepsOf -/
def k_c_KeepsOfF : XCode :=
 .seq (.ops [.op (some 2) (.mov (.k (.nils 1)))])
 (.keep [0] (.seq (.ops [.op (some 3) (.mov (.t 0)),
   .call (some 4) 24 [.t 3],
   .call (some 5) 43 [.t 4],
   .op (some 2) (.mov (.t 5))])
 (.keep [2] (.ret))))
theorem k_c_KeepsOfF_fits : fitsF Tryz.prog 12 ⟨6, k_c_KeepsOfF, [.t 2]⟩ = true := by kernel_rfl
theorem c_KeepsOfF {code : Str} (hl : code.length ≤ 1048576) : Con Tryz.prog noMv 12 [.d (.sl 1 (code.map byteRow))] [] (fun r h => r = .d (.sl 1 ((keepsF (srcOf code)).1.map intRow)) ∧ h = []) := by
 refine con_of2 k_c_KeepsOfF_fits rfl fun C hP hmv => ?_
 unfold k_c_KeepsOfF
 refine cx_seq (cx_ops ?_)
 refine ax_q (q_mov rfl) ?_
 refine ax_nil (cx_keep rfl rfl (cx_seq (cx_ops ?_)))
 refine ax_q (q_mov rfl) ?_
 refine ax_call rfl (vc_pure (c_l00Source hl) hP rfl ?_)
 rintro r h ⟨rfl, rfl⟩
 refine ⟨fun _ => 4, [0], ⟨rfl, rfl, rfl, rfl, rfl, fun h => absurd h Bool.false_ne_true⟩, ?_⟩
 refine ax_call rfl (vcall_own (c_keeps (n := 0) ((srcOf_ok hl).mono (by omega))) hP hmv false (fun _ => 4) [1000] ⟨rfl, rfl, rfl, rfl, ⟨rfl, trivial⟩, rfl, rfl, rfl⟩ (.pass rfl rfl .nil) ?_)
 rintro r h ⟨rfl, rfl⟩
 refine ⟨fun _ => 4, [], ⟨rfl, rfl, rfl, rfl, mem1 rfl, rfl, rfl, fun h => absurd h Bool.false_ne_true⟩, ?_⟩
 refine ax_q (q_mov rfl) ?_
 refine ax_nil (cx_keep rfl rfl ?_)
 refine cx_ret (retN id [] rfl rfl rfl rfl rfl ?_)
 exact ⟨rfl, rfl⟩


/- loop.example/g00332/impl.ReadRecord -/
def k_c_ReadRecord : XCode :=
 .seq (.ops [.op (some 2) (.alloc [.int .i64 0, .int .i64 0, .int .i64 0, .int .i64 0, .int .i64 0, .int .i64 0, .int .i64 0, .int .i64 0, .str [], .str []]),
   .op (some 3) (.mov (.k (.int .i64 0)))])
 (.keep [0, 2] (.seq (.seq (.ops [.op (some 10) (.mov (.t 0)),
   .op (some 11) (.lenS (.t 10)),
   .op (some 12) (.bin .gtr (.t 11) (.k (.int .i64 65536)))])
  (.keep [0, 2, 12] (.cond (.t 12)
  (.seq (.ops [.op (some 13) (.build [.int .i64 0, .int .i64 0, .int .i64 0, .int .i64 0, .int .i64 0, .int .i64 0, .int .i64 0, .int .i64 0, .str [], .str []] []),
    .op none (.store 10 (.t 2) (.t 13)),
    .op (some 3) (.mov (.k (.int .i64 2)))])
   (.keep [2, 3] (.ret)))
  (.skip))))
 (.keep [0, 2] (.seq (.ops [.op (some 15) (.mov (.t 0)),
   .call (some 16) 136 [.t 15],
   .op (some 14) (.mov (.t 16)),
   .op (some 17) (.ext (.t 14) 0),
   .op (some 18) (.ext (.t 14) 1),
   .op (some 4) (.mov (.t 17)),
   .op (some 5) (.mov (.t 18))])
 (.keep [2, 4, 5] (.seq (.seq (.ops [.op (some 19) (.mov (.t 5)),
   .op (some 20) (.not (.t 19))])
  (.keep [2, 4, 20] (.cond (.t 20)
  (.seq (.ops [.op (some 21) (.build [.int .i64 0, .int .i64 0, .int .i64 0, .int .i64 0, .int .i64 0, .int .i64 0, .int .i64 0, .int .i64 0, .str [], .str []] []),
    .op none (.store 10 (.t 2) (.t 21)),
    .op (some 3) (.mov (.k (.int .i64 8)))])
   (.keep [2, 3] (.ret)))
  (.skip))))
 (.keep [2, 4] (.seq (.ops [.op (some 22) (.mov (.t 4)),
   .op (some 23) (.build [.nils 1, .bool false] [(0, 1, .t 22)]),
   .op (some 24) (.box (.t 23)),
   .op (some 6) (.mov (.t 24))])
 (.keep [2, 6] (.seq (.ops [.op (some 25) (.mov (.t 6)),
   .call (some 26) 144 [.t 25],
   .op (some 7) (.mov (.t 26))])
 (.keep [2, 6, 7] (.seq (.ops [.op (some 27) (.mov (.t 6)),
   .call (some 28) 144 [.t 27],
   .op (some 29) (.mov (.t 6)),
   .call (some 30) 144 [.t 29],
   .op (some 31) (.mov (.t 6)),
   .call (some 32) 144 [.t 31],
   .op (some 33) (.mov (.t 6)),
   .call (some 34) 144 [.t 33],
   .op (some 35) (.mov (.t 6)),
   .call (some 36) 144 [.t 35],
   .op (some 37) (.mov (.t 6)),
   .call (some 38) 144 [.t 37],
   .op (some 39) (.mov (.t 6)),
   .call (some 40) 144 [.t 39],
   .op (some 41) (.mov (.t 6)),
   .call (some 42) 144 [.t 41],
   .op (some 43) (.build [.int .i64 0, .int .i64 0, .int .i64 0, .int .i64 0, .int .i64 0, .int .i64 0, .int .i64 0, .int .i64 0, .str [], .str []] [(0, 1, .t 28), (1, 1, .t 30), (2, 1, .t 32), (3, 1, .t 34), (4, 1, .t 36), (5, 1, .t 38), (6, 1, .t 40), (7, 1, .t 42)]),
   .op (some 8) (.alloc [.int .i64 0, .int .i64 0, .int .i64 0, .int .i64 0, .int .i64 0, .int .i64 0, .int .i64 0, .int .i64 0, .str [], .str []]),
   .op none (.store 10 (.t 8) (.t 43))])
 (.keep [2, 6, 7, 8] (.seq (.ops [.op (some 44) (.mov (.t 6)),
   .call (some 45) 139 [.t 44],
   .op (some 9) (.mov (.t 45))])
 (.keep [2, 6, 7, 8, 9] (.seq (.seq (.ops [.op (some 46) (.mov (.t 6)),
   .call (some 47) 140 [.t 46],
   .op (some 48) (.not (.t 47)),
   .op (some 49) (.mov (.t 48)),
   .andor 52 false 3 49 [.op (some 50) (.mov (.t 7)), .op (some 51) (.bin .neq (.t 50) (.k (.int .i64 108)))] (.t 51),
   .op (some 53) (.mov (.t 52)),
   .andor 57 false 7 53 [.op (some 54) (.mov (.t 9)), .op (some 55) (.lenS (.t 54)), .op (some 56) (.bin .neq (.t 55) (.k (.int .i64 2)))] (.t 56)])
  (.keep [2, 8, 9, 57] (.cond (.t 57)
  (.seq (.ops [.op (some 58) (.build [.int .i64 0, .int .i64 0, .int .i64 0, .int .i64 0, .int .i64 0, .int .i64 0, .int .i64 0, .int .i64 0, .str [], .str []] []),
    .op none (.store 10 (.t 2) (.t 58)),
    .op (some 3) (.mov (.k (.int .i64 3)))])
   (.keep [2, 3] (.ret)))
  (.skip))))
 (.keep [2, 8, 9] (.seq (.drawE [[], [0], [0, 1], [], [3], [3, 4], [0, 1, 2], [0, 1, 2, 6], [0, 1, 2, 3, 4, 5, 6, 7], [0, 1, 2, 3, 4, 5, 6, 7, 8]] [.op (some 59) (.mov (.t 9)),
   .op (some 60) (.iadr 1 (.t 59) (.k (.int .i64 0))),
   .op (some 61) (.load1 (.t 60)),
   .op (some 62) (.mov (.t 9)),
   .op (some 63) (.iadr 1 (.t 62) (.k (.int .i64 1))),
   .op (some 64) (.load1 (.t 63)),
   .op (some 65) (.fadr (.t 8) 8),
   .op none (.store 1 (.t 65) (.t 61))]
  [.op (some 66) (.fadr (.t 8) 9),
   .op none (.store 1 (.t 66) (.t 64))])
 (.keep [2, 8] (.seq (.seq (.ops [.op (some 67) (.loadN 10 (.t 8)),
   .call (some 68) 86 [.t 67],
   .op (some 69) (.not (.t 68))])
  (.keep [2, 8, 69] (.cond (.t 69)
  (.seq (.ops [.op (some 70) (.build [.int .i64 0, .int .i64 0, .int .i64 0, .int .i64 0, .int .i64 0, .int .i64 0, .int .i64 0, .int .i64 0, .str [], .str []] []),
    .op none (.store 10 (.t 2) (.t 70)),
    .op (some 3) (.mov (.k (.int .i64 3)))])
   (.keep [2, 3] (.ret)))
  (.skip))))
 (.keep [2, 8] (.seq (.ops [.op (some 71) (.loadN 10 (.t 8)),
   .op none (.store 10 (.t 2) (.t 71)),
   .op (some 3) (.mov (.k (.int .i64 0)))])
 (.keep [2, 3] (.ret))))))))))))))))))))))))
theorem k_c_ReadRecord_fits : fitsF Tryz.prog 97 ⟨72, k_c_ReadRecord, [.cN 2 10, .t 3]⟩ = true := by kernel_rfl
set_option maxHeartbeats 4000000 in
theorem c_ReadRecord {t : Str} (hl : t.length ≤ 1048576) : Con Tryz.prog noMv 97 [.d (.sl 1 (t.map byteRow))] [] (fun r h => r = .tup [(recF t).1.av, int (recF t).2] ∧ h = []) := by
 refine con_of2 k_c_ReadRecord_fits rfl fun C hP hmv => ?_
 unfold k_c_ReadRecord
 refine cx_seq (cx_ops ?_)
 refine ax_e (e_alloc (by decide) rfl rfl) ?_
 refine ax_q (q_mov rfl) ?_
 refine ax_nil (cx_keep rfl rfl (cx_seq (cx_seq (cx_ops ?_))))
 refine ax_q (q_mov rfl) ?_
 refine ax_q (q_lenS_map rfl) ?_
 refine ax_q (q_ibin rfl rfl rfl) ?_
 refine ax_nil (cx_keep rfl rfl ?_)
 refine cx_cond rfl (fun h0 => ?_) (fun h0 => ?_)
 ·
  have h0 := dT h0
  refine cx_seq (cx_ops ?_)
  refine ax_q (q_build rfl) ?_
  refine ax_e (e_st rfl rfl rfl rfl rfl rfl rfl) ?_
  refine ax_q (q_mov rfl) ?_
  refine ax_nil (cx_keep rfl rfl ?_)
  refine cx_ret (ret0 rfl rfl ?_)
  exact ⟨by rw [recF_1 h0]; rfl, rfl⟩
 ·
  have h0 := dF h0
  refine cx_skip ?_
  refine cx_keep rfl rfl (cx_seq (cx_ops ?_))
  refine ax_q (q_mov rfl) ?_
  refine ax_call rfl (vc_pure0 (c_unsealed (l := t) ?_) hP rfl rfl ?_)
  ·
   assumption
  have hul := @unseal_len t
  refine ax_q (q_mov rfl) ?_
  refine ax_q (q_ext rfl rfl) ?_
  refine ax_q (q_ext rfl rfl) ?_
  refine ax_q (q_mov rfl) ?_
  refine ax_q (q_mov rfl) ?_
  refine ax_nil (cx_keep rfl rfl (cx_seq (cx_seq (cx_ops ?_))))
  refine ax_q (q_mov rfl) ?_
  refine ax_q (q_not rfl) ?_
  refine ax_nil (cx_keep rfl rfl ?_)
  refine cx_cond rfl (fun h1 => ?_) (fun h1 => ?_)
  ·
   have h1 := bT h1
   refine cx_seq (cx_ops ?_)
   refine ax_q (q_build rfl) ?_
   refine ax_e (e_st rfl rfl rfl rfl rfl rfl rfl) ?_
   refine ax_q (q_mov rfl) ?_
   refine ax_nil (cx_keep rfl rfl ?_)
   refine cx_ret (ret0 rfl rfl ?_)
   exact ⟨by rw [recF_2 h0 h1]; rfl, rfl⟩
  ·
   have h1 := bF h1
   obtain ⟨u, hu⟩ : ∃ u, (unsealF t).1 = u := ⟨_, rfl⟩
   rw [hu] at hul ⊢
   have k0 : Nn u 0 = ⟨u, false⟩ := rfl
   have l0 : (⟨u, false⟩ : Rd).rest.length ≤ 1048576 := by simp only; omega
   refine cx_skip ?_
   refine cx_keep rfl rfl (cx_seq (cx_ops ?_))
   refine ax_q (q_mov rfl) ?_
   refine ax_q (q_build rfl) ?_
   refine ax_e (e_box rfl rfl (by decide) rfl rfl rfl) ?_
   refine ax_q (q_mov rfl) ?_
   refine ax_nil (cx_keep rfl rfl (cx_seq (cx_ops ?_)))
   refine ax_q (q_mov rfl) ?_
   refine ax_call rfl (vcall_own (c_num (r0 := ⟨u, false⟩) ?_) hP hmv false (fun _ => 24) [1000] ⟨rfl, rfl, rfl, rfl, ⟨rfl, trivial⟩, rfl, rfl, rfl⟩ (.pass rfl rfl .nil) ?_)
   ·
    exact l0
   rintro r h ⟨rfl, rfl⟩
   refine ⟨fun _ => 24, [], ⟨rfl, rfl, rfl, rfl, mem1 rfl, rfl, rfl, fun h => absurd h Bool.false_ne_true⟩, ?_⟩
   obtain ⟨v0, r1, e0⟩ : ∃ v r, numF ⟨u, false⟩ = (v, r) := ⟨_, _, rfl⟩
   rw [e0]
   obtain ⟨k1, w0, l1⟩ := Nn_next k0 e0 l0
   refine ax_q (q_mov rfl) ?_
   refine ax_nil (cx_keep rfl rfl (cx_seq (cx_ops ?_)))
   refine ax_q (q_mov rfl) ?_
   refine ax_call rfl (vcall_own (c_num (r0 := r1) ?_) hP hmv false (fun _ => 24) [1000] ⟨rfl, rfl, rfl, rfl, ⟨rfl, trivial⟩, rfl, rfl, rfl⟩ (.pass rfl rfl .nil) ?_)
   ·
    exact l1
   rintro r h ⟨rfl, rfl⟩
   refine ⟨fun _ => 24, [], ⟨rfl, rfl, rfl, rfl, mem1 rfl, rfl, rfl, fun h => absurd h Bool.false_ne_true⟩, ?_⟩
   obtain ⟨v1, r2, e1⟩ : ∃ v r, numF r1 = (v, r) := ⟨_, _, rfl⟩
   rw [e1]
   obtain ⟨k2, w1, l2⟩ := Nn_next k1 e1 l1
   refine ax_q (q_mov rfl) ?_
   refine ax_call rfl (vcall_own (c_num (r0 := r2) ?_) hP hmv false (fun _ => 24) [1000] ⟨rfl, rfl, rfl, rfl, ⟨rfl, trivial⟩, rfl, rfl, rfl⟩ (.pass rfl rfl .nil) ?_)
   ·
    exact l2
   rintro r h ⟨rfl, rfl⟩
   refine ⟨fun _ => 24, [], ⟨rfl, rfl, rfl, rfl, mem1 rfl, rfl, rfl, fun h => absurd h Bool.false_ne_true⟩, ?_⟩
   obtain ⟨v2, r3, e2⟩ : ∃ v r, numF r2 = (v, r) := ⟨_, _, rfl⟩
   rw [e2]
   obtain ⟨k3, w2, l3⟩ := Nn_next k2 e2 l2
   refine ax_q (q_mov rfl) ?_
   refine ax_call rfl (vcall_own (c_num (r0 := r3) ?_) hP hmv false (fun _ => 24) [1000] ⟨rfl, rfl, rfl, rfl, ⟨rfl, trivial⟩, rfl, rfl, rfl⟩ (.pass rfl rfl .nil) ?_)
   ·
    exact l3
   rintro r h ⟨rfl, rfl⟩
   refine ⟨fun _ => 24, [], ⟨rfl, rfl, rfl, rfl, mem1 rfl, rfl, rfl, fun h => absurd h Bool.false_ne_true⟩, ?_⟩
   obtain ⟨v3, r4, e3⟩ : ∃ v r, numF r3 = (v, r) := ⟨_, _, rfl⟩
   rw [e3]
   obtain ⟨k4, w3, l4⟩ := Nn_next k3 e3 l3
   refine ax_q (q_mov rfl) ?_
   refine ax_call rfl (vcall_own (c_num (r0 := r4) ?_) hP hmv false (fun _ => 24) [1000] ⟨rfl, rfl, rfl, rfl, ⟨rfl, trivial⟩, rfl, rfl, rfl⟩ (.pass rfl rfl .nil) ?_)
   ·
    exact l4
   rintro r h ⟨rfl, rfl⟩
   refine ⟨fun _ => 24, [], ⟨rfl, rfl, rfl, rfl, mem1 rfl, rfl, rfl, fun h => absurd h Bool.false_ne_true⟩, ?_⟩
   obtain ⟨v4, r5, e4⟩ : ∃ v r, numF r4 = (v, r) := ⟨_, _, rfl⟩
   rw [e4]
   obtain ⟨k5, w4, l5⟩ := Nn_next k4 e4 l4
   refine ax_q (q_mov rfl) ?_
   refine ax_call rfl (vcall_own (c_num (r0 := r5) ?_) hP hmv false (fun _ => 24) [1000] ⟨rfl, rfl, rfl, rfl, ⟨rfl, trivial⟩, rfl, rfl, rfl⟩ (.pass rfl rfl .nil) ?_)
   ·
    exact l5
   rintro r h ⟨rfl, rfl⟩
   refine ⟨fun _ => 24, [], ⟨rfl, rfl, rfl, rfl, mem1 rfl, rfl, rfl, fun h => absurd h Bool.false_ne_true⟩, ?_⟩
   obtain ⟨v5, r6, e5⟩ : ∃ v r, numF r5 = (v, r) := ⟨_, _, rfl⟩
   rw [e5]
   obtain ⟨k6, w5, l6⟩ := Nn_next k5 e5 l5
   refine ax_q (q_mov rfl) ?_
   refine ax_call rfl (vcall_own (c_num (r0 := r6) ?_) hP hmv false (fun _ => 24) [1000] ⟨rfl, rfl, rfl, rfl, ⟨rfl, trivial⟩, rfl, rfl, rfl⟩ (.pass rfl rfl .nil) ?_)
   ·
    exact l6
   rintro r h ⟨rfl, rfl⟩
   refine ⟨fun _ => 24, [], ⟨rfl, rfl, rfl, rfl, mem1 rfl, rfl, rfl, fun h => absurd h Bool.false_ne_true⟩, ?_⟩
   obtain ⟨v6, r7, e6⟩ : ∃ v r, numF r6 = (v, r) := ⟨_, _, rfl⟩
   rw [e6]
   obtain ⟨k7, w6, l7⟩ := Nn_next k6 e6 l6
   refine ax_q (q_mov rfl) ?_
   refine ax_call rfl (vcall_own (c_num (r0 := r7) ?_) hP hmv false (fun _ => 24) [1000] ⟨rfl, rfl, rfl, rfl, ⟨rfl, trivial⟩, rfl, rfl, rfl⟩ (.pass rfl rfl .nil) ?_)
   ·
    exact l7
   rintro r h ⟨rfl, rfl⟩
   refine ⟨fun _ => 24, [], ⟨rfl, rfl, rfl, rfl, mem1 rfl, rfl, rfl, fun h => absurd h Bool.false_ne_true⟩, ?_⟩
   obtain ⟨v7, r8, e7⟩ : ∃ v r, numF r7 = (v, r) := ⟨_, _, rfl⟩
   rw [e7]
   obtain ⟨k8, w7, l8⟩ := Nn_next k7 e7 l7
   refine ax_q (q_mov rfl) ?_
   refine ax_call rfl (vcall_own (c_num (r0 := r8) ?_) hP hmv false (fun _ => 24) [1000] ⟨rfl, rfl, rfl, rfl, ⟨rfl, trivial⟩, rfl, rfl, rfl⟩ (.pass rfl rfl .nil) ?_)
   ·
    exact l8
   rintro r h ⟨rfl, rfl⟩
   refine ⟨fun _ => 24, [], ⟨rfl, rfl, rfl, rfl, mem1 rfl, rfl, rfl, fun h => absurd h Bool.false_ne_true⟩, ?_⟩
   obtain ⟨v8, r9, e8⟩ : ∃ v r, numF r8 = (v, r) := ⟨_, _, rfl⟩
   rw [e8]
   obtain ⟨k9, w8, l9⟩ := Nn_next k8 e8 l8
   refine ax_q (q_build rfl) ?_
   refine ax_e (e_alloc (by decide) rfl rfl) ?_
   refine ax_e (e_st rfl rfl rfl rfl rfl rfl rfl) ?_
   refine ax_nil (cx_keep rfl rfl (cx_seq (cx_ops ?_)))
   refine ax_q (q_mov rfl) ?_
   refine ax_call rfl (vcall_own (c_fields (r0 := r9) l9) hP hmv false (fun _ => 24) [1000] ⟨rfl, rfl, rfl, rfl, ⟨rfl, trivial⟩, rfl, rfl, rfl⟩ (.pass rfl rfl .nil) ?_)
   rintro r h ⟨rfl, rfl⟩
   refine ⟨fun e => bif Nat.beq e 1000 then 24 else 45, [0], ⟨rfl, rfl, rfl, rfl, mem1 rfl, rfl, rfl, fun h => absurd h Bool.false_ne_true⟩, ?_⟩
   obtain ⟨F, r10, e10⟩ : ∃ F r, fieldsF r9 = (F, r) := ⟨_, _, rfl⟩
   rw [e10]
   dsimp only
   have hbad := badI_of k9 e10 w0
   have hrec := recI_of k9 e10 w1 w2 w3 w4 w5 w6 w7 w8
   have hA := recI_After (u := u) (m := 1048576) (by omega) (by omega)
   rw [hrec] at hA
   refine ax_q (q_mov rfl) ?_
   refine ax_nil (cx_keep rfl rfl (cx_seq (cx_seq (cx_ops ?_))))
   refine ax_q (q_mov rfl) ?_
   refine ax_call rfl (vcall_own (c_isDone (r0 := r10) ) hP hmv false (fun _ => 24) [1000] ⟨rfl, rfl, rfl, rfl, ⟨rfl, trivial⟩, rfl, rfl, rfl⟩ (.pass rfl rfl .nil) ?_)
   rintro r h ⟨rfl, rfl⟩
   refine ⟨fun _ => 24, [], ⟨rfl, rfl, rfl, rfl, mem1 rfl, rfl, rfl, fun h => absurd h Bool.false_ne_true⟩, ?_⟩
   refine ax_q (q_not rfl) ?_
   refine ax_q (q_mov rfl) ?_
   apply ax_or rfl rfl
   ·
    intro g
    have g := bF g
    refine ax_q (q_mov rfl) ?_
    refine ax_q (q_ibin rfl rfl rfl) ?_
    exact ax_nil ⟨rfl, by repeat constructor⟩
   refine ax_q (q_mov rfl) ?_
   apply ax_or rfl rfl
   ·
    intro g
    have g := (fun h => And.intro (bF (or_F h).1) (nF (or_F h).2)) g
    refine ax_q (q_mov rfl) ?_
    first | refine ax_q (q_lenS_map rfl) ?_ | refine ax_q (q_lenS_osl rfl) ?_
    refine ax_q (q_ibin rfl rfl rfl) ?_
    exact ax_nil ⟨rfl, by repeat constructor⟩
   refine ax_nil (cx_keep rfl rfl ?_)
   refine cx_cond rfl (fun h2 => ?_) (fun h2 => ?_)
   ·
    have h2 : badI u = true := by rw [hbad]; exact h2
    refine cx_seq (cx_ops ?_)
    refine ax_q (q_build rfl) ?_
    refine ax_e (e_st rfl rfl rfl rfl rfl rfl rfl) ?_
    refine ax_q (q_mov rfl) ?_
    refine ax_nil (cx_keep rfl rfl ?_)
    refine cx_ret (ret0 rfl rfl ?_)
    exact ⟨by rw [recF_3 h0 h1 (by rw [hu]; exact h2)]; rfl, rfl⟩
   ·
    have h2 : badI u = false := by rw [hbad]; exact h2
    have h2l : F.length = 2 := by
     have h3 := h2; rw [hbad, Bool.or_eq_false_iff, Bool.not_eq_false', decide_eq_true_eq] at h3; omega
    refine cx_skip ?_
    refine cx_keep rfl rfl (cx_seq ?_)
    refine cx_drawL 7 5000 (fun _ => false) (fun _ => true) [] ([(8, .box [int (v1 : Nat), int (v2 : Nat), int (v3 : Nat), int (v4 : Nat), int (v5 : Nat), int (v6 : Nat), int (v7 : Nat), int (v8 : Nat), .d (.str (F.getD 0 [])), .d (.str [])])]) [[9], [59], [60], [9], [62], [63], [8], [61, 65]] [[], [], [], [8], [8], [8], [], [8]] rfl ?_
    first | refine ⟨_, .inr ⟨rfl, _, rfl, .inl rfl, loc_q (q_mov rfl)⟩, ?_⟩
    first | refine ⟨_, .inr ⟨rfl, _, rfl, .inl rfl, loc_q (q_ixoI rfl rfl (by omega) (by omega))⟩, ?_⟩
    first | refine ⟨_, .inr ⟨rfl, _, rfl, .inl rfl, loc_q (q_load1_rptr rfl rfl (mapAtZ (z := []) (by omega)) rfl)⟩, ?_⟩
    first | refine ⟨_, .inr ⟨rfl, _, rfl, .inr ⟨rfl, rfl, .inr rfl, rfl, rfl⟩, loc_q (q_mov rfl)⟩, ?_⟩
    first | refine ⟨_, .inr ⟨rfl, _, rfl, .inr ⟨rfl, rfl, .inr rfl, rfl, rfl⟩, loc_q (q_ixoI rfl rfl (by omega) (by omega))⟩, ?_⟩
    first | refine ⟨_, .inr ⟨rfl, _, rfl, .inr ⟨rfl, rfl, .inr rfl, rfl, rfl⟩, loc_q (q_load1_rptr rfl rfl (mapAtZ (z := []) (by omega)) rfl)⟩, ?_⟩
    first | refine ⟨_, .inr ⟨rfl, _, rfl, .inl rfl, loc_q (q_fadr_ptr rfl)⟩, ?_⟩
    refine ⟨⟨5000, .dead, []⟩, .inl ⟨rfl, rfl, rfl, locl_st rfl rfl rfl rfl rfl rfl rfl⟩, ?_⟩
    refine ⟨rfl, ?_⟩
    refine ax_q (q_fadr_ptr rfl) ?_
    refine ax_e (e_st rfl rfl rfl rfl rfl rfl rfl) ?_
    refine ax_nil (cx_keep rfl rfl (cx_seq (cx_seq (cx_ops ?_))))
    refine ax_q (q_ldN rfl rfl rfl) ?_
    refine ax_call rfl (vc_pure0 (c_RecordOK (x := (⟨v1, v2, v3, v4, v5, v6, v7, v8, F.getD 0 [], F.getD 1 []⟩ : GLogRecord)) ?_) hP rfl rfl ?_)
    ·
     exact hA
    refine ax_q (q_not rfl) ?_
    refine ax_nil (cx_keep rfl rfl ?_)
    refine cx_cond rfl (fun h3 => ?_) (fun h3 => ?_)
    ·
     have h3 := bT h3
     refine cx_seq (cx_ops ?_)
     refine ax_q (q_build rfl) ?_
     refine ax_e (e_st rfl rfl rfl rfl rfl rfl rfl) ?_
     refine ax_q (q_mov rfl) ?_
     refine ax_nil (cx_keep rfl rfl ?_)
     refine cx_ret (ret0 rfl rfl ?_)
     exact ⟨by rw [recF_4 h0 h1 (by rw [hu]; exact h2) (by rw [hu, hrec]; exact h3)]; rfl, rfl⟩
    ·
     have h3 := bF h3
     refine cx_skip ?_
     refine cx_keep rfl rfl (cx_seq (cx_ops ?_))
     refine ax_q (q_ldN rfl rfl rfl) ?_
     refine ax_e (e_st rfl rfl rfl rfl rfl rfl rfl) ?_
     refine ax_q (q_mov rfl) ?_
     refine ax_nil (cx_keep rfl rfl ?_)
     refine cx_ret (ret0 rfl rfl ?_)
     exact ⟨by rw [recF_5 h0 h1 (by rw [hu]; exact h2) (by rw [hu, hrec]; exact h3), hu, hrec]; rfl, rfl⟩


/- loop.example/g00332/impl.readLog -/
def k_c_readLog : XCode :=
 .seq (.ops [.op (some 2) (.box (.t 0)),
   .op (some 4) (.mov (.k (.nils 10)))])
 (.keep [1, 2] (.seq (.ops [.op (some 10) (.bslice 10 []),
   .op (some 5) (.mov (.t 10)),
   .op (some 6) (.mov (.k (.int .i64 1)))])
 (.keep [1, 2, 5, 6] (.seq (.seq (.ops [.op (some 7) (.mov (.k (.int .i64 9)))])
  (.keep [1, 2, 5, 6, 7] (.block 0 (.loop (.seq (.seq (.ops [.op (some 11) (.mov (.t 7)),
     .op (some 12) (.fadr (.t 2) 0),
     .op (some 13) (.load1 (.t 12)),
     .op (some 14) (.lenS (.t 13)),
     .op (some 15) (.bin .lss (.t 11) (.t 14))])
   (.keep [1, 2, 5, 6, 7, 15] (.cond (.t 15)
    (.skip)
    (.exit 0))))
   (.keep [1, 2, 5, 6, 7] (.seq (.block 1 (.seq (.ops [.op (some 19) (.loadN 4 (.t 2)),
     .op (some 20) (.mov (.t 7)),
     .call (some 21) 89 [.t 19, .t 20],
     .op (some 22) (.s2b (.t 21)),
     .call (some 23) 97 [.t 22],
     .op (some 18) (.mov (.t 23)),
     .op (some 24) (.ext (.t 18) 0),
     .op (some 25) (.ext (.t 18) 1),
     .op (some 8) (.alloc [.int .i64 0, .int .i64 0, .int .i64 0, .int .i64 0, .int .i64 0, .int .i64 0, .int .i64 0, .int .i64 0, .str [], .str []]),
     .op none (.store 10 (.t 8) (.t 24)),
     .op (some 9) (.mov (.t 25))])
    (.keep [1, 2, 5, 6, 7, 8, 9] (.seq (.seq (.ops [.op (some 26) (.mov (.t 9)),
      .op (some 27) (.bin .neq (.t 26) (.k (.int .i64 0))),
      .op (some 28) (.mov (.t 27)),
      .andor 35 false 2 28 [.op (some 29) (.fadr (.t 8) 1), .op (some 30) (.load1 (.t 29)), .op (some 31) (.mov (.t 5)), .op (some 32) (.lenS (.t 31)), .op (some 33) (.bin .add (.t 32) (.k (.int .i64 1))), .op (some 34) (.bin .neq (.t 30) (.t 33))] (.t 34),
      .op (some 36) (.mov (.t 35)),
      .andor 43 false 10 36 [.op (some 37) (.fadr (.t 8) 0), .op (some 38) (.load1 (.t 37)), .op (some 39) (.mov (.t 6)), .op (some 40) (.mov (.t 1)), .call (some 41) 26 [.t 38, .t 39, .t 40], .op (some 42) (.not (.t 41))] (.t 42)])
    (.keep [1, 2, 5, 7, 8, 43] (.cond (.t 43)
     (.exit 0)
     (.skip))))
    (.keep [1, 2, 5, 7, 8] (.drawE [[], [], [1], [0, 1, 2], [], [4], [0, 1, 2, 3], [0, 1, 2, 3, 4, 5, 6]] [.op (some 44) (.mov (.t 5)),
     .op (some 45) (.loadN 10 (.t 8)),
     .op (some 46) (.bslice 10 [.t 45]),
     .op (some 47) (.app 10 96 [.int .i64 0, .int .i64 0, .int .i64 0, .int .i64 0, .int .i64 0, .int .i64 0, .int .i64 0, .int .i64 0, .str [], .str []] (.t 44) (.t 46)),
     .op (some 48) (.fadr (.t 8) 0),
     .op (some 49) (.load1 (.t 48)),
     .op (some 5) (.mov (.t 47))]
    [.op (some 6) (.mov (.t 49))]))))))
   (.keep [1, 2, 5, 6, 7] (.ops [.op (some 16) (.mov (.t 7)),
    .op (some 17) (.bin .add (.t 16) (.k (.int .i64 1))),
    .op (some 7) (.mov (.t 17))])))))))))
 (.keep [5] (.seq (.ops [.op (some 50) (.mov (.t 5)),
   .op (some 4) (.mov (.t 50))])
 (.keep [4] (.ret))))))))
theorem k_c_readLog_fits : fitsF Tryz.prog 44 ⟨51, k_c_readLog, [.t 4]⟩ = true := by kernel_rfl
set_option maxHeartbeats 4000000 in
theorem c_readLog {d : GDisk} {top : Int} (hd : diskOK d = true) (htop : 0 ≤ top ∧ top ≤ 60) : Con Tryz.prog noMv 44 [d.av, int top] [] (fun r h => r = .osl 0 10 0 (logF d top).length ∧ h = [(0, .rows 10 ((logF d top).map GLogRecord.row))]) := by
 refine con_of2 k_c_readLog_fits rfl fun C hP hmv => ?_
 unfold k_c_readLog
 obtain ⟨q1, q2, q3⟩ := diskOK_head hd
 refine cx_seq (cx_ops ?_)
 refine ax_e (e_box rfl rfl (by decide) rfl rfl rfl) ?_
 refine ax_q (q_mov rfl) ?_
 refine ax_nil (cx_keep rfl rfl (cx_seq (cx_ops ?_)))
 refine ax_e (e_bslice rfl (by decide) rfl rfl) ?_
 refine ax_q (q_mov rfl) ?_
 refine ax_q (q_mov rfl) ?_
 refine ax_nil (cx_keep rfl rfl (cx_seq (cx_seq (cx_ops ?_))))
 refine ax_q (q_mov rfl) ?_
 refine ax_nil (cx_keep rfl rfl (cx_block ?_))
 refine cx_loopU (fun m (p : Nat × Int × List GLogRecord) => p.1 ≤ d.Sectors.length - 9 ∧ m = d.Sectors.length - 9 - p.1 ∧ p.2.2.length = p.1 ∧ p.2.2 ++ logR d top (d.Sectors.length - 9 - p.1) p.1 p.2.1 = logF d top) (fun p => [(7, int ((9 + p.1 : Nat) : Int)), (6, int p.2.1), (5, .osl 10 10 0 p.2.2.length)]) (fun p => [(2, .box [.d (.sl 1 (d.Sectors.map strRow)), .d (.sl 2 (d.Cache.map GPending.row)), .d (.bool d.Armed), .d (.sl 1 (d.Keep.map intRow))]), (10, .rows 10 (p.2.2.map GLogRecord.row))])
  ⟨_, (0, 1, []), ⟨Nat.zero_le _, rfl, rfl, rfl⟩, by repeat constructor⟩ ?_
 rintro m ⟨k, low, l⟩ ⟨hk, rfl, hlk, hT⟩
 simp only at hk hlk hT ⊢
 refine cx_seq (cx_seq (cx_ops ?_))
 refine ax_q (q_mov rfl) ?_
 refine ax_q (q_fadr_ptr rfl) ?_
 refine ax_q (q_load1_ptr rfl rfl rfl) ?_
 refine ax_q (q_lenS_map rfl) ?_
 refine ax_q (q_ibin rfl rfl rfl) ?_
 refine ax_nil (cx_keep rfl rfl ?_)
 refine cx_cond rfl (fun h0 => ?_) (fun h0 => ?_)
 ·
  have h0 := dT h0
  have hkx : 9 + k < d.Sectors.length := by omega
  have htl := diskOK_txt hd (9 + k)
  obtain ⟨f, hf⟩ : ∃ f, d.Sectors.length - 9 - k = f + 1 := ⟨d.Sectors.length - 9 - k - 1, by omega⟩
  refine cx_skip ?_
  refine cx_keep rfl rfl (cx_seq (cx_block (cx_seq (cx_ops ?_))))
  refine ax_q (q_ldN rfl rfl rfl) ?_
  refine ax_q (q_mov rfl) ?_
  refine ax_call rfl (vc_pure0 (c_read (d := d) (i := 9 + k) ?_ ?_) hP rfl rfl ?_)
  ·
   assumption
  ·
   first | assumption | omega
  show AXI _ _ _ _ ⟨(21, str (txtD d (9 + k))) :: _, _⟩ _
  refine ax_e (e_s2b rfl (by decide) rfl rfl) ?_
  first | refine ax_call rfl (vc_pure0 (c_ReadRecord (t := (txtD d (9 + k))) ?_) hP rfl rfl ?_) | refine ax_call rfl (vc_lend0 (c_ReadRecord (t := (txtD d (9 + k))) ?_) hP (by repeat (first | exact lal_id _ rfl | exact LAL.nil | refine LAL.cons ?_ ?_ | exact la_id _ rfl | exact LA.lend (lend_whole rfl (by first | (simp; done) | (rw [List.length_map]; rfl))) | refine LA.agg ?_ | refine LA.fn ?_ | refine LA.lend ?_ | exact Lend.d _ | exact Lend.zs _ | exact lend_whole rfl (by first | (simp; done) | (rw [List.length_map]; rfl)) | refine Lend.ptr rfl ?_ | refine Lend.fn ?_ | exact LendL.nil | refine LendL.cons ?_ ?_)) rfl rfl ?_)
  ·
   first | assumption | omega
  refine ax_q (q_mov rfl) ?_
  refine ax_q (q_ext rfl rfl) ?_
  refine ax_q (q_ext rfl rfl) ?_
  refine ax_e (e_alloc (by decide) rfl rfl) ?_
  refine ax_e (e_st rfl rfl rfl rfl rfl rfl rfl) ?_
  refine ax_q (q_mov rfl) ?_
  refine ax_nil (cx_keep rfl rfl (cx_seq (cx_seq (cx_ops ?_))))
  refine ax_q (q_mov rfl) ?_
  refine ax_q (q_ibin rfl rfl rfl) ?_
  refine ax_q (q_mov rfl) ?_
  apply ax_or rfl rfl
  ·
   intro g
   have g := nF g
   refine ax_q (q_fadr_ptr rfl) ?_
   refine ax_q (q_load1_ptr rfl rfl rfl) ?_
   refine ax_q (q_mov rfl) ?_
   first | refine ax_q (q_lenS_map rfl) ?_ | refine ax_q (q_lenS_osl rfl) ?_
   refine ax_qe (r' := int ((l.length + 1 : Nat) : Int)) (q_ibin rfl rfl rfl) (by rw [wi (by omega) (by omega)]; rfl) ?_
   refine ax_q (q_ibin rfl rfl rfl) ?_
   exact ax_nil ⟨rfl, by repeat constructor⟩
  refine ax_q (q_mov rfl) ?_
  apply ax_or rfl rfl
  ·
   intro g
   have g := (fun h => And.intro (nF (or_F h).1) (nF (or_F h).2)) g
   refine ax_q (q_fadr_ptr rfl) ?_
   refine ax_q (q_load1_ptr rfl rfl rfl) ?_
   refine ax_q (q_mov rfl) ?_
   refine ax_q (q_mov rfl) ?_
   refine ax_call rfl (vc_pure0 (c_inRange  ) hP rfl rfl ?_)
   refine ax_q (q_not rfl) ?_
   exact ax_nil ⟨rfl, by repeat constructor⟩
  refine ax_nil (cx_keep rfl rfl ?_)
  refine cx_cond rfl (fun h1 => ?_) (fun h1 => ?_)
  ·
   have h1 := (fun h => (or_T h).imp (fun h => (or_T h).imp nT nT) bT) h1
   rw [hlk] at h1
   have hN := takesR_f (by omega) h1
   have hE : l = logF d top := by rw [← hT, logR_f hN, List.append_nil]
   refine cx_exit rfl ?_
   refine cx_keep rfl rfl (cx_seq (cx_ops ?_))
   refine ax_q (q_mov rfl) ?_
   refine ax_q (q_mov rfl) ?_
   refine ax_nil (cx_keep rfl rfl ?_)
   refine cx_ret (retN (fun _ => 0) [10] rfl rfl rfl rfl rfl ?_)
   rw [← hE]; exact ⟨rfl, rfl⟩
  ·
   have h1 := (fun h => And.intro ((fun h => And.intro (nF (or_F h).1) (nF (or_F h).2)) (or_F h).1) (bF (or_F h).2)) h1
   rw [hlk] at h1
   have hN := takesR_t (by omega) h1
   refine cx_skip ?_
   refine cx_keep rfl rfl ?_
   refine cx_drawW 3 47 6 5 5001 (Nat.beq 10) (nrA 10) [] ([(10, .rows 10 ((l ++ [(recF (txtD d (9 + k))).1]).map GLogRecord.row))]) [[5], [8], [45], [44, 46], [8], [48], [47]] [[], [], [], [10], [10], [10], [10]] rfl rfl rfl ?_
   first | refine ⟨_, .inr ⟨rfl, _, rfl, .inl rfl, loc_q (q_mov rfl)⟩, ?_⟩
   first | refine ⟨_, .inr ⟨rfl, _, rfl, .inl rfl, loc_q (q_ldN rfl rfl rfl)⟩, ?_⟩
   first | refine ⟨_, .inr ⟨rfl, _, rfl, .inl rfl, loc_bsliceD (rows := [GLogRecord.row (recF (txtD d (9 + k))).1]) rfl⟩, ?_⟩
   refine ⟨⟨47, _, []⟩, .inl ⟨rfl, rfl, rfl, locl_app (n' := (l ++ [(recF (txtD d (9 + k))).1]).length) (rs' := (l ++ [(recF (txtD d (9 + k))).1]).map GLogRecord.row) rfl rfl (by simp) rfl (fun _ _ _ => src_sl 10 _) (.inl (by decide)) (hbnd (by omega) (by simp) (by decide)) (by simp) app_one⟩, ?_⟩
   first | refine ⟨_, .inr ⟨rfl, _, rfl, .inr ⟨rfl, rfl, .inr rfl, rfl, rfl⟩, loc_q (q_fadr_ptr rfl)⟩, ?_⟩
   first | refine ⟨_, .inr ⟨rfl, _, rfl, .inr ⟨rfl, rfl, .inr rfl, rfl, rfl⟩, loc_q (q_load1_ptr rfl rfl rfl)⟩, ?_⟩
   first | refine ⟨_, .inr ⟨rfl, _, rfl, .inr ⟨rfl, rfl, .inl rfl, rfl, rfl⟩, loc_q (q_mov rfl)⟩, ?_⟩
   refine ⟨rfl, ?_⟩
   refine ax_q (q_mov rfl) ?_
   refine ax_nil (cx_keep rfl rfl (cx_ops ?_))
   refine ax_q (q_mov rfl) ?_
   refine ax_qe (r' := int ((9 + k + 1 : Nat) : Int)) (q_ibin rfl rfl rfl) (by rw [wi (by omega) (by omega)]; rfl) ?_
   refine ax_q (q_mov rfl) ?_
   refine ax_nil ?_
   exact ⟨_, (k + 1, (recF (txtD d (9 + k))).1.Epoch, l ++ [(recF (txtD d (9 + k))).1]), by simp only; omega, ⟨by simp only; omega, rfl, by simp [hlk], by rw [← hT, hf, show d.Sectors.length - 9 - (k + 1) = f from by omega, logR_t hN.1, ← hN.2]; simp⟩, by repeat constructor⟩
 ·
  have h0 := dF h0
  have hE : l = logF d top := by rw [← hT, show d.Sectors.length - 9 - k = 0 from by omega]; exact (List.append_nil l).symm
  refine cx_exit rfl ?_
  refine cx_keep rfl rfl (cx_seq (cx_ops ?_))
  refine ax_q (q_mov rfl) ?_
  refine ax_q (q_mov rfl) ?_
  refine ax_nil (cx_keep rfl rfl ?_)
  refine cx_ret (retN (fun _ => 0) [10] rfl rfl rfl rfl rfl ?_)
  rw [← hE]; exact ⟨rfl, rfl⟩


/- loop.example/g00332/impl.ReadLog -/
def k_c_ReadLog : XCode :=
 .seq (.ops [.op (some 2) (.box (.t 0)),
   .op (some 4) (.mov (.k (.nils 10))),
   .op (some 5) (.mov (.k (.int .i64 0)))])
 (.keep [1, 2] (.seq (.block 0 (.seq (.ops [.op (some 7) (.loadN 4 (.t 2)),
    .call (some 8) 36 [.t 7],
    .op (some 9) (.not (.t 8)),
    .op (some 6) (.mov (.t 9))])
  (.keep [1, 2, 6] (.cond (.t 6)
   (.seq (.ops [.op (some 4) (.mov (.k (.nils 10))),
     .op (some 5) (.mov (.k (.int .i64 1)))])
   (.keep [4, 5] (.ret)))
   (.seq (.ops [.op (some 11) (.mov (.t 1)),
     .call (some 12) 26 [.t 11, .k (.int .i64 0), .k (.int .i64 60)],
     .op (some 13) (.not (.t 12)),
     .op (some 10) (.mov (.t 13))])
   (.keep [1, 2, 10] (.cond (.t 10)
    (.seq (.ops [.op (some 4) (.mov (.k (.nils 10))),
      .op (some 5) (.mov (.k (.int .i64 4)))])
    (.keep [4, 5] (.ret)))
    (.skip))))))))
 (.keep [1, 2] (.seq (.ops [.op (some 14) (.loadN 4 (.t 2)),
   .op (some 15) (.mov (.t 1)),
   .call (some 16) 44 [.t 14, .t 15],
   .op (some 4) (.mov (.t 16)),
   .op (some 5) (.mov (.k (.int .i64 0)))])
 (.keep [4, 5] (.ret))))))
theorem k_c_ReadLog_fits : fitsF Tryz.prog 13 ⟨17, k_c_ReadLog, [.t 4, .t 5]⟩ = true := by kernel_rfl
theorem c_ReadLog {d : GDisk} {top : Int} (hw0 : d.Sectors.length ≤ 1048576) (hw1 : d.Cache.length ≤ 1048576) (hw2 : d.Keep.length ≤ 1048576) : Con Tryz.prog noMv 13 [d.av, int top] [] (fun r h => r = .tup [.osl 0 10 0 (readF d top).1.length, int (readF d top).2] ∧ h = [(0, .rows 10 ((readF d top).1.map GLogRecord.row))]) := by
 refine con_of2 k_c_ReadLog_fits rfl fun C hP hmv => ?_
 unfold k_c_ReadLog
 refine cx_seq (cx_ops ?_)
 refine ax_e (e_box rfl rfl (by decide) rfl rfl rfl) ?_
 refine ax_q (q_mov rfl) ?_
 refine ax_q (q_mov rfl) ?_
 refine ax_nil (cx_keep rfl rfl (cx_seq (cx_block (cx_seq (cx_ops ?_)))))
 refine ax_q (q_ldN rfl rfl rfl) ?_
 refine ax_call rfl (vc_pure0 (c_DiskOK  ?_ ?_ ?_) hP rfl rfl ?_)
 ·
  assumption
 ·
  assumption
 ·
  assumption
 refine ax_q (q_not rfl) ?_
 refine ax_q (q_mov rfl) ?_
 refine ax_nil (cx_keep rfl rfl ?_)
 refine cx_cond rfl (fun h0 => ?_) (fun h0 => ?_)
 ·
  have h0 := bT h0
  refine cx_seq (cx_ops ?_)
  refine ax_q (q_mov rfl) ?_
  refine ax_q (q_mov rfl) ?_
  refine ax_nil (cx_keep rfl rfl ?_)
  refine cx_wk (wk_virt 901 10 rfl rfl rfl) ?_
  refine cx_wk (wk_zs 4 901 [] rfl rfl) ?_
  refine cx_ret (retN (fun _ => 0) [901] rfl rfl rfl rfl rfl ?_)
  rw [readF_1 h0]; exact ⟨rfl, rfl⟩
 ·
  have h0 := bF h0
  refine cx_seq (cx_ops ?_)
  refine ax_q (q_mov rfl) ?_
  refine ax_call rfl (vc_pure0 (c_inRange  ) hP rfl rfl ?_)
  refine ax_q (q_not rfl) ?_
  refine ax_q (q_mov rfl) ?_
  refine ax_nil (cx_keep rfl rfl ?_)
  refine cx_cond rfl (fun h1 => ?_) (fun h1 => ?_)
  ·
   have h1 := bT h1
   refine cx_seq (cx_ops ?_)
   refine ax_q (q_mov rfl) ?_
   refine ax_q (q_mov rfl) ?_
   refine ax_nil (cx_keep rfl rfl ?_)
   refine cx_wk (wk_virt 901 10 rfl rfl rfl) ?_
   refine cx_wk (wk_zs 4 901 [] rfl rfl) ?_
   refine cx_ret (retN (fun _ => 0) [901] rfl rfl rfl rfl rfl ?_)
   rw [readF_2 h0 h1]; exact ⟨rfl, rfl⟩
  ·
   have h1 := bF h1
   have htop := inR_iff.1 h1
   refine cx_skip ?_
   refine cx_keep rfl rfl (cx_seq (cx_ops ?_))
   refine ax_q (q_ldN rfl rfl rfl) ?_
   refine ax_q (q_mov rfl) ?_
   refine ax_call rfl (vc_pure (c_readLog (d := d) (top := top) ?_ ?_) hP rfl ?_)
   ·
    assumption
   ·
    assumption
   rintro r h ⟨rfl, rfl⟩
   refine ⟨fun i => 16 + 200 * i, [0], ⟨rfl, rfl, rfl, rfl, rfl, (by first | exact (fun h => absurd h Bool.false_ne_true) | exact (fun _ => ⟨rfl, (noisl_of (by repeat (first | exact trivial | refine ⟨noisl_map (fun _ => rfl), ?_⟩ | refine ⟨?_, ?_⟩)))⟩))⟩, ?_⟩
   skip
   refine ax_q (q_mov rfl) ?_
   refine ax_q (q_mov rfl) ?_
   refine ax_nil (cx_keep rfl rfl ?_)
   refine cx_ret (retN (fun _ => 0) [16] rfl rfl rfl rfl rfl ?_)
   rw [readF_3 h0 h1]; exact ⟨rfl, rfl⟩

end Go.Proofs.YtcloaaakhojjgaaGreat
