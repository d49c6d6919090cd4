/- The walks: what each function computes, as a contract without a world (part 1). -/
import Derived.Test.YtbanegjijhmojaaGreatProg
import Derived.Test.YtbanegjijhmojaaGreatW0
namespace Go.Proofs.YtbanegjijhmojaaGreat
open Go Go.AM
set_option maxRecDepth 10000
set_option linter.unusedVariables false
set_option linter.unusedSimpArgs false
/- loop.example/g00332/spec.l04CheckOK -/
def k_c_l04CheckOK : XCode :=
 .seq (.ops [.op (some 1) (.box (.t 0)),
   .op (some 2) (.mov (.k (.bool false)))])
 (.keep [1] (.seq (.ops [.op (some 9) (.fadr (.t 1) 9),
   .op (some 10) (.load1 (.t 9)),
   .call (some 11) 220 [.t 10],
   .op (some 8) (.mov (.t 11)),
   .op (some 12) (.ext (.t 8) 0),
   .op (some 13) (.ext (.t 8) 1),
   .op (some 14) (.ext (.t 8) 2),
   .op (some 3) (.mov (.t 12)),
   .op (some 4) (.mov (.t 13)),
   .op (some 5) (.mov (.t 14))])
 (.keep [1, 3, 4, 5] (.seq (.seq (.ops [.op (some 15) (.mov (.t 5)),
   .op (some 16) (.not (.t 15)),
   .op (some 17) (.mov (.t 16)),
   .andor 21 false 2 17 [.op (some 18) (.mov (.t 3)), .op (some 19) (.lenS (.t 18)), .op (some 20) (.bin .gtr (.t 19) (.k (.int .i64 8)))] (.t 20),
   .op (some 22) (.mov (.t 21)),
   .andor 26 false 7 22 [.op (some 23) (.mov (.t 4)), .op (some 24) (.lenS (.t 23)), .op (some 25) (.bin .gtr (.t 24) (.k (.int .i64 10)))] (.t 25)])
  (.keep [1, 3, 4, 26] (.cond (.t 26)
  (.seq (.ops [.op (some 2) (.mov (.k (.bool false)))])
   (.keep [2] (.ret)))
  (.skip))))
 (.keep [1, 3, 4] (.seq (.seq (.ops [.op (some 6) (.mov (.k (.int .i64 0)))])
  (.keep [1, 3, 4, 6] (.block 0 (.loop (.seq (.seq (.ops [.op (some 27) (.mov (.t 6)),
     .op (some 28) (.mov (.t 3)),
     .op (some 29) (.lenS (.t 28)),
     .op (some 30) (.bin .lss (.t 27) (.t 29))])
   (.keep [1, 3, 4, 6, 30] (.cond (.t 30)
    (.skip)
    (.exit 0))))
   (.keep [1, 3, 4, 6] (.seq (.block 1 (.seq (.draw [.op (some 33) (.mov (.t 3)),
     .op (some 34) (.mov (.t 6)),
     .op (some 35) (.iadr 2 (.t 33) (.t 34)),
     .op (some 36) (.iadrA 1 2 (.t 35) (.k (.int .i64 0))),
     .op (some 37) (.load1 (.t 36)),
     .call (some 38) 37 [.t 37, .k (.int .i64 0), .k (.int .i64 7)],
     .op (some 39) (.not (.t 38)),
     .op (some 40) (.mov (.t 39)),
     .andor 51 false 7 40 [.op (some 41) (.mov (.t 3)), .op (some 42) (.mov (.t 6)), .op (some 43) (.iadr 2 (.t 41) (.t 42)), .op (some 44) (.iadrA 1 2 (.t 43) (.k (.int .i64 1))), .op (some 45) (.load1 (.t 44)), .op (some 46) (.fadr (.t 1) 1), .op (some 47) (.load1 (.t 46)), .op (some 48) (.bin .sub (.t 47) (.k (.int .i64 1))), .call (some 49) 37 [.t 45, .k (.int .i64 1), .t 48], .op (some 50) (.not (.t 49))] (.t 50),
     .op (some 52) (.mov (.t 51)),
     .andor 69 false 19 52 [.op (some 53) (.mov (.t 6)), .op (some 54) (.bin .gtr (.t 53) (.k (.int .i64 0))), .op (some 55) (.mov (.t 54)), .andor 68 true 22 55 [.op (some 56) (.mov (.t 3)), .op (some 57) (.mov (.t 6)), .op (some 58) (.bin .sub (.t 57) (.k (.int .i64 1))), .op (some 59) (.iadr 2 (.t 56) (.t 58)), .op (some 60) (.iadrA 1 2 (.t 59) (.k (.int .i64 0))), .op (some 61) (.load1 (.t 60)), .op (some 62) (.mov (.t 3)), .op (some 63) (.mov (.t 6)), .op (some 64) (.iadr 2 (.t 62) (.t 63)), .op (some 65) (.iadrA 1 2 (.t 64) (.k (.int .i64 0))), .op (some 66) (.load1 (.t 65)), .op (some 67) (.bin .geq (.t 61) (.t 66))] (.t 67)] (.t 68)])
    (.keep [1, 3, 4, 6, 69] (.cond (.t 69)
    (.seq (.ops [.op (some 2) (.mov (.k (.bool false)))])
     (.keep [2] (.ret)))
    (.skip)))))
   (.keep [1, 3, 4, 6] (.ops [.op (some 31) (.mov (.t 6)),
    .op (some 32) (.bin .add (.t 31) (.k (.int .i64 1))),
    .op (some 6) (.mov (.t 32))])))))))))
 (.keep [1, 4] (.seq (.seq (.ops [.op (some 7) (.mov (.k (.int .i64 0)))])
  (.keep [1, 4, 7] (.block 2 (.loop (.seq (.seq (.ops [.op (some 70) (.mov (.t 7)),
     .op (some 71) (.mov (.t 4)),
     .op (some 72) (.lenS (.t 71)),
     .op (some 73) (.bin .lss (.t 70) (.t 72))])
   (.keep [1, 4, 7, 73] (.cond (.t 73)
    (.skip)
    (.exit 2))))
   (.keep [1, 4, 7] (.seq (.block 3 (.seq (.draw [.op (some 76) (.mov (.t 4)),
     .op (some 77) (.mov (.t 7)),
     .op (some 78) (.iadr 2 (.t 76) (.t 77)),
     .op (some 79) (.iadrA 1 2 (.t 78) (.k (.int .i64 0))),
     .op (some 80) (.load1 (.t 79)),
     .call (some 81) 37 [.t 80, .k (.int .i64 1), .k (.int .i64 60)],
     .op (some 82) (.not (.t 81)),
     .op (some 83) (.mov (.t 82)),
     .andor 94 false 7 83 [.op (some 84) (.mov (.t 4)), .op (some 85) (.mov (.t 7)), .op (some 86) (.iadr 2 (.t 84) (.t 85)), .op (some 87) (.iadrA 1 2 (.t 86) (.k (.int .i64 1))), .op (some 88) (.load1 (.t 87)), .op (some 89) (.fadr (.t 1) 1), .op (some 90) (.load1 (.t 89)), .op (some 91) (.bin .sub (.t 90) (.k (.int .i64 1))), .call (some 92) 37 [.t 88, .k (.int .i64 1), .t 91], .op (some 93) (.not (.t 92))] (.t 93),
     .op (some 95) (.mov (.t 94)),
     .andor 112 false 19 95 [.op (some 96) (.mov (.t 7)), .op (some 97) (.bin .gtr (.t 96) (.k (.int .i64 0))), .op (some 98) (.mov (.t 97)), .andor 111 true 22 98 [.op (some 99) (.mov (.t 4)), .op (some 100) (.mov (.t 7)), .op (some 101) (.bin .sub (.t 100) (.k (.int .i64 1))), .op (some 102) (.iadr 2 (.t 99) (.t 101)), .op (some 103) (.iadrA 1 2 (.t 102) (.k (.int .i64 0))), .op (some 104) (.load1 (.t 103)), .op (some 105) (.mov (.t 4)), .op (some 106) (.mov (.t 7)), .op (some 107) (.iadr 2 (.t 105) (.t 106)), .op (some 108) (.iadrA 1 2 (.t 107) (.k (.int .i64 0))), .op (some 109) (.load1 (.t 108)), .op (some 110) (.bin .geq (.t 104) (.t 109))] (.t 110)] (.t 111)])
    (.keep [1, 4, 7, 112] (.cond (.t 112)
    (.seq (.ops [.op (some 2) (.mov (.k (.bool false)))])
     (.keep [2] (.ret)))
    (.skip)))))
   (.keep [1, 4, 7] (.ops [.op (some 74) (.mov (.t 7)),
    .op (some 75) (.bin .add (.t 74) (.k (.int .i64 1))),
    .op (some 7) (.mov (.t 75))])))))))))
 (.keep [] (.seq (.ops [.op (some 2) (.mov (.k (.bool true)))])
 (.keep [2] (.ret))))))))))))
theorem k_c_l04CheckOK_fits : fitsF Tryz.prog 158 ⟨113, k_c_l04CheckOK, [.t 2]⟩ = true := by kernel_rfl
set_option maxHeartbeats 4000000 in
theorem c_l04CheckOK {x : GLogRecord} (hl : x.After.length ≤ 1048576) (hm : 1 ≤ x.Lsn ∧ x.Lsn ≤ 60) : Con Tryz.prog noMv 158 [x.av] [] (fun r h => r = bool (checkOK x.After x.Lsn) ∧ h = []) := by
 refine con_of2 k_c_l04CheckOK_fits rfl fun C hP hmv => ?_
 unfold k_c_l04CheckOK
 refine cx_seq (cx_ops ?_)
 refine ax_e (e_box rfl rfl (by decide) rfl rfl rfl) ?_
 refine ax_q (q_mov rfl) ?_
 refine ax_nil (cx_keep rfl rfl (cx_seq (cx_ops ?_)))
 refine ax_q (q_fadr_ptr rfl) ?_
 refine ax_q (q_load1_ptr rfl rfl rfl) ?_
 refine ax_call rfl (vc_pure0 (c_l04ReadCheck (t := x.After) ?_) hP rfl rfl ?_)
 ·
  assumption
 have hl12 := @readX_len x.After
 refine ax_q (q_mov rfl) ?_
 refine ax_q (q_ext rfl rfl) ?_
 refine ax_q (q_ext rfl rfl) ?_
 refine ax_q (q_ext rfl rfl) ?_
 refine ax_q (q_mov rfl) ?_
 refine ax_q (q_mov rfl) ?_
 refine ax_q (q_mov rfl) ?_
 refine ax_nil (cx_keep rfl rfl (cx_seq (cx_seq (cx_ops ?_))))
 refine ax_q (q_mov rfl) ?_
 refine ax_q (q_not rfl) ?_
 refine ax_q (q_mov rfl) ?_
 apply ax_or rfl rfl
 ·
  intro g
  have g := bF g
  refine ax_q (q_mov rfl) ?_
  refine ax_q (q_lenS_map rfl) ?_
  refine ax_q (q_ibin rfl rfl rfl) ?_
  exact ax_nil ⟨rfl, by repeat constructor⟩
 refine ax_q (q_mov rfl) ?_
 apply ax_or rfl rfl
 ·
  intro g
  have g := (fun h => And.intro (bF (or_F h).1) (dF (or_F h).2)) g
  refine ax_q (q_mov rfl) ?_
  refine ax_q (q_lenS_map rfl) ?_
  refine ax_q (q_ibin rfl rfl rfl) ?_
  exact ax_nil ⟨rfl, by repeat constructor⟩
 refine ax_nil (cx_keep rfl rfl ?_)
 refine cx_cond rfl (fun h0 => ?_) (fun h0 => ?_)
 ·
  have h0 : badX (readX x.After) = true := h0
  refine cx_seq (cx_ops ?_)
  refine ax_q (q_mov rfl) ?_
  refine ax_nil (cx_keep rfl rfl ?_)
  refine cx_ret (ret0 rfl rfl ?_)
  exact ⟨by rw [checkX, h0]; rfl, rfl⟩
 ·
  have h0 : badX (readX x.After) = false := h0
  refine cx_skip ?_
  refine cx_keep rfl rfl (cx_seq (cx_seq (cx_ops ?_)))
  refine ax_q (q_mov rfl) ?_
  refine ax_nil (cx_keep rfl rfl (cx_block ?_))
  refine cx_loopU (fun m k => k ≤ (readX x.After).1.length ∧ m = (readX x.After).1.length - k ∧ checkOK x.After x.Lsn = (okL 7 x.Lsn ((readX x.After).1.drop k) (prevP (readX x.After).1 (-1) k) && okL 60 x.Lsn (readX x.After).2.1 0)) (fun k : Nat => [(6, int k)]) (fun _ => [(1, .box (x.row.map .d))]) ⟨_, 0, ⟨Nat.zero_le _, rfl, by rw [checkX, h0]; rfl⟩, by repeat constructor⟩ ?_
  rintro m k ⟨hk, rfl, hc⟩
  refine cx_seq (cx_seq (cx_ops ?_))
  refine ax_q (q_mov rfl) ?_
  refine ax_q (q_mov rfl) ?_
  refine ax_q (q_lenS_map rfl) ?_
  refine ax_q (q_ibin rfl rfl rfl) ?_
  refine ax_nil (cx_keep rfl rfl ?_)
  refine cx_cond rfl (fun h1 => ?_) (fun h1 => ?_)
  ·
   have h1 := dT h1
   have hkx : k < (readX x.After).1.length := by omega
   refine cx_skip ?_
   refine cx_keep rfl rfl (cx_seq (cx_block (cx_seq (cx_draw ?_))))
   refine ax_q (q_mov rfl) ?_
   refine ax_q (q_mov rfl) ?_
   refine ax_q (q_ix rfl rfl (mapAt hkx)) ?_
   refine ax_q (q_iadrI rfl rfl (by decide) (by decide)) ?_
   first | refine ax_q (q_load1_ptr rfl rfl rfl) ?_ | refine ax_q (q_load1_ip rfl) ?_
   refine ax_callq rfl (c_l01In  ) hP (lal_id _ rfl) rfl ?_
   refine ax_q (q_not rfl) ?_
   refine ax_q (q_mov rfl) ?_
   apply ax_or rfl rfl
   ·
    intro g
    have g := bF g
    refine ax_q (q_mov rfl) ?_
    refine ax_q (q_mov rfl) ?_
    refine ax_q (q_ix rfl rfl (mapAt hkx)) ?_
    refine ax_q (q_iadrI rfl rfl (by decide) (by decide)) ?_
    first | refine ax_q (q_load1_ptr rfl rfl rfl) ?_ | refine ax_q (q_load1_ip rfl) ?_
    refine ax_q (q_fadr_ptr rfl) ?_
    refine ax_q (q_load1_ptr rfl rfl rfl) ?_
    refine ax_qe (r' := int (x.Lsn - 1)) (q_ibin rfl rfl rfl) (by rw [wi (by omega) (by omega)]) ?_
    refine ax_callq rfl (c_l01In  ) hP (lal_id _ rfl) rfl ?_
    refine ax_q (q_not rfl) ?_
    exact ax_nil ⟨rfl, by repeat constructor⟩
   refine ax_q (q_mov rfl) ?_
   apply ax_or rfl rfl
   ·
    intro g
    have g := (fun h => And.intro (bF (or_F h).1) (bF (or_F h).2)) g
    refine ax_q (q_mov rfl) ?_
    refine ax_q (q_ibin rfl rfl rfl) ?_
    refine ax_q (q_mov rfl) ?_
    apply ax_and rfl rfl
    ·
     intro g
     have g := dT g
     refine ax_q (q_mov rfl) ?_
     refine ax_q (q_mov rfl) ?_
     refine ax_qe (r' := int ((k - 1 : Nat) : Int)) (q_ibin rfl rfl rfl) (by rw [wi (by omega) (by omega)]; exact congrArg AM.int (by omega)) ?_
     refine ax_q (q_ix rfl rfl (mapAt (Nat.lt_of_le_of_lt (Nat.sub_le k 1) hkx))) ?_
     refine ax_q (q_iadrI rfl rfl (by decide) (by decide)) ?_
     first | refine ax_q (q_load1_ptr rfl rfl rfl) ?_ | refine ax_q (q_load1_ip rfl) ?_
     refine ax_q (q_mov rfl) ?_
     refine ax_q (q_mov rfl) ?_
     refine ax_q (q_ix rfl rfl (mapAt hkx)) ?_
     refine ax_q (q_iadrI rfl rfl (by decide) (by decide)) ?_
     first | refine ax_q (q_load1_ptr rfl rfl rfl) ?_ | refine ax_q (q_load1_ip rfl) ?_
     refine ax_q (q_ibin rfl rfl rfl) ?_
     exact ax_nil ⟨rfl, by repeat constructor⟩
    exact ax_nil ⟨rfl, by repeat constructor⟩
   refine ax_nil (cx_keep rfl rfl ?_)
   refine cx_cond rfl (fun h2 => ?_) (fun h2 => ?_)
   ·
    have h2 : badPr 0 7 x.Lsn (readX x.After).1 k hkx = true := h2
    refine cx_seq (cx_ops ?_)
    refine ax_q (q_mov rfl) ?_
    refine ax_nil (cx_keep rfl rfl ?_)
    refine cx_ret (ret0 rfl rfl ?_)
    exact ⟨by rw [hc, okL_step hkx (by decide), show badPr ((-1) + 1) 7 x.Lsn (readX x.After).1 k hkx = true from h2]; rfl, rfl⟩
   ·
    have h2 : badPr 0 7 x.Lsn (readX x.After).1 k hkx = false := h2
    refine cx_skip ?_
    refine cx_keep rfl rfl (cx_ops ?_)
    refine ax_q (q_mov rfl) ?_
    refine ax_qe (r' := int ((k + 1 : Nat) : Int)) (q_ibin rfl rfl rfl) (by rw [wi (by omega) (by omega)]; rfl) ?_
    refine ax_q (q_mov rfl) ?_
    refine ax_nil ?_
    exact ⟨_, k + 1, by omega, ⟨by omega, rfl, by rw [hc, okL_step hkx (by decide), show badPr ((-1) + 1) 7 x.Lsn (readX x.After).1 k hkx = false from h2, Bool.not_false, Bool.true_and]⟩, by repeat constructor⟩
  ·
   have h1 := dF h1
   obtain rfl : k = (readX x.After).1.length := by omega
   refine cx_exit rfl ?_
   refine cx_keep rfl rfl (cx_seq (cx_seq (cx_ops ?_)))
   refine ax_q (q_mov rfl) ?_
   refine ax_nil (cx_keep rfl rfl (cx_block ?_))
   refine cx_loopU (fun m k => k ≤ (readX x.After).2.1.length ∧ m = (readX x.After).2.1.length - k ∧ checkOK x.After x.Lsn = (okL 60 x.Lsn ((readX x.After).2.1.drop k) (prevP (readX x.After).2.1 0 k))) (fun k : Nat => [(7, int k)]) (fun _ => [(1, .box (x.row.map .d))]) ⟨_, 0, ⟨Nat.zero_le _, rfl, by rw [hc, okL_end]; rfl⟩, by repeat constructor⟩ ?_
   rintro m k ⟨hk, rfl, hc⟩
   refine cx_seq (cx_seq (cx_ops ?_))
   refine ax_q (q_mov rfl) ?_
   refine ax_q (q_mov rfl) ?_
   refine ax_q (q_lenS_map rfl) ?_
   refine ax_q (q_ibin rfl rfl rfl) ?_
   refine ax_nil (cx_keep rfl rfl ?_)
   refine cx_cond rfl (fun h3 => ?_) (fun h3 => ?_)
   ·
    have h3 := dT h3
    have hkx : k < (readX x.After).2.1.length := by omega
    refine cx_skip ?_
    refine cx_keep rfl rfl (cx_seq (cx_block (cx_seq (cx_draw ?_))))
    refine ax_q (q_mov rfl) ?_
    refine ax_q (q_mov rfl) ?_
    refine ax_q (q_ix rfl rfl (mapAt hkx)) ?_
    refine ax_q (q_iadrI rfl rfl (by decide) (by decide)) ?_
    first | refine ax_q (q_load1_ptr rfl rfl rfl) ?_ | refine ax_q (q_load1_ip rfl) ?_
    refine ax_callq rfl (c_l01In  ) hP (lal_id _ rfl) rfl ?_
    refine ax_q (q_not rfl) ?_
    refine ax_q (q_mov rfl) ?_
    apply ax_or rfl rfl
    ·
     intro g
     have g := bF g
     refine ax_q (q_mov rfl) ?_
     refine ax_q (q_mov rfl) ?_
     refine ax_q (q_ix rfl rfl (mapAt hkx)) ?_
     refine ax_q (q_iadrI rfl rfl (by decide) (by decide)) ?_
     first | refine ax_q (q_load1_ptr rfl rfl rfl) ?_ | refine ax_q (q_load1_ip rfl) ?_
     refine ax_q (q_fadr_ptr rfl) ?_
     refine ax_q (q_load1_ptr rfl rfl rfl) ?_
     refine ax_qe (r' := int (x.Lsn - 1)) (q_ibin rfl rfl rfl) (by rw [wi (by omega) (by omega)]) ?_
     refine ax_callq rfl (c_l01In  ) hP (lal_id _ rfl) rfl ?_
     refine ax_q (q_not rfl) ?_
     exact ax_nil ⟨rfl, by repeat constructor⟩
    refine ax_q (q_mov rfl) ?_
    apply ax_or rfl rfl
    ·
     intro g
     have g := (fun h => And.intro (bF (or_F h).1) (bF (or_F h).2)) g
     refine ax_q (q_mov rfl) ?_
     refine ax_q (q_ibin rfl rfl rfl) ?_
     refine ax_q (q_mov rfl) ?_
     apply ax_and rfl rfl
     ·
      intro g
      have g := dT g
      refine ax_q (q_mov rfl) ?_
      refine ax_q (q_mov rfl) ?_
      refine ax_qe (r' := int ((k - 1 : Nat) : Int)) (q_ibin rfl rfl rfl) (by rw [wi (by omega) (by omega)]; exact congrArg AM.int (by omega)) ?_
      refine ax_q (q_ix rfl rfl (mapAt (Nat.lt_of_le_of_lt (Nat.sub_le k 1) hkx))) ?_
      refine ax_q (q_iadrI rfl rfl (by decide) (by decide)) ?_
      first | refine ax_q (q_load1_ptr rfl rfl rfl) ?_ | refine ax_q (q_load1_ip rfl) ?_
      refine ax_q (q_mov rfl) ?_
      refine ax_q (q_mov rfl) ?_
      refine ax_q (q_ix rfl rfl (mapAt hkx)) ?_
      refine ax_q (q_iadrI rfl rfl (by decide) (by decide)) ?_
      first | refine ax_q (q_load1_ptr rfl rfl rfl) ?_ | refine ax_q (q_load1_ip rfl) ?_
      refine ax_q (q_ibin rfl rfl rfl) ?_
      exact ax_nil ⟨rfl, by repeat constructor⟩
     exact ax_nil ⟨rfl, by repeat constructor⟩
    refine ax_nil (cx_keep rfl rfl ?_)
    refine cx_cond rfl (fun h4 => ?_) (fun h4 => ?_)
    ·
     have h4 : badPr 1 60 x.Lsn (readX x.After).2.1 k hkx = true := h4
     refine cx_seq (cx_ops ?_)
     refine ax_q (q_mov rfl) ?_
     refine ax_nil (cx_keep rfl rfl ?_)
     refine cx_ret (ret0 rfl rfl ?_)
     exact ⟨by rw [hc, okL_step hkx (by decide), show badPr (0 + 1) 60 x.Lsn (readX x.After).2.1 k hkx = true from h4]; rfl, rfl⟩
    ·
     have h4 : badPr 1 60 x.Lsn (readX x.After).2.1 k hkx = false := h4
     refine cx_skip ?_
     refine cx_keep rfl rfl (cx_ops ?_)
     refine ax_q (q_mov rfl) ?_
     refine ax_qe (r' := int ((k + 1 : Nat) : Int)) (q_ibin rfl rfl rfl) (by rw [wi (by omega) (by omega)]; rfl) ?_
     refine ax_q (q_mov rfl) ?_
     refine ax_nil ?_
     exact ⟨_, k + 1, by omega, ⟨by omega, rfl, by rw [hc, okL_step hkx (by decide), show badPr (0 + 1) 60 x.Lsn (readX x.After).2.1 k hkx = false from h4, Bool.not_false, Bool.true_and]⟩, by repeat constructor⟩
   ·
    have h3 := dF h3
    obtain rfl : k = (readX x.After).2.1.length := by omega
    refine cx_exit rfl ?_
    refine cx_keep rfl rfl (cx_seq (cx_ops ?_))
    refine ax_q (q_mov rfl) ?_
    refine ax_nil (cx_keep rfl rfl ?_)
    refine cx_ret (ret0 rfl rfl ?_)
    exact ⟨by rw [hc, okL_end]; rfl, rfl⟩


/- loop.example/g00332/spec.RecordOK -/
def k_c_sRecordOK : XCode :=
 .seq (.ops [.op (some 1) (.box (.t 0)),
   .op (some 2) (.mov (.k (.bool false)))])
 (.keep [1] (.seq (.seq (.ops [.op (some 4) (.fadr (.t 1) 0),
   .op (some 5) (.load1 (.t 4)),
   .call (some 6) 37 [.t 5, .k (.int .i64 1), .k (.int .i64 60)],
   .op (some 7) (.not (.t 6)),
   .op (some 8) (.mov (.t 7)),
   .andor 13 false 4 8 [.op (some 9) (.fadr (.t 1) 1), .op (some 10) (.load1 (.t 9)), .call (some 11) 37 [.t 10, .k (.int .i64 1), .k (.int .i64 60)], .op (some 12) (.not (.t 11))] (.t 12),
   .op (some 14) (.mov (.t 13)),
   .andor 19 false 10 14 [.op (some 15) (.fadr (.t 1) 3), .op (some 16) (.load1 (.t 15)), .call (some 17) 37 [.t 16, .k (.int .i64 1), .k (.int .i64 6)], .op (some 18) (.not (.t 17))] (.t 18),
   .op (some 20) (.mov (.t 19)),
   .andor 28 false 16 20 [.op (some 21) (.fadr (.t 1) 4), .op (some 22) (.load1 (.t 21)), .op (some 23) (.fadr (.t 1) 1), .op (some 24) (.load1 (.t 23)), .op (some 25) (.bin .sub (.t 24) (.k (.int .i64 1))), .call (some 26) 37 [.t 22, .k (.int .i64 0), .t 25], .op (some 27) (.not (.t 26))] (.t 27),
   .op (some 29) (.mov (.t 28)),
   .andor 37 false 25 29 [.op (some 30) (.fadr (.t 1) 5), .op (some 31) (.load1 (.t 30)), .op (some 32) (.fadr (.t 1) 1), .op (some 33) (.load1 (.t 32)), .op (some 34) (.bin .sub (.t 33) (.k (.int .i64 1))), .call (some 35) 37 [.t 31, .k (.int .i64 0), .t 34], .op (some 36) (.not (.t 35))] (.t 36),
   .op (some 38) (.mov (.t 37)),
   .andor 43 false 34 38 [.op (some 39) (.fadr (.t 1) 6), .op (some 40) (.load1 (.t 39)), .call (some 41) 37 [.t 40, .k (.int .i64 0), .k (.int .i64 7)], .op (some 42) (.not (.t 41))] (.t 42),
   .op (some 44) (.mov (.t 43)),
   .andor 49 false 40 44 [.op (some 45) (.fadr (.t 1) 7), .op (some 46) (.load1 (.t 45)), .call (some 47) 37 [.t 46, .k (.int .i64 0), .k (.int .i64 3)], .op (some 48) (.not (.t 47))] (.t 48),
   .op (some 50) (.mov (.t 49)),
   .andor 55 false 46 50 [.op (some 51) (.fadr (.t 1) 8), .op (some 52) (.load1 (.t 51)), .op (some 53) (.lenT (.t 52)), .op (some 54) (.bin .gtr (.t 53) (.k (.int .i64 30)))] (.t 54)])
  (.keep [1, 55] (.cond (.t 55)
  (.seq (.ops [.op (some 2) (.mov (.k (.bool false)))])
   (.keep [2] (.ret)))
  (.skip))))
 (.keep [1] (.seq (.seq (.ops [.op (some 56) (.fadr (.t 1) 3),
   .op (some 57) (.load1 (.t 56)),
   .op (some 58) (.bin .eql (.t 57) (.k (.int .i64 6)))])
  (.keep [1, 58] (.cond (.t 58)
  (.seq (.ops [.op (some 59) (.fadr (.t 1) 2),
    .op (some 60) (.load1 (.t 59)),
    .op (some 61) (.bin .eql (.t 60) (.k (.int .i64 0))),
    .op (some 62) (.mov (.t 61)),
    .andor 66 true 3 62 [.op (some 63) (.fadr (.t 1) 4), .op (some 64) (.load1 (.t 63)), .op (some 65) (.bin .eql (.t 64) (.k (.int .i64 0)))] (.t 65),
    .op (some 67) (.mov (.t 66)),
    .andor 71 true 8 67 [.op (some 68) (.fadr (.t 1) 5), .op (some 69) (.load1 (.t 68)), .op (some 70) (.bin .eql (.t 69) (.k (.int .i64 0)))] (.t 70),
    .op (some 72) (.mov (.t 71)),
    .andor 76 true 13 72 [.op (some 73) (.fadr (.t 1) 6), .op (some 74) (.load1 (.t 73)), .op (some 75) (.bin .eql (.t 74) (.k (.int .i64 0)))] (.t 75),
    .op (some 77) (.mov (.t 76)),
    .andor 81 true 18 77 [.op (some 78) (.fadr (.t 1) 7), .op (some 79) (.load1 (.t 78)), .op (some 80) (.bin .eql (.t 79) (.k (.int .i64 0)))] (.t 80),
    .op (some 82) (.mov (.t 81)),
    .andor 86 true 23 82 [.op (some 83) (.fadr (.t 1) 8), .op (some 84) (.load1 (.t 83)), .op (some 85) (.bin .eql (.t 84) (.k (.str [])))] (.t 85),
    .op (some 87) (.mov (.t 86)),
    .andor 90 true 28 87 [.op (some 88) (.loadN 10 (.t 1)), .call (some 89) 158 [.t 88]] (.t 89),
    .op (some 2) (.mov (.t 90))])
   (.keep [2] (.ret)))
  (.skip))))
 (.keep [1] (.seq (.seq (.ops [.op (some 91) (.fadr (.t 1) 2),
   .op (some 92) (.load1 (.t 91)),
   .call (some 93) 37 [.t 92, .k (.int .i64 1), .k (.int .i64 60)],
   .op (some 94) (.not (.t 93)),
   .op (some 95) (.mov (.t 94)),
   .andor 100 false 4 95 [.op (some 96) (.fadr (.t 1) 9), .op (some 97) (.load1 (.t 96)), .op (some 98) (.lenT (.t 97)), .op (some 99) (.bin .gtr (.t 98) (.k (.int .i64 30)))] (.t 99)])
  (.keep [1, 100] (.cond (.t 100)
  (.seq (.ops [.op (some 2) (.mov (.k (.bool false)))])
   (.keep [2] (.ret)))
  (.skip))))
 (.keep [1] (.seq (.ops [.op (some 101) (.fadr (.t 1) 3),
   .op (some 102) (.load1 (.t 101)),
   .op (some 103) (.bin .eql (.t 102) (.k (.int .i64 2))),
   .op (some 104) (.mov (.t 103)),
   .andor 108 false 3 104 [.op (some 105) (.fadr (.t 1) 3), .op (some 106) (.load1 (.t 105)), .op (some 107) (.bin .eql (.t 106) (.k (.int .i64 3)))] (.t 107),
   .op (some 3) (.mov (.t 108))])
 (.keep [1, 3] (.seq (.seq (.ops [.op (some 109) (.mov (.t 3)),
   .op (some 110) (.not (.t 109)),
   .op (some 111) (.mov (.t 110)),
   .andor 130 true 2 111 [.op (some 112) (.fadr (.t 1) 6), .op (some 113) (.load1 (.t 112)), .op (some 114) (.bin .neq (.t 113) (.k (.int .i64 0))), .op (some 115) (.mov (.t 114)), .andor 119 false 6 115 [.op (some 116) (.fadr (.t 1) 7), .op (some 117) (.load1 (.t 116)), .op (some 118) (.bin .neq (.t 117) (.k (.int .i64 0)))] (.t 118), .op (some 120) (.mov (.t 119)), .andor 124 false 11 120 [.op (some 121) (.fadr (.t 1) 8), .op (some 122) (.load1 (.t 121)), .op (some 123) (.bin .neq (.t 122) (.k (.str [])))] (.t 123), .op (some 125) (.mov (.t 124)), .andor 129 false 16 125 [.op (some 126) (.fadr (.t 1) 9), .op (some 127) (.load1 (.t 126)), .op (some 128) (.bin .neq (.t 127) (.k (.str [])))] (.t 128)] (.t 129),
   .op (some 131) (.mov (.t 130)),
   .andor 140 false 22 131 [.op (some 132) (.fadr (.t 1) 3), .op (some 133) (.load1 (.t 132)), .op (some 134) (.bin .neq (.t 133) (.k (.int .i64 3))), .op (some 135) (.mov (.t 134)), .andor 139 true 26 135 [.op (some 136) (.fadr (.t 1) 5), .op (some 137) (.load1 (.t 136)), .op (some 138) (.bin .neq (.t 137) (.k (.int .i64 0)))] (.t 138)] (.t 139),
   .op (some 141) (.mov (.t 140)),
   .andor 150 false 32 141 [.op (some 142) (.fadr (.t 1) 3), .op (some 143) (.load1 (.t 142)), .op (some 144) (.bin .eql (.t 143) (.k (.int .i64 3))), .op (some 145) (.mov (.t 144)), .andor 149 true 36 145 [.op (some 146) (.fadr (.t 1) 8), .op (some 147) (.load1 (.t 146)), .op (some 148) (.bin .neq (.t 147) (.k (.str [])))] (.t 148)] (.t 149)])
  (.keep [1, 150] (.cond (.t 150)
  (.seq (.ops [.op (some 2) (.mov (.k (.bool false)))])
   (.keep [2] (.ret)))
  (.skip))))
 (.keep [1] (.seq (.ops [.op (some 151) (.fadr (.t 1) 3),
   .op (some 152) (.load1 (.t 151)),
   .op (some 153) (.bin .eql (.t 152) (.k (.int .i64 1))),
   .op (some 154) (.fadr (.t 1) 4),
   .op (some 155) (.load1 (.t 154)),
   .op (some 156) (.bin .eql (.t 155) (.k (.int .i64 0))),
   .op (some 157) (.eqb false (.t 153) (.t 156)),
   .op (some 2) (.mov (.t 157))])
 (.keep [2] (.ret))))))))))))))
theorem k_c_sRecordOK_fits : fitsF Tryz.prog 83 ⟨158, k_c_sRecordOK, [.t 2]⟩ = true := by kernel_rfl
set_option maxHeartbeats 4000000 in
theorem c_sRecordOK {x : GLogRecord} (hl : x.After.length ≤ 1048576) : Con Tryz.prog noMv 83 [x.av] [] (fun r h => r = bool (recOK x) ∧ h = []) := by
 refine con_of2 k_c_sRecordOK_fits rfl fun C hP hmv => ?_
 unfold k_c_sRecordOK
 refine cx_seq (cx_ops ?_)
 refine ax_e (e_box rfl rfl (by decide) rfl rfl rfl) ?_
 refine ax_q (q_mov rfl) ?_
 refine ax_nil (cx_keep rfl rfl (cx_seq (cx_seq (cx_ops ?_))))
 refine ax_q (q_fadr_ptr rfl) ?_
 refine ax_q (q_load1_ptr rfl rfl rfl) ?_
 refine ax_call rfl (vc_pure0 (c_l01In  ) hP rfl rfl ?_)
 refine ax_q (q_not rfl) ?_
 refine ax_q (q_mov rfl) ?_
 apply ax_or rfl rfl
 ·
  intro g
  have g := bF g
  refine ax_q (q_fadr_ptr rfl) ?_
  refine ax_q (q_load1_ptr rfl rfl rfl) ?_
  refine ax_call rfl (vc_pure0 (c_l01In  ) hP rfl rfl ?_)
  refine ax_q (q_not rfl) ?_
  exact ax_nil ⟨rfl, by repeat constructor⟩
 refine ax_q (q_mov rfl) ?_
 apply ax_or rfl rfl
 ·
  intro g
  have g := (fun h => And.intro (bF (or_F h).1) (bF (or_F h).2)) g
  refine ax_q (q_fadr_ptr rfl) ?_
  refine ax_q (q_load1_ptr rfl rfl rfl) ?_
  refine ax_call rfl (vc_pure0 (c_l01In  ) hP rfl rfl ?_)
  refine ax_q (q_not rfl) ?_
  exact ax_nil ⟨rfl, by repeat constructor⟩
 refine ax_q (q_mov rfl) ?_
 apply ax_or rfl rfl
 ·
  intro g
  have g := (fun h => And.intro ((fun h => And.intro (bF (or_F h).1) (bF (or_F h).2)) (or_F h).1) (bF (or_F h).2)) g
  refine ax_q (q_fadr_ptr rfl) ?_
  refine ax_q (q_load1_ptr rfl rfl rfl) ?_
  refine ax_q (q_fadr_ptr rfl) ?_
  refine ax_q (q_load1_ptr rfl rfl rfl) ?_
  refine ax_qe (r' := int (x.Lsn - 1)) (q_ibin rfl rfl rfl) (by have hL := inR_iff.1 g.1.2; rw [wi (by omega) (by omega)]) ?_
  refine ax_call rfl (vc_pure0 (c_l01In  ) hP rfl rfl ?_)
  refine ax_q (q_not rfl) ?_
  exact ax_nil ⟨rfl, by repeat constructor⟩
 refine ax_q (q_mov rfl) ?_
 apply ax_or rfl rfl
 ·
  intro g
  have g := (fun h => And.intro ((fun h => And.intro ((fun h => And.intro (bF (or_F h).1) (bF (or_F h).2)) (or_F h).1) (bF (or_F h).2)) (or_F h).1) (bF (or_F h).2)) g
  refine ax_q (q_fadr_ptr rfl) ?_
  refine ax_q (q_load1_ptr rfl rfl rfl) ?_
  refine ax_q (q_fadr_ptr rfl) ?_
  refine ax_q (q_load1_ptr rfl rfl rfl) ?_
  refine ax_qe (r' := int (x.Lsn - 1)) (q_ibin rfl rfl rfl) (by have hL := inR_iff.1 g.1.1.2; rw [wi (by omega) (by omega)]) ?_
  refine ax_call rfl (vc_pure0 (c_l01In  ) hP rfl rfl ?_)
  refine ax_q (q_not rfl) ?_
  exact ax_nil ⟨rfl, by repeat constructor⟩
 refine ax_q (q_mov rfl) ?_
 apply ax_or rfl rfl
 ·
  intro g
  have g := (fun h => And.intro ((fun h => And.intro ((fun h => And.intro ((fun h => And.intro (bF (or_F h).1) (bF (or_F h).2)) (or_F h).1) (bF (or_F h).2)) (or_F h).1) (bF (or_F h).2)) (or_F h).1) (bF (or_F h).2)) g
  refine ax_q (q_fadr_ptr rfl) ?_
  refine ax_q (q_load1_ptr rfl rfl rfl) ?_
  refine ax_call rfl (vc_pure0 (c_l01In  ) hP rfl rfl ?_)
  refine ax_q (q_not rfl) ?_
  exact ax_nil ⟨rfl, by repeat constructor⟩
 refine ax_q (q_mov rfl) ?_
 apply ax_or rfl rfl
 ·
  intro g
  have g := (fun h => And.intro ((fun h => And.intro ((fun h => And.intro ((fun h => And.intro ((fun h => And.intro (bF (or_F h).1) (bF (or_F h).2)) (or_F h).1) (bF (or_F h).2)) (or_F h).1) (bF (or_F h).2)) (or_F h).1) (bF (or_F h).2)) (or_F h).1) (bF (or_F h).2)) g
  refine ax_q (q_fadr_ptr rfl) ?_
  refine ax_q (q_load1_ptr rfl rfl rfl) ?_
  refine ax_call rfl (vc_pure0 (c_l01In  ) hP rfl rfl ?_)
  refine ax_q (q_not rfl) ?_
  exact ax_nil ⟨rfl, by repeat constructor⟩
 refine ax_q (q_mov rfl) ?_
 apply ax_or rfl rfl
 ·
  intro g
  have g := (fun h => And.intro ((fun h => And.intro ((fun h => And.intro ((fun h => And.intro ((fun h => And.intro ((fun h => And.intro (bF (or_F h).1) (bF (or_F h).2)) (or_F h).1) (bF (or_F h).2)) (or_F h).1) (bF (or_F h).2)) (or_F h).1) (bF (or_F h).2)) (or_F h).1) (bF (or_F h).2)) (or_F h).1) (bF (or_F h).2)) g
  refine ax_q (q_fadr_ptr rfl) ?_
  refine ax_q (q_load1_ptr rfl rfl rfl) ?_
  refine ax_q (q_lenT rfl) ?_
  refine ax_q (q_ibin rfl rfl rfl) ?_
  exact ax_nil ⟨rfl, by repeat constructor⟩
 refine ax_nil (cx_keep rfl rfl ?_)
 refine cx_cond rfl (fun h0 => ?_) (fun h0 => ?_)
 ·
  have h0 : badS0 x = true := h0
  refine cx_seq (cx_ops ?_)
  refine ax_q (q_mov rfl) ?_
  refine ax_nil (cx_keep rfl rfl ?_)
  refine cx_ret (ret0 rfl rfl ?_)
  exact ⟨by rw [recS_0 h0]; rfl, rfl⟩
 ·
  have h0 : badS0 x = false := h0
  refine cx_skip ?_
  refine cx_keep rfl rfl (cx_seq (cx_seq (cx_ops ?_)))
  refine ax_q (q_fadr_ptr rfl) ?_
  refine ax_q (q_load1_ptr rfl rfl rfl) ?_
  have hS := badS0_no.1 h0
  refine ax_q (q_ibin rfl rfl rfl) ?_
  refine ax_nil (cx_keep rfl rfl ?_)
  refine cx_cond rfl (fun h1 => ?_) (fun h1 => ?_)
  ·
   have h1 := dT h1
   refine cx_seq (cx_ops ?_)
   refine ax_q (q_fadr_ptr rfl) ?_
   refine ax_q (q_load1_ptr rfl rfl rfl) ?_
   refine ax_q (q_ibin rfl rfl rfl) ?_
   refine ax_q (q_mov rfl) ?_
   apply ax_and rfl rfl
   ·
    intro g
    have g := dT g
    refine ax_q (q_fadr_ptr rfl) ?_
    refine ax_q (q_load1_ptr rfl rfl rfl) ?_
    refine ax_q (q_ibin rfl rfl rfl) ?_
    exact ax_nil ⟨rfl, by repeat constructor⟩
   refine ax_q (q_mov rfl) ?_
   apply ax_and rfl rfl
   ·
    intro g
    have g := (fun h => And.intro (dT (and_T h).1) (dT (and_T h).2)) g
    refine ax_q (q_fadr_ptr rfl) ?_
    refine ax_q (q_load1_ptr rfl rfl rfl) ?_
    refine ax_q (q_ibin rfl rfl rfl) ?_
    exact ax_nil ⟨rfl, by repeat constructor⟩
   refine ax_q (q_mov rfl) ?_
   apply ax_and rfl rfl
   ·
    intro g
    have g := (fun h => And.intro ((fun h => And.intro (dT (and_T h).1) (dT (and_T h).2)) (and_T h).1) (dT (and_T h).2)) g
    refine ax_q (q_fadr_ptr rfl) ?_
    refine ax_q (q_load1_ptr rfl rfl rfl) ?_
    refine ax_q (q_ibin rfl rfl rfl) ?_
    exact ax_nil ⟨rfl, by repeat constructor⟩
   refine ax_q (q_mov rfl) ?_
   apply ax_and rfl rfl
   ·
    intro g
    have g := (fun h => And.intro ((fun h => And.intro ((fun h => And.intro (dT (and_T h).1) (dT (and_T h).2)) (and_T h).1) (dT (and_T h).2)) (and_T h).1) (dT (and_T h).2)) g
    refine ax_q (q_fadr_ptr rfl) ?_
    refine ax_q (q_load1_ptr rfl rfl rfl) ?_
    refine ax_q (q_ibin rfl rfl rfl) ?_
    exact ax_nil ⟨rfl, by repeat constructor⟩
   refine ax_q (q_mov rfl) ?_
   apply ax_and rfl rfl
   ·
    intro g
    have g := (fun h => And.intro ((fun h => And.intro ((fun h => And.intro ((fun h => And.intro (dT (and_T h).1) (dT (and_T h).2)) (and_T h).1) (dT (and_T h).2)) (and_T h).1) (dT (and_T h).2)) (and_T h).1) (dT (and_T h).2)) g
    refine ax_q (q_fadr_ptr rfl) ?_
    refine ax_q (q_load1_ptr rfl rfl rfl) ?_
    refine ax_q (q_sbin rfl rfl rfl) ?_
    exact ax_nil ⟨rfl, by repeat constructor⟩
   refine ax_q (q_mov rfl) ?_
   apply ax_and rfl rfl
   ·
    intro g
    have g := (fun h => And.intro ((fun h => And.intro ((fun h => And.intro ((fun h => And.intro ((fun h => And.intro (dT (and_T h).1) (dT (and_T h).2)) (and_T h).1) (dT (and_T h).2)) (and_T h).1) (dT (and_T h).2)) (and_T h).1) (dT (and_T h).2)) (and_T h).1) (dT (and_T h).2)) g
    refine ax_q (q_ldN rfl rfl rfl) ?_
    refine ax_call rfl (vc_pure0 (c_l04CheckOK (x := x) ?_ ?_) hP rfl rfl ?_)
    ·
     assumption
    ·
     exact hS.l
    exact ax_nil ⟨rfl, by repeat constructor⟩
   refine ax_q (q_mov rfl) ?_
   refine ax_nil (cx_keep rfl rfl ?_)
   refine cx_ret (ret0 rfl rfl ?_)
   exact ⟨congrArg AM.bool (recS_6 hS h1), rfl⟩
  ·
   have h1 := dF h1
   refine cx_skip ?_
   refine cx_keep rfl rfl (cx_seq (cx_seq (cx_ops ?_)))
   refine ax_q (q_fadr_ptr rfl) ?_
   refine ax_q (q_load1_ptr rfl rfl rfl) ?_
   refine ax_call rfl (vc_pure0 (c_l01In  ) hP rfl rfl ?_)
   refine ax_q (q_not rfl) ?_
   refine ax_q (q_mov rfl) ?_
   apply ax_or rfl rfl
   ·
    intro g
    have g := bF g
    refine ax_q (q_fadr_ptr rfl) ?_
    refine ax_q (q_load1_ptr rfl rfl rfl) ?_
    refine ax_q (q_lenT rfl) ?_
    refine ax_q (q_ibin rfl rfl rfl) ?_
    exact ax_nil ⟨rfl, by repeat constructor⟩
   refine ax_nil (cx_keep rfl rfl ?_)
   refine cx_cond rfl (fun h2 => ?_) (fun h2 => ?_)
   ·
    have h2 : badS2 x = true := h2
    refine cx_seq (cx_ops ?_)
    refine ax_q (q_mov rfl) ?_
    refine ax_nil (cx_keep rfl rfl ?_)
    refine cx_ret (ret0 rfl rfl ?_)
    exact ⟨by rw [recS_2 h1 h2]; rfl, rfl⟩
   ·
    have h2 : badS2 x = false := h2
    refine cx_skip ?_
    refine cx_keep rfl rfl (cx_seq (cx_ops ?_))
    refine ax_q (q_fadr_ptr rfl) ?_
    refine ax_q (q_load1_ptr rfl rfl rfl) ?_
    refine ax_q (q_ibin rfl rfl rfl) ?_
    refine ax_q (q_mov rfl) ?_
    apply ax_or rfl rfl
    ·
     intro g
     have g := dF g
     refine ax_q (q_fadr_ptr rfl) ?_
     refine ax_q (q_load1_ptr rfl rfl rfl) ?_
     refine ax_q (q_ibin rfl rfl rfl) ?_
     exact ax_nil ⟨rfl, by repeat constructor⟩
    refine ax_q (q_mov rfl) ?_
    refine ax_nil (cx_keep rfl rfl (cx_seq (cx_seq (cx_ops ?_))))
    refine ax_q (q_mov rfl) ?_
    refine ax_q (q_not rfl) ?_
    refine ax_q (q_mov rfl) ?_
    apply ax_and rfl rfl
    ·
     intro g
     have g := (fun h => (fun h => And.intro (dF (or_F h).1) (dF (or_F h).2)) (bT h)) g
     refine ax_q (q_fadr_ptr rfl) ?_
     refine ax_q (q_load1_ptr rfl rfl rfl) ?_
     refine ax_q (q_ibin rfl rfl rfl) ?_
     refine ax_q (q_mov rfl) ?_
     apply ax_or rfl rfl
     ·
      intro g
      have g := nF g
      refine ax_q (q_fadr_ptr rfl) ?_
      refine ax_q (q_load1_ptr rfl rfl rfl) ?_
      refine ax_q (q_ibin rfl rfl rfl) ?_
      exact ax_nil ⟨rfl, by repeat constructor⟩
     refine ax_q (q_mov rfl) ?_
     apply ax_or rfl rfl
     ·
      intro g
      have g := (fun h => And.intro (nF (or_F h).1) (nF (or_F h).2)) g
      refine ax_q (q_fadr_ptr rfl) ?_
      refine ax_q (q_load1_ptr rfl rfl rfl) ?_
      refine ax_q (q_sbin rfl rfl rfl) ?_
      exact ax_nil ⟨rfl, by repeat constructor⟩
     refine ax_q (q_mov rfl) ?_
     apply ax_or rfl rfl
     ·
      intro g
      have g := (fun h => And.intro ((fun h => And.intro (nF (or_F h).1) (nF (or_F h).2)) (or_F h).1) (nF (or_F h).2)) g
      refine ax_q (q_fadr_ptr rfl) ?_
      refine ax_q (q_load1_ptr rfl rfl rfl) ?_
      refine ax_q (q_sbin rfl rfl rfl) ?_
      exact ax_nil ⟨rfl, by repeat constructor⟩
     exact ax_nil ⟨rfl, by repeat constructor⟩
    refine ax_q (q_mov rfl) ?_
    apply ax_or rfl rfl
    ·
     intro g
     have g := (fun h => (and_F h).imp (fun h => (fun h => (or_T h).imp dT dT) (bF h)) (fun h => And.intro ((fun h => And.intro ((fun h => And.intro (nF (or_F h).1) (nF (or_F h).2)) (or_F h).1) (nF (or_F h).2)) (or_F h).1) (nF (or_F h).2))) g
     refine ax_q (q_fadr_ptr rfl) ?_
     refine ax_q (q_load1_ptr rfl rfl rfl) ?_
     refine ax_q (q_ibin rfl rfl rfl) ?_
     refine ax_q (q_mov rfl) ?_
     apply ax_and rfl rfl
     ·
      intro g
      have g := nT g
      refine ax_q (q_fadr_ptr rfl) ?_
      refine ax_q (q_load1_ptr rfl rfl rfl) ?_
      refine ax_q (q_ibin rfl rfl rfl) ?_
      exact ax_nil ⟨rfl, by repeat constructor⟩
     exact ax_nil ⟨rfl, by repeat constructor⟩
    refine ax_q (q_mov rfl) ?_
    apply ax_or rfl rfl
    ·
     intro g
     have g := (fun h => And.intro ((fun h => (and_F h).imp (fun h => (fun h => (or_T h).imp dT dT) (bF h)) (fun h => And.intro ((fun h => And.intro ((fun h => And.intro (nF (or_F h).1) (nF (or_F h).2)) (or_F h).1) (nF (or_F h).2)) (or_F h).1) (nF (or_F h).2))) (or_F h).1) ((fun h => (and_F h).imp nF nF) (or_F h).2)) g
     refine ax_q (q_fadr_ptr rfl) ?_
     refine ax_q (q_load1_ptr rfl rfl rfl) ?_
     refine ax_q (q_ibin rfl rfl rfl) ?_
     refine ax_q (q_mov rfl) ?_
     apply ax_and rfl rfl
     ·
      intro g
      have g := dT g
      refine ax_q (q_fadr_ptr rfl) ?_
      refine ax_q (q_load1_ptr rfl rfl rfl) ?_
      refine ax_q (q_sbin rfl rfl rfl) ?_
      exact ax_nil ⟨rfl, by repeat constructor⟩
     exact ax_nil ⟨rfl, by repeat constructor⟩
    refine ax_nil (cx_keep rfl rfl ?_)
    refine cx_cond rfl (fun h3 => ?_) (fun h3 => ?_)
    ·
     have h3 : badS3 x = true := h3
     refine cx_seq (cx_ops ?_)
     refine ax_q (q_mov rfl) ?_
     refine ax_nil (cx_keep rfl rfl ?_)
     refine cx_ret (ret0 rfl rfl ?_)
     exact ⟨by rw [recS_3 h1 h3]; rfl, rfl⟩
    ·
     have h3 : badS3 x = false := h3
     refine cx_skip ?_
     refine cx_keep rfl rfl (cx_seq (cx_ops ?_))
     refine ax_q (q_fadr_ptr rfl) ?_
     refine ax_q (q_load1_ptr rfl rfl rfl) ?_
     refine ax_q (q_ibin rfl rfl rfl) ?_
     refine ax_q (q_fadr_ptr rfl) ?_
     refine ax_q (q_load1_ptr rfl rfl rfl) ?_
     refine ax_q (q_ibin rfl rfl rfl) ?_
     refine ax_q (q_eqb rfl rfl) ?_
     refine ax_q (q_mov rfl) ?_
     refine ax_nil (cx_keep rfl rfl ?_)
     refine cx_ret (ret0 rfl rfl ?_)
     exact ⟨congrArg AM.bool (recS_4 hS h1 h2 h3), rfl⟩


/- loop.example/g00332/spec.PageOK -/
def k_c_sPageOK : XCode :=
 .seq (.ops [.op (some 1) (.box (.t 0)),
   .op (some 2) (.mov (.k (.bool false)))])
 (.keep [1] (.seq (.seq (.ops [.op (some 4) (.fadr (.t 1) 0),
   .op (some 5) (.load1 (.t 4)),
   .call (some 6) 37 [.t 5, .k (.int .i64 0), .k (.int .i64 1000)],
   .op (some 7) (.not (.t 6)),
   .op (some 8) (.mov (.t 7)),
   .andor 13 false 4 8 [.op (some 9) (.fadr (.t 1) 1), .op (some 10) (.load1 (.t 9)), .op (some 11) (.lenS (.t 10)), .op (some 12) (.bin .neq (.t 11) (.k (.int .i64 4)))] (.t 12)])
  (.keep [1, 13] (.cond (.t 13)
  (.seq (.ops [.op (some 2) (.mov (.k (.bool false)))])
   (.keep [2] (.ret)))
  (.skip))))
 (.keep [1] (.seq (.seq (.ops [.op (some 3) (.mov (.k (.int .i64 0)))])
  (.keep [1, 3] (.block 0 (.loop (.seq (.seq (.ops [.op (some 14) (.mov (.t 3)),
     .op (some 15) (.bin .lss (.t 14) (.k (.int .i64 4)))])
   (.keep [1, 3, 15] (.cond (.t 15)
    (.skip)
    (.exit 0))))
   (.keep [1, 3] (.seq (.block 1 (.seq (.ops [.op (some 18) (.fadr (.t 1) 1),
     .op (some 19) (.load1 (.t 18)),
     .op (some 20) (.mov (.t 3)),
     .op (some 21) (.iadr 1 (.t 19) (.t 20)),
     .op (some 22) (.load1 (.t 21)),
     .op (some 23) (.lenT (.t 22)),
     .op (some 24) (.bin .gtr (.t 23) (.k (.int .i64 30)))])
    (.keep [1, 3, 24] (.cond (.t 24)
    (.seq (.ops [.op (some 2) (.mov (.k (.bool false)))])
     (.keep [2] (.ret)))
    (.skip)))))
   (.keep [1, 3] (.ops [.op (some 16) (.mov (.t 3)),
    .op (some 17) (.bin .add (.t 16) (.k (.int .i64 1))),
    .op (some 3) (.mov (.t 17))])))))))))
 (.keep [] (.seq (.ops [.op (some 2) (.mov (.k (.bool true)))])
 (.keep [2] (.ret))))))))
theorem k_c_sPageOK_fits : fitsF Tryz.prog 84 ⟨25, k_c_sPageOK, [.t 2]⟩ = true := by kernel_rfl
theorem c_sPageOK {p : Page} (hl : p.slots.length ≤ 1048576) : Con Tryz.prog noMv 84 [p.av] [] (fun r h => r = bool (pageOK p) ∧ h = []) := by
 refine con_of2 k_c_sPageOK_fits rfl fun C hP hmv => ?_
 unfold k_c_sPageOK
 refine cx_seq (cx_ops ?_)
 refine ax_e (e_box rfl rfl (by decide) rfl rfl rfl) ?_
 refine ax_q (q_mov rfl) ?_
 refine ax_nil (cx_keep rfl rfl (cx_seq (cx_seq (cx_ops ?_))))
 refine ax_q (q_fadr_ptr rfl) ?_
 refine ax_q (q_load1_ptr rfl rfl rfl) ?_
 refine ax_call rfl (vc_pure0 (c_l01In  ) hP rfl rfl ?_)
 refine ax_q (q_not rfl) ?_
 refine ax_q (q_mov rfl) ?_
 apply ax_or rfl rfl
 ·
  intro g
  have g := bF g
  refine ax_q (q_fadr_ptr rfl) ?_
  refine ax_q (q_load1_ptr rfl rfl rfl) ?_
  refine ax_q (q_lenS_map rfl) ?_
  refine ax_q (q_ibin rfl rfl rfl) ?_
  exact ax_nil ⟨rfl, by repeat constructor⟩
 refine ax_nil (cx_keep rfl rfl ?_)
 refine cx_cond rfl (fun h0 => ?_) (fun h0 => ?_)
 ·
  have h0 : hdP p = true := h0
  refine cx_seq (cx_ops ?_)
  refine ax_q (q_mov rfl) ?_
  refine ax_nil (cx_keep rfl rfl ?_)
  refine cx_ret (ret0 rfl rfl ?_)
  exact ⟨by rw [pageOK_hd h0]; rfl, rfl⟩
 ·
  have h0 : hdP p = false := h0
  have h4 := hdP_len h0
  refine cx_skip ?_
  refine cx_keep rfl rfl (cx_seq (cx_seq (cx_ops ?_)))
  refine ax_q (q_mov rfl) ?_
  refine ax_nil (cx_keep rfl rfl (cx_block ?_))
  refine cx_loopU (fun n k => k ≤ 4 ∧ n = 4 - k ∧ ∀ j, j < k → ∀ x, p.slots[j]? = some x → decide ((30 : Int) < (x.length : Int)) = false) (fun k : Nat => [(3, int k)]) (fun _ => [(1, .box [.d (.int .i64 p.lsn), .d (.sl 1 (p.slots.map strRow))])]) ⟨_, 0, ⟨Nat.zero_le _, rfl, fun j hj => by omega⟩, by repeat constructor⟩ ?_
  rintro n k ⟨hk, rfl, hb⟩
  refine cx_seq (cx_seq (cx_ops ?_))
  refine ax_q (q_mov rfl) ?_
  refine ax_q (q_ibin rfl rfl rfl) ?_
  refine ax_nil (cx_keep rfl rfl ?_)
  refine cx_cond rfl (fun h1 => ?_) (fun h1 => ?_)
  ·
   have h1 := dT h1
   have h1x : k < p.slots.length := by omega
   refine cx_skip ?_
   refine cx_keep rfl rfl (cx_seq (cx_block (cx_seq (cx_ops ?_))))
   refine ax_q (q_fadr_ptr rfl) ?_
   refine ax_q (q_load1_ptr rfl rfl rfl) ?_
   refine ax_q (q_mov rfl) ?_
   refine ax_q (q_ix rfl rfl (mapAt h1x)) ?_
   first | refine ax_q (q_load1_ptr rfl rfl rfl) ?_ | refine ax_q (q_load1_ip rfl) ?_
   refine ax_q (q_lenT rfl) ?_
   refine ax_q (q_ibin rfl rfl rfl) ?_
   refine ax_nil (cx_keep rfl rfl ?_)
   refine cx_cond rfl (fun h2 => ?_) (fun h2 => ?_)
   ·
    have h2 : decide ((30 : Int) < (p.slots[k].length : Int)) = true := h2
    refine cx_seq (cx_ops ?_)
    refine ax_q (q_mov rfl) ?_
    refine ax_nil (cx_keep rfl rfl ?_)
    refine cx_ret (ret0 rfl rfl ?_)
    exact ⟨by rw [pageOK_int, any_hit h1x h2, Bool.not_true, Bool.and_false]; rfl, rfl⟩
   ·
    have h2 : decide ((30 : Int) < (p.slots[k].length : Int)) = false := h2
    refine cx_skip ?_
    refine cx_keep rfl rfl (cx_ops ?_)
    refine ax_q (q_mov rfl) ?_
    refine ax_qe (r' := int ((k + 1 : Nat) : Int)) (q_ibin rfl rfl rfl) (by rw [wi (by omega) (by omega)]; rfl) ?_
    refine ax_q (q_mov rfl) ?_
    refine ax_nil ?_
    exact ⟨_, k + 1, by omega, ⟨by omega, rfl, before_step h1x hb h2⟩, by repeat constructor⟩
  ·
   have h1 := dF h1
   have h1x : k = p.slots.length := by omega
   subst h1x
   refine cx_exit rfl ?_
   refine cx_keep rfl rfl (cx_seq (cx_ops ?_))
   refine ax_q (q_mov rfl) ?_
   refine ax_nil (cx_keep rfl rfl ?_)
   refine cx_ret (ret0 rfl rfl ?_)
   exact ⟨by rw [pageOK_int, any_all (fun i hi => hb i (by omega)), hdP_in h0]; rfl, rfl⟩


/- loop.example/g00332/spec.l02Read -/
def k_c_l02Read : XCode :=
 .seq (.ops [.op (some 2) (.box (.t 0)),
   .op (some 4) (.mov (.k (.str [])))])
 (.keep [1, 2] (.seq (.seq (.ops [.op (some 6) (.fadr (.t 2) 1),
   .op (some 7) (.load1 (.t 6)),
   .op (some 8) (.lenS (.t 7)),
   .op (some 9) (.bin .sub (.t 8) (.k (.int .i64 1))),
   .op (some 5) (.mov (.t 9))])
  (.keep [1, 2, 5] (.block 0 (.loop (.seq (.seq (.ops [.op (some 10) (.mov (.t 5)),
     .op (some 11) (.bin .geq (.t 10) (.k (.int .i64 0)))])
   (.keep [1, 2, 5, 11] (.cond (.t 11)
    (.skip)
    (.exit 0))))
   (.keep [1, 2, 5] (.seq (.block 1 (.seq (.ops [.op (some 14) (.fadr (.t 2) 1),
     .op (some 15) (.load1 (.t 14)),
     .op (some 16) (.mov (.t 5)),
     .op (some 17) (.iadr 2 (.t 15) (.t 16)),
     .op (some 18) (.fadr (.t 17) 0),
     .op (some 19) (.load1 (.t 18)),
     .op (some 20) (.mov (.t 1)),
     .op (some 21) (.bin .eql (.t 19) (.t 20))])
    (.keep [1, 2, 5, 21] (.cond (.t 21)
    (.seq (.ops [.op (some 22) (.fadr (.t 2) 1),
      .op (some 23) (.load1 (.t 22)),
      .op (some 24) (.mov (.t 5)),
      .op (some 25) (.iadr 2 (.t 23) (.t 24)),
      .op (some 26) (.fadr (.t 25) 1),
      .op (some 27) (.load1 (.t 26)),
      .op (some 4) (.mov (.t 27))])
     (.keep [4] (.ret)))
    (.skip)))))
   (.keep [1, 2, 5] (.ops [.op (some 12) (.mov (.t 5)),
    .op (some 13) (.bin .sub (.t 12) (.k (.int .i64 1))),
    .op (some 5) (.mov (.t 13))])))))))))
 (.keep [1, 2] (.seq (.ops [.op (some 28) (.fadr (.t 2) 0),
   .op (some 29) (.load1 (.t 28)),
   .op (some 30) (.mov (.t 1)),
   .op (some 31) (.iadr 1 (.t 29) (.t 30)),
   .op (some 32) (.load1 (.t 31)),
   .op (some 4) (.mov (.t 32))])
 (.keep [4] (.ret))))))
theorem k_c_l02Read_fits : fitsF Tryz.prog 159 ⟨33, k_c_l02Read, [.t 4]⟩ = true := by kernel_rfl
theorem c_l02Read {d : GDisk} {i : Nat} (hi : i < d.Sectors.length) (hw0 : d.Sectors.length ≤ 1048576) (hw1 : d.Cache.length ≤ 1048576) (hw2 : d.Keep.length ≤ 1048576) : Con Tryz.prog noMv 159 [d.av, int (i : Nat)] [] (fun r h => r = str (txtD d i) ∧ h = []) := by
 refine con_of2 k_c_l02Read_fits rfl fun C hP hmv => ?_
 unfold k_c_l02Read
 refine cx_seq (cx_ops ?_)
 refine ax_e (e_box rfl rfl (by decide) rfl rfl rfl) ?_
 refine ax_q (q_mov rfl) ?_
 refine ax_nil (cx_keep rfl rfl (cx_seq (cx_seq (cx_ops ?_))))
 refine ax_q (q_fadr_ptr rfl) ?_
 refine ax_q (q_load1_ptr rfl rfl rfl) ?_
 refine ax_q (q_lenS_map rfl) ?_
 refine ax_qe (r' := int ((d.Cache.length : Int) - 1)) (q_ibin rfl rfl rfl) (by rw [wi (by omega) (by omega)]) ?_
 refine ax_q (q_mov rfl) ?_
 refine ax_nil (cx_keep rfl rfl (cx_block ?_))
 refine cx_loopU (fun m j => j ≤ d.Cache.length ∧ m = j ∧ txtD d i = lastW (d.Cache.take j) i (d.Sectors.getD i [])) (fun j : Nat => [(5, int ((j : Int) - 1))]) (fun _ => [(2, .box [.d (.sl 1 (d.Sectors.map strRow)), .d (.sl 2 (d.Cache.map GPending.row)), .d (.bool d.Armed), .d (.sl 1 (d.Keep.map intRow))])]) ⟨_, d.Cache.length, ⟨Nat.le_refl _, rfl, by rw [List.take_length]; rfl⟩, by repeat constructor⟩ ?_
 rintro m j ⟨hj, rfl, he⟩
 refine cx_seq (cx_seq (cx_ops ?_))
 refine ax_q (q_mov rfl) ?_
 refine ax_q (q_ibin rfl rfl rfl) ?_
 refine ax_nil (cx_keep rfl rfl ?_)
 refine cx_cond rfl (fun h0 => ?_) (fun h0 => ?_)
 ·
  have h0 := dT h0
  obtain ⟨m, rfl⟩ : ∃ n2, m = n2 + 1 := ⟨m - 1, by omega⟩
  have hjx : m < d.Cache.length := by omega
  rw [show (((m + 1 : Nat) : Int) - 1) = (m : Int) from by omega]
  refine cx_skip ?_
  refine cx_keep rfl rfl (cx_seq (cx_block (cx_seq (cx_ops ?_))))
  refine ax_q (q_fadr_ptr rfl) ?_
  refine ax_q (q_load1_ptr rfl rfl rfl) ?_
  refine ax_q (q_mov rfl) ?_
  refine ax_q (q_ix rfl rfl (mapAt hjx)) ?_
  first | refine ax_q (q_fadr_ptr rfl) ?_ | refine ax_q (q_fadr_rptr rfl) ?_ | refine ax_q (q_fadr_ip rfl) ?_
  first | refine ax_q (q_load1_ptr rfl rfl rfl) ?_ | refine ax_q (q_load1_ip rfl) ?_
  refine ax_q (q_mov rfl) ?_
  refine ax_q (q_ibin rfl rfl rfl) ?_
  refine ax_nil (cx_keep rfl rfl ?_)
  refine cx_cond rfl (fun h1 => ?_) (fun h1 => ?_)
  ·
   have h1 := dT h1
   refine cx_seq (cx_ops ?_)
   refine ax_q (q_fadr_ptr rfl) ?_
   refine ax_q (q_load1_ptr rfl rfl rfl) ?_
   refine ax_q (q_mov rfl) ?_
   refine ax_q (q_ix rfl rfl (mapAt hjx)) ?_
   first | refine ax_q (q_fadr_ptr rfl) ?_ | refine ax_q (q_fadr_rptr rfl) ?_ | refine ax_q (q_fadr_ip rfl) ?_
   first | refine ax_q (q_load1_ptr rfl rfl rfl) ?_ | refine ax_q (q_load1_ip rfl) ?_
   refine ax_q (q_mov rfl) ?_
   refine ax_nil (cx_keep rfl rfl ?_)
   refine cx_ret (ret0 rfl rfl ?_)
   exact ⟨by rw [he, lastW_yes hjx h1]; rfl, rfl⟩
  ·
   have h1 := dF h1
   refine cx_skip ?_
   refine cx_keep rfl rfl (cx_ops ?_)
   refine ax_q (q_mov rfl) ?_
   refine ax_qe (r' := int ((m : Int) - 1)) (q_ibin rfl rfl rfl) (by rw [wi (by omega) (by omega)]) ?_
   refine ax_q (q_mov rfl) ?_
   refine ax_nil ?_
   exact ⟨_, m, by omega, ⟨by omega, rfl, by rw [he, lastW_no hjx h1]⟩, by repeat constructor⟩
 ·
  have h0 := dF h0
  obtain rfl : m = 0 := by omega
  refine cx_exit rfl ?_
  refine cx_keep rfl rfl (cx_seq (cx_ops ?_))
  refine ax_q (q_fadr_ptr rfl) ?_
  refine ax_q (q_load1_ptr rfl rfl rfl) ?_
  refine ax_q (q_mov rfl) ?_
  refine ax_q (q_ix rfl rfl (mapAtZ (z := []) hi)) ?_
  first | refine ax_q (q_load1_ptr rfl rfl rfl) ?_ | refine ax_q (q_load1_ip rfl) ?_
  refine ax_q (q_mov rfl) ?_
  refine ax_nil (cx_keep rfl rfl ?_)
  refine cx_ret (ret0 rfl rfl ?_)
  exact ⟨by rw [he]; rfl, rfl⟩


/- loop.example/g00332/spec.NewPage -/
def k_c_sNewPage : XCode :=
 .seq (.ops [.op (some 0) (.alloc [.int .i64 0, .nils 1])])
 (.keep [0] (.seq (.ops [.op (some 1) (.mkslice 1 16 [.str []] (.k (.int .i64 4)) (.k (.int .i64 4))),
   .op (some 2) (.build [.int .i64 0, .nils 1] [(1, 1, .t 1)]),
   .op none (.store 2 (.t 0) (.t 2))])
 (.keep [0] (.ret))))
theorem k_c_sNewPage_fits : fitsF Tryz.prog 160 ⟨3, k_c_sNewPage, [.cN 0 2]⟩ = true := by kernel_rfl
theorem c_sNewPage  : Con Tryz.prog noMv 160 [] [] (fun r h => r = (⟨0, [[], [], [], []]⟩ : Page).avO 0 ∧ h = (⟨0, [[], [], [], []]⟩ : Page).hO 0) := by
 refine con_of2 k_c_sNewPage_fits rfl fun C hP hmv => ?_
 unfold k_c_sNewPage
 refine cx_seq (cx_ops ?_)
 refine ax_e (e_alloc (by decide) rfl rfl) ?_
 refine ax_nil (cx_keep rfl rfl (cx_seq (cx_ops ?_)))
 refine ax_e (e_mkslice rfl rfl rfl (by omega) (by omega) (by omega) (by decide) rfl rfl) ?_
 refine ax_q (q_build rfl) ?_
 refine ax_e (e_st rfl rfl rfl rfl rfl rfl rfl) ?_
 refine ax_nil (cx_keep rfl rfl ?_)
 refine cx_ret (retN (fun _ => 0) [1] rfl rfl rfl rfl rfl ?_)
 exact ⟨rfl, rfl⟩


/- loop.example/g00332/spec.l01Of -/
def k_c_l01Of : XCode :=
 .seq (.ops [.op (some 2) (.mov (.k (.int .i64 0)))])
 (.keep [0] (.seq (.ops [.op (some 3) (.mov (.k (.int .i64 0)))])
 (.keep [0, 3] (.seq (.seq (.ops [.op (some 4) (.mov (.k (.int .i64 0)))])
  (.keep [0, 3, 4] (.block 0 (.loop (.seq (.seq (.ops [.op (some 5) (.mov (.t 4)),
     .op (some 6) (.mov (.t 0)),
     .op (some 7) (.lenT (.t 6)),
     .op (some 8) (.bin .lss (.t 5) (.t 7))])
   (.keep [0, 3, 4, 8] (.cond (.t 8)
    (.skip)
    (.exit 0))))
   (.keep [0, 3, 4] (.seq (.block 1 (.ops [.op (some 11) (.mov (.t 3)),
     .op (some 12) (.bin .mul (.t 11) (.k (.int .i64 256))),
     .op (some 13) (.mov (.t 0)),
     .op (some 14) (.mov (.t 4)),
     .op (some 15) (.idxS (.t 13) (.t 14)),
     .op (some 16) (.conv .i64 (.t 15)),
     .op (some 17) (.bin .add (.t 12) (.t 16)),
     .op (some 3) (.mov (.t 17))]))
   (.keep [0, 3, 4] (.ops [.op (some 9) (.mov (.t 4)),
    .op (some 10) (.bin .add (.t 9) (.k (.int .i64 1))),
    .op (some 4) (.mov (.t 10))])))))))))
 (.keep [3] (.seq (.ops [.op (some 18) (.mov (.t 3)),
   .op (some 2) (.mov (.t 18))])
 (.keep [2] (.ret))))))))
theorem k_c_l01Of_fits : fitsF Tryz.prog 223 ⟨19, k_c_l01Of, [.t 2]⟩ = true := by kernel_rfl
theorem c_l01Of {t : Str} (hl : t.length ≤ 4) : Con Tryz.prog noMv 223 [str t] [] (fun r h => r = int (bigN t) ∧ h = []) := by
 refine con_of2 k_c_l01Of_fits rfl fun C hP hmv => ?_
 unfold k_c_l01Of
 refine cx_seq (cx_ops ?_)
 refine ax_q (q_mov rfl) ?_
 refine ax_nil (cx_keep rfl rfl (cx_seq (cx_ops ?_)))
 refine ax_q (q_mov rfl) ?_
 refine ax_nil (cx_keep rfl rfl (cx_seq (cx_seq (cx_ops ?_))))
 refine ax_q (q_mov rfl) ?_
 refine ax_nil (cx_keep rfl rfl (cx_block ?_))
 refine cx_loopU (fun n k => k ≤ t.length ∧ n = t.length - k) (fun k : Nat => [(3, int (bigN (t.take k))), (4, int k)]) (fun _ => []) ⟨_, 0, ⟨Nat.zero_le _, rfl⟩, by repeat constructor⟩ ?_
 rintro n k ⟨hk, rfl⟩
 refine cx_seq (cx_seq (cx_ops ?_))
 refine ax_q (q_mov rfl) ?_
 refine ax_q (q_mov rfl) ?_
 refine ax_q (q_lenT rfl) ?_
 refine ax_q (q_ibin rfl rfl rfl) ?_
 refine ax_nil (cx_keep rfl rfl ?_)
 refine cx_cond rfl (fun h0 => ?_) (fun h0 => ?_)
 ·
  have h0 := dT h0
  have h0x : k < t.length := by omega
  have hlt := bigN_lt3 hl h0x
  have hbt := t[k].toNat_lt
  refine cx_skip ?_
  refine cx_keep rfl rfl (cx_seq (cx_block (cx_ops ?_)))
  refine ax_q (q_mov rfl) ?_
  refine ax_qe (r' := int ((bigN (t.take k) * 256 : Nat) : Int)) (q_ibin rfl rfl rfl) (by rw [wi (by omega) (by omega)]; exact congrArg AM.int (by omega)) ?_
  refine ax_q (q_mov rfl) ?_
  refine ax_q (q_mov rfl) ?_
  refine ax_q (q_idxN rfl rfl h0x) ?_
  refine ax_q (q_convB rfl) ?_
  refine ax_qe (r' := int ((bigN (t.take k) * 256 + t[k].toNat : Nat) : Int)) (q_ibin rfl rfl rfl) (by rw [wi (by omega) (by omega)]; exact congrArg AM.int (by omega)) ?_
  refine ax_q (q_mov rfl) ?_
  refine ax_nil (cx_keep rfl rfl (cx_ops ?_))
  refine ax_q (q_mov rfl) ?_
  refine ax_qe (r' := int ((k + 1 : Nat) : Int)) (q_ibin rfl rfl rfl) (by rw [wi (by omega) (by omega)]; rfl) ?_
  refine ax_q (q_mov rfl) ?_
  refine ax_nil ?_
  exact ⟨_, k + 1, by omega, ⟨by omega, rfl⟩, by rw [bigN_succ h0x]; exact (by repeat constructor)⟩
 ·
  have h0 := dF h0
  obtain rfl : k = t.length := by omega
  rw [List.take_length]
  refine cx_exit rfl ?_
  refine cx_keep rfl rfl (cx_seq (cx_ops ?_))
  refine ax_q (q_mov rfl) ?_
  refine ax_q (q_mov rfl) ?_
  refine ax_nil (cx_keep rfl rfl ?_)
  refine cx_ret (ret0 rfl rfl ?_)
  exact ⟨rfl, rfl⟩


/- loop.example/g00332/spec.l01Check -/
def k_c_l01Check : XCode :=
 .seq (.ops [.op (some 2) (.mov (.k (.int .i64 0)))])
 (.keep [0] (.seq (.ops [.op (some 3) (.mov (.k (.int .i64 4294967295)))])
 (.keep [0, 3] (.seq (.seq (.ops [.op (some 4) (.mov (.k (.int .i64 0)))])
  (.keep [0, 3, 4] (.block 0 (.loop (.seq (.seq (.ops [.op (some 6) (.mov (.t 4)),
     .op (some 7) (.mov (.t 0)),
     .op (some 8) (.lenS (.t 7)),
     .op (some 9) (.bin .lss (.t 6) (.t 8))])
   (.keep [0, 3, 4, 9] (.cond (.t 9)
    (.skip)
    (.exit 0))))
   (.keep [0, 3, 4] (.seq (.block 1 (.seq (.ops [.op (some 12) (.mov (.t 3)),
     .op (some 13) (.mov (.t 0)),
     .op (some 14) (.mov (.t 4)),
     .op (some 15) (.iadr 1 (.t 13) (.t 14)),
     .op (some 16) (.load1 (.t 15)),
     .op (some 17) (.conv .i64 (.t 16)),
     .op (some 18) (.bin .xor (.t 12) (.t 17)),
     .op (some 3) (.mov (.t 18))])
    (.keep [0, 3, 4] (.seq (.ops [.op (some 5) (.mov (.k (.int .i64 0)))])
    (.keep [0, 3, 4, 5] (.block 2 (.loop (.seq (.seq (.ops [.op (some 19) (.mov (.t 5)),
       .op (some 20) (.bin .lss (.t 19) (.k (.int .i64 8)))])
     (.keep [0, 3, 4, 5, 20] (.cond (.t 20)
      (.skip)
      (.exit 2))))
     (.keep [0, 3, 4, 5] (.seq (.block 3 (.ops [.op (some 23) (.mov (.t 3)),
       .op (some 24) (.bin .shr (.t 23) (.k (.int .u64 1))),
       .op (some 25) (.mov (.t 3)),
       .op (some 26) (.bin .and (.t 25) (.k (.int .i64 1))),
       .op (some 27) (.bin .mul (.t 26) (.k (.int .i64 3988292384))),
       .op (some 28) (.bin .xor (.t 24) (.t 27)),
       .op (some 3) (.mov (.t 28))]))
     (.keep [0, 3, 4, 5] (.ops [.op (some 21) (.mov (.t 5)),
      .op (some 22) (.bin .add (.t 21) (.k (.int .i64 1))),
      .op (some 5) (.mov (.t 22))]))))))))))))
   (.keep [0, 3, 4] (.ops [.op (some 10) (.mov (.t 4)),
    .op (some 11) (.bin .add (.t 10) (.k (.int .i64 1))),
    .op (some 4) (.mov (.t 11))])))))))))
 (.keep [3] (.seq (.ops [.op (some 29) (.mov (.t 3)),
   .op (some 30) (.bin .xor (.t 29) (.k (.int .i64 4294967295))),
   .op (some 2) (.mov (.t 30))])
 (.keep [2] (.ret))))))))
theorem k_c_l01Check_fits : fitsF Tryz.prog 237 ⟨31, k_c_l01Check, [.t 2]⟩ = true := by kernel_rfl
theorem c_l01Check {l : Str} (hl : l.length ≤ 1048576) : Con Tryz.prog noMv 237 [.d (.sl 1 (l.map byteRow))] [] (fun r h => r = int (crcN l) ∧ h = []) := by
 refine con_of2 k_c_l01Check_fits rfl fun C hP hmv => ?_
 unfold k_c_l01Check
 refine cx_seq (cx_ops ?_)
 refine ax_q (q_mov rfl) ?_
 refine ax_nil (cx_keep rfl rfl (cx_seq (cx_ops ?_)))
 refine ax_q (q_mov rfl) ?_
 refine ax_nil (cx_keep rfl rfl (cx_seq (cx_seq (cx_ops ?_))))
 refine ax_q (q_mov rfl) ?_
 refine ax_nil (cx_keep rfl rfl (cx_block ?_))
 refine cx_loopU (fun n k => k ≤ l.length ∧ n = l.length - k) (fun k : Nat => [(3, int (crcS (l.take k))), (4, int k)]) (fun _ => []) ⟨_, 0, ⟨Nat.zero_le _, rfl⟩, by repeat constructor⟩ ?_
 rintro n k ⟨hk, rfl⟩
 refine cx_seq (cx_seq (cx_ops ?_))
 refine ax_q (q_mov rfl) ?_
 refine ax_q (q_mov rfl) ?_
 refine ax_q (q_lenS_map rfl) ?_
 refine ax_q (q_ibin rfl rfl rfl) ?_
 refine ax_nil (cx_keep rfl rfl ?_)
 refine cx_cond rfl (fun h0 => ?_) (fun h0 => ?_)
 ·
  have h0 := dT h0
  have h0x : k < l.length := by omega
  have hlt : crcS (l.take k) < 4294967296 := crcS_lt
  have hxb : (crcS (l.take k) ^^^ l[k].toNat) < 4294967296 := xb_lt hlt
  have hc := l[k].toNat_lt
  refine cx_skip ?_
  refine cx_keep rfl rfl (cx_seq (cx_block (cx_seq (cx_ops ?_))))
  refine ax_q (q_mov rfl) ?_
  refine ax_q (q_mov rfl) ?_
  refine ax_q (q_mov rfl) ?_
  refine ax_q (q_ix rfl rfl (mapAt h0x)) ?_
  first | refine ax_q (q_load1_ptr rfl rfl rfl) ?_ | refine ax_q (q_load1_ip rfl) ?_
  refine ax_q (q_convB rfl) ?_
  refine ax_qe (r' := int ((crcS (l.take k) ^^^ l[k].toNat : Nat) : Int)) (q_ibit rfl rfl rfl) (by rw [x64 hlt (by omega)]) ?_
  refine ax_q (q_mov rfl) ?_
  refine ax_nil (cx_keep rfl rfl (cx_seq (cx_ops ?_)))
  refine ax_q (q_mov rfl) ?_
  refine ax_nil (cx_keep rfl rfl (cx_block ?_))
  refine cx_loopU (fun n j => j ≤ 8 ∧ n = 8 - j) (fun j : Nat => [(3, int (bitsN j (crcS (l.take k) ^^^ l[k].toNat))), (5, int j)]) (fun _ => []) ⟨_, 0, ⟨Nat.zero_le _, rfl⟩, by repeat constructor⟩ ?_
  rintro n j ⟨hj, rfl⟩
  refine cx_seq (cx_seq (cx_ops ?_))
  refine ax_q (q_mov rfl) ?_
  refine ax_q (q_ibin rfl rfl rfl) ?_
  refine ax_nil (cx_keep rfl rfl ?_)
  refine cx_cond rfl (fun h1 => ?_) (fun h1 => ?_)
  ·
   have h1 := dT h1
   have hbl : bitsN j (crcS (l.take k) ^^^ l[k].toNat) < 4294967296 := bitsN_lt hxb j
   have hm2 := Nat.mod_lt (bitsN j (crcS (l.take k) ^^^ l[k].toNat)) (show 0 < 2 by omega)
   refine cx_skip ?_
   refine cx_keep rfl rfl (cx_seq (cx_block (cx_ops ?_)))
   refine ax_q (q_mov rfl) ?_
   refine ax_qe (r' := int ((bitsN j (crcS (l.take k) ^^^ l[k].toNat) / 2 : Nat) : Int)) (q_ishf rfl rfl rfl (by omega)) (congrArg AM.int sh1) ?_
   refine ax_q (q_mov rfl) ?_
   refine ax_qe (r' := int ((bitsN j (crcS (l.take k) ^^^ l[k].toNat) % 2 : Nat) : Int)) (q_ibit rfl rfl rfl) (by rw [a64 hbl]) ?_
   refine ax_qe (r' := int ((bitsN j (crcS (l.take k) ^^^ l[k].toNat) % 2 * 3988292384 : Nat) : Int)) (q_ibin rfl rfl rfl) (by rw [wi (by omega) (by omega)]; exact congrArg AM.int (by omega)) ?_
   refine ax_qe (r' := int (bitsN (j + 1) (crcS (l.take k) ^^^ l[k].toNat) : Nat)) (q_ibit rfl rfl rfl) (congrArg AM.int (bit1_x64 hbl)) ?_
   refine ax_q (q_mov rfl) ?_
   refine ax_nil (cx_keep rfl rfl (cx_ops ?_))
   refine ax_q (q_mov rfl) ?_
   refine ax_qe (r' := int ((j + 1 : Nat) : Int)) (q_ibin rfl rfl rfl) (by rw [wi (by omega) (by omega)]; rfl) ?_
   refine ax_q (q_mov rfl) ?_
   refine ax_nil ?_
   exact ⟨_, j + 1, by omega, ⟨by omega, rfl⟩, by repeat constructor⟩
  ·
   have h1 := dF h1
   obtain rfl : j = 8 := by omega
   refine cx_exit rfl ?_
   refine cx_keep rfl rfl (cx_ops ?_)
   refine ax_q (q_mov rfl) ?_
   refine ax_qe (r' := int ((k + 1 : Nat) : Int)) (q_ibin rfl rfl rfl) (by rw [wi (by omega) (by omega)]; rfl) ?_
   refine ax_q (q_mov rfl) ?_
   refine ax_nil ?_
   exact ⟨_, k + 1, by omega, ⟨by omega, rfl⟩, by rw [crcS_succ h0x]; exact (by repeat constructor)⟩
 ·
  have h0 := dF h0
  obtain rfl : k = l.length := by omega
  refine cx_exit rfl ?_
  refine cx_keep rfl rfl (cx_seq (cx_ops ?_))
  refine ax_q (q_mov rfl) ?_
  refine ax_qe (r' := int (crcN l)) (q_ibit rfl rfl rfl) (by rw [List.take_length]; exact congrArg AM.int (x64 (b := 4294967295) crcS_lt (by omega))) ?_
  refine ax_q (q_mov rfl) ?_
  refine ax_nil (cx_keep rfl rfl ?_)
  refine cx_ret (ret0 rfl rfl ?_)
  exact ⟨rfl, rfl⟩


/- loop.example/g00332/spec.l03Unseal -/
def k_c_l03Unseal : XCode :=
 .seq (.ops [.op (some 2) (.mov (.k (.str []))),
   .op (some 3) (.mov (.k (.bool false)))])
 (.keep [0] (.seq (.ops [.op (some 5) (.mov (.t 0)),
   .op (some 6) (.lenT (.t 5)),
   .op (some 7) (.bin .sub (.t 6) (.k (.int .i64 4))),
   .op (some 4) (.mov (.t 7))])
 (.keep [0, 4] (.seq (.seq (.drawC [[], [0], [0, 1], [0, 1, 2], [0, 1, 2], [0, 1, 2, 3, 4], [0, 1, 2, 3, 4, 5], [0, 1, 2, 3, 4, 5, 6], [0, 1, 2], [0, 1, 2], [0, 1, 2, 8, 9], [0, 1, 2, 3, 4, 5, 6, 7, 8, 9, 10], [0, 1, 2, 3, 4, 5, 6, 7, 8, 9, 10, 11], [0, 1, 2, 3, 4, 5, 6, 7, 8, 9, 10, 11, 12]] [.op (some 8) (.mov (.t 4)),
   .op (some 9) (.bin .lss (.t 8) (.k (.int .i64 0))),
   .op (some 10) (.mov (.t 9))]
   [.op (some 11) (.mov (.t 0)),
   .op (some 12) (.mov (.t 4)),
   .op (some 13) (.slcT (.t 11) none (some (.t 12))),
   .op (some 14) (.s2b (.t 13)),
   .call (some 15) 237 [.t 14],
   .op (some 16) (.mov (.t 0)),
   .op (some 17) (.mov (.t 4)),
   .op (some 18) (.slcT (.t 16) (some (.t 17)) none)]
   [.andor 21 false 2 10 [.call (some 19) 223 [.t 18], .op (some 20) (.bin .neq (.t 15) (.t 19))] (.t 20)] 2 false 10)
  (.keep [0, 4, 21] (.cond (.t 21)
  (.seq (.ops [.op (some 2) (.mov (.k (.str []))),
    .op (some 3) (.mov (.k (.bool false)))])
   (.keep [2, 3] (.ret)))
  (.skip))))
 (.keep [0, 4] (.seq (.ops [.op (some 22) (.mov (.t 0)),
   .op (some 23) (.mov (.t 4)),
   .op (some 24) (.slcT (.t 22) none (some (.t 23))),
   .op (some 2) (.mov (.t 24)),
   .op (some 3) (.mov (.k (.bool true)))])
 (.keep [2, 3] (.ret))))))))
theorem k_c_l03Unseal_fits : fitsF Tryz.prog 221 ⟨25, k_c_l03Unseal, [.t 2, .t 3]⟩ = true := by kernel_rfl
set_option maxHeartbeats 4000000 in
theorem c_l03Unseal {t : Str} (hl : t.length ≤ 1048576) : Con Tryz.prog noMv 221 [str t] [] (fun r h => r = .tup [.d (.str (unsealF t).1), bool (unsealF t).2] ∧ h = []) := by
 refine con_of2 k_c_l03Unseal_fits rfl fun C hP hmv => ?_
 unfold k_c_l03Unseal
 refine cx_seq (cx_ops ?_)
 refine ax_q (q_mov rfl) ?_
 refine ax_q (q_mov rfl) ?_
 refine ax_nil (cx_keep rfl rfl (cx_seq (cx_ops ?_)))
 refine ax_q (q_mov rfl) ?_
 refine ax_q (q_lenT rfl) ?_
 refine ax_qe (r' := int ((t.length : Int) - 4)) (q_ibin rfl rfl rfl) (by rw [wi (by omega) (by omega)]) ?_
 refine ax_q (q_mov rfl) ?_
 refine ax_nil (cx_keep rfl rfl (cx_seq (cx_seq ?_)))
 refine cx_drawC (t := decide ((t.length : Int) - 4 < 0)) (fun g => ?_) (fun g => ?_)
 ·
  have g2 := dF g
  have hcl := @crcN_lt (t.take (t.length - 4))
  refine ⟨_, loc_q (q_mov rfl), ?_⟩
  refine ⟨_, loc_q (q_ibin rfl rfl rfl), ?_⟩
  refine ⟨_, loc_q (q_mov rfl), ?_⟩
  refine ⟨_, loc_q (q_mov rfl), ?_⟩
  refine ⟨_, loc_q (q_mov rfl), ?_⟩
  refine ⟨_, loc_qe (r' := .d (.str (t.take (t.length - 4)))) (q_slcT rfl rfl rfl (by omega) (by omega) (by omega)) (slcT_take (by omega)), ?_⟩
  refine ⟨_, loc_s2b rfl, ?_⟩
  refine ⟨_, loc_call (fun i => 15 + 200 * i) true rfl (c_l01Check (l := t.take (t.length - 4)) (by simp; omega)) hP (.inl ⟨rfl, .cons (.lend (lend_whole rfl (by simp))) .nil⟩) rfl rfl (fun _ => ⟨rfl, noisl_of trivial⟩), ?_⟩
  refine ⟨_, loc_q (q_mov rfl), ?_⟩
  refine ⟨_, loc_q (q_mov rfl), ?_⟩
  refine ⟨_, loc_qe (r' := .d (.str (t.drop (t.length - 4)))) (q_slcT rfl rfl rfl (by omega) (by omega) (by omega)) (slcT_drop (by omega)), ?_⟩
  refine ⟨⟨rfl, rfl⟩, ?_⟩
  apply ax_or rfl rfl
  ·
   intro g
   have g := dF g
   refine ax_call rfl (vc_pure0 (c_l01Of (t := t.drop (t.length - 4)) ?_) hP rfl rfl ?_)
   ·
    first | assumption | omega | (simp; done) | (simp; omega)
   refine ax_q (q_ibin rfl rfl rfl) ?_
   exact ax_nil ⟨rfl, by repeat constructor⟩
  refine ax_nil (cx_keep rfl rfl ?_)
  refine cx_cond rfl (fun h0 => ?_) (fun h0 => ?_)
  ·
   have h0 := (fun h => (or_T h).imp dT nT) h0
   refine cx_seq (cx_ops ?_)
   refine ax_q (q_mov rfl) ?_
   refine ax_q (q_mov rfl) ?_
   refine ax_nil (cx_keep rfl rfl ?_)
   refine cx_ret (ret0 rfl rfl ?_)
   exact ⟨by rw [unseal_1 h0]; rfl, rfl⟩
  ·
   have h0 := (fun h => And.intro (dF (or_F h).1) (nF (or_F h).2)) h0
   refine cx_skip ?_
   refine cx_keep rfl rfl (cx_seq (cx_ops ?_))
   refine ax_q (q_mov rfl) ?_
   refine ax_q (q_mov rfl) ?_
   refine ax_qe (r' := .d (.str (t.take (t.length - 4)))) (q_slcT rfl rfl rfl (by omega) (by omega) (by omega)) (slcT_take (by omega)) ?_
   refine ax_q (q_mov rfl) ?_
   refine ax_q (q_mov rfl) ?_
   refine ax_nil (cx_keep rfl rfl ?_)
   refine cx_ret (ret0 rfl rfl ?_)
   exact ⟨by rw [unseal_2 (fun h => h.elim h0.1 (fun q => q h0.2))]; rfl, rfl⟩
 ·
  have g2 := dT (bool_nf g)
  refine ⟨_, loc_q (q_mov rfl), ?_⟩
  refine ⟨_, loc_q (q_ibin rfl rfl rfl), ?_⟩
  refine ⟨_, loc_q (q_mov rfl), ?_⟩
  refine ⟨⟨⟨rfl, rfl⟩, rfl, rfl⟩, ?_⟩
  refine ax_or (y := false) rfl rfl (fun h => absurd h g) ?_
  refine ax_nil (cx_keep rfl rfl ?_)
  refine cx_cond rfl (fun h0 => ?_) (fun h0 => ?_)
  ·
   skip
   refine cx_seq (cx_ops ?_)
   refine ax_q (q_mov rfl) ?_
   refine ax_q (q_mov rfl) ?_
   refine ax_nil (cx_keep rfl rfl ?_)
   refine cx_ret (ret0 rfl rfl ?_)
   exact ⟨by rw [unseal_1 (.inl g2)]; rfl, rfl⟩
  ·
   skip
   rw [decide_eq_true g2] at h0; cases h0


/- loop.example/g00332/spec.l01Read -/
def k_c_l01Read : XCode :=
 .seq (.ops [.op (some 2) (.mov (.k (.nils 1))),
   .op (some 3) (.mov (.k (.bool false)))])
 (.keep [0] (.seq (.ops [.op (some 8) (.bslice 1 []),
   .op (some 4) (.mov (.t 8))])
 (.keep [0, 4] (.seq (.seq (.ops [.op (some 9) (.mov (.t 0)),
   .op (some 10) (.bin .eql (.t 9) (.k (.str []))),
   .op (some 11) (.mov (.t 10)),
   .andor 15 false 2 11 [.op (some 12) (.mov (.t 0)), .op (some 13) (.idxS (.t 12) (.k (.int .i64 0))), .op (some 14) (.bin .gtr (.t 13) (.k (.int .u8 100)))] (.t 14)])
  (.keep [0, 4, 15] (.cond (.t 15)
  (.seq (.ops [.op (some 16) (.mov (.t 4)),
    .op (some 2) (.mov (.t 16)),
    .op (some 3) (.mov (.k (.bool false)))])
   (.keep [2, 3] (.ret)))
  (.skip))))
 (.keep [0, 4] (.seq (.ops [.op (some 5) (.mov (.k (.int .i64 1)))])
 (.keep [0, 4, 5] (.seq (.seq (.ops [.op (some 17) (.mov (.t 0)),
   .op (some 18) (.idxS (.t 17) (.k (.int .i64 0))),
   .op (some 19) (.conv .i64 (.t 18)),
   .op (some 6) (.mov (.t 19))])
  (.keep [0, 4, 5, 6] (.block 0 (.loop (.seq (.seq (.ops [.op (some 20) (.mov (.t 6)),
     .op (some 21) (.bin .gtr (.t 20) (.k (.int .i64 0)))])
   (.keep [0, 4, 5, 6, 21] (.cond (.t 21)
    (.skip)
    (.exit 0))))
   (.keep [0, 4, 5, 6] (.seq (.block 1 (.seq (.seq (.ops [.op (some 24) (.mov (.t 5)),
      .op (some 25) (.mov (.t 0)),
      .op (some 26) (.lenT (.t 25)),
      .op (some 27) (.bin .geq (.t 24) (.t 26)),
      .op (some 28) (.mov (.t 27)),
      .andor 39 false 4 28 [.op (some 29) (.mov (.t 5)), .op (some 30) (.bin .add (.t 29) (.k (.int .i64 1))), .op (some 31) (.mov (.t 0)), .op (some 32) (.mov (.t 5)), .op (some 33) (.idxS (.t 31) (.t 32)), .op (some 34) (.conv .i64 (.t 33)), .op (some 35) (.bin .add (.t 30) (.t 34)), .op (some 36) (.mov (.t 0)), .op (some 37) (.lenT (.t 36)), .op (some 38) (.bin .gtr (.t 35) (.t 37))] (.t 38)])
    (.keep [0, 4, 5, 6, 39] (.cond (.t 39)
     (.seq (.ops [.op (some 40) (.bslice 1 []),
       .op (some 2) (.mov (.t 40)),
       .op (some 3) (.mov (.k (.bool false)))])
     (.keep [2, 3] (.ret)))
     (.skip))))
    (.keep [0, 4, 5, 6] (.seq (.ops [.op (some 41) (.mov (.t 0)),
     .op (some 42) (.mov (.t 5)),
     .op (some 43) (.idxS (.t 41) (.t 42)),
     .op (some 44) (.conv .i64 (.t 43)),
     .op (some 7) (.mov (.t 44))])
    (.keep [0, 4, 5, 6, 7] (.seq (.ops [.op (some 45) (.mov (.t 4)),
     .op (some 46) (.mov (.t 0)),
     .op (some 47) (.mov (.t 5)),
     .op (some 48) (.bin .add (.t 47) (.k (.int .i64 1))),
     .op (some 49) (.mov (.t 5)),
     .op (some 50) (.bin .add (.t 49) (.k (.int .i64 1))),
     .op (some 51) (.mov (.t 7)),
     .op (some 52) (.bin .add (.t 50) (.t 51)),
     .op (some 53) (.slcT (.t 46) (some (.t 48)) (some (.t 52))),
     .op (some 54) (.bslice 1 [.t 53]),
     .op (some 55) (.app 1 16 [.str []] (.t 45) (.t 54)),
     .op (some 4) (.mov (.t 55))])
    (.keep [0, 4, 5, 6, 7] (.ops [.op (some 56) (.mov (.t 5)),
     .op (some 57) (.mov (.t 7)),
     .op (some 58) (.bin .add (.k (.int .i64 1)) (.t 57)),
     .op (some 59) (.bin .add (.t 56) (.t 58)),
     .op (some 5) (.mov (.t 59))]))))))))
   (.keep [0, 4, 5, 6] (.ops [.op (some 22) (.mov (.t 6)),
    .op (some 23) (.bin .sub (.t 22) (.k (.int .i64 1))),
    .op (some 6) (.mov (.t 23))])))))))))
 (.keep [0, 4, 5] (.seq (.seq (.ops [.op (some 60) (.mov (.t 5)),
   .op (some 61) (.mov (.t 0)),
   .op (some 62) (.lenT (.t 61)),
   .op (some 63) (.bin .neq (.t 60) (.t 62))])
  (.keep [4, 63] (.cond (.t 63)
  (.seq (.ops [.op (some 64) (.bslice 1 []),
    .op (some 2) (.mov (.t 64)),
    .op (some 3) (.mov (.k (.bool false)))])
   (.keep [2, 3] (.ret)))
  (.skip))))
 (.keep [4] (.seq (.ops [.op (some 65) (.mov (.t 4)),
   .op (some 2) (.mov (.t 65)),
   .op (some 3) (.mov (.k (.bool true)))])
 (.keep [2, 3] (.ret))))))))))))))
theorem k_c_l01Read_fits : fitsF Tryz.prog 222 ⟨66, k_c_l01Read, [.t 2, .t 3]⟩ = true := by kernel_rfl
theorem c_l01Read {s : Str} (hl : s.length ≤ 1048576) : Con Tryz.prog noMv 222 [str s] [] (fun r h => r = .tup [.d (.sl 1 ((l01F s).1.map strRow)), bool (l01F s).2] ∧ h = []) := by
 refine con_of2 k_c_l01Read_fits rfl fun C hP hmv => ?_
 unfold k_c_l01Read
 refine cx_seq (cx_ops ?_)
 refine ax_q (q_mov rfl) ?_
 refine ax_q (q_mov rfl) ?_
 refine ax_nil (cx_keep rfl rfl (cx_seq (cx_ops ?_)))
 refine ax_e (e_bslice rfl (by decide) rfl rfl) ?_
 refine ax_q (q_mov rfl) ?_
 refine ax_nil (cx_keep rfl rfl (cx_seq (cx_seq (cx_ops ?_))))
 refine ax_q (q_mov rfl) ?_
 refine ax_q (q_sbin rfl rfl rfl) ?_
 refine ax_q (q_mov rfl) ?_
 apply ax_or rfl rfl
 ·
  intro g
  have g := dF g
  have h0s : 0 < s.length := List.length_pos_iff.2 g
  refine ax_q (q_mov rfl) ?_
  refine ax_qe (r' := .d (.int .u8 ((getN s 0 : Nat) : Int))) (q_idxN (n := 0) rfl rfl (by omega)) (by rw [getN_at (by omega)]) ?_
  refine ax_q (q_ibin rfl rfl rfl) ?_
  exact ax_nil ⟨rfl, by repeat constructor⟩
 refine ax_nil (cx_keep rfl rfl ?_)
 refine cx_cond rfl (fun h0 => ?_) (fun h0 => ?_)
 ·
  have h0 := (fun h => (or_T h).imp dT dT) h0
  refine cx_seq (cx_ops ?_)
  refine ax_q (q_mov rfl) ?_
  refine ax_q (q_mov rfl) ?_
  refine ax_q (q_mov rfl) ?_
  refine ax_nil (cx_keep rfl rfl ?_)
  refine cx_wk (wk_frz 2 8 rfl rfl (.whole (by simp)) rfl) ?_
  refine cx_ret (ret0 rfl rfl ?_)
  rw [l01_bad h0]; exact ⟨rfl, rfl⟩
 ·
  have h0 := (fun h => And.intro (dF (or_F h).1) (dF (or_F h).2)) h0
  have h0s : 0 < s.length := List.length_pos_iff.2 h0.1
  have hgo := l01_go h0
  have hg0 := @getN_lt s 0
  refine cx_skip ?_
  refine cx_keep rfl rfl (cx_seq (cx_ops ?_))
  refine ax_q (q_mov rfl) ?_
  refine ax_nil (cx_keep rfl rfl (cx_seq (cx_seq (cx_ops ?_))))
  refine ax_q (q_mov rfl) ?_
  refine ax_qe (r' := .d (.int .u8 ((getN s 0 : Nat) : Int))) (q_idxN (n := 0) rfl rfl (by omega)) (by rw [getN_at (by omega)]) ?_
  refine ax_qe (r' := int ((getN s 0 : Nat) : Int)) (q_convI rfl (by have := @getN_lt s 0; omega)) (rfl) ?_
  refine ax_q (q_mov rfl) ?_
  refine ax_nil (cx_keep rfl rfl (cx_block ?_))
  refine cx_loopU (fun m (p : Nat × Nat × List Str) => m = p.1 ∧ 1 ≤ p.2.1 ∧ p.2.1 ≤ s.length ∧ p.2.2.length + p.1 ≤ 255 ∧ loopR p.1 (s.drop p.2.1) p.2.2 = l01F s) (fun p => [(6, int (p.1 : Nat)), (5, int (p.2.1 : Nat)), (4, .osl 8 1 0 p.2.2.length)]) (fun p => [(8, .rows 1 (p.2.2.map strRow))])
   ⟨_, (getN s 0, 1, []), ⟨rfl, Nat.le_refl _, by simp only; omega, by simp only [List.length_nil]; omega, hgo⟩, by repeat constructor⟩ ?_
  rintro m ⟨n, pos, l⟩ ⟨rfl, hp1, hp, hn, he⟩
  simp only at hp1 hp hn he ⊢
  refine cx_seq (cx_seq (cx_ops ?_))
  refine ax_q (q_mov rfl) ?_
  refine ax_q (q_ibin rfl rfl rfl) ?_
  refine ax_nil (cx_keep rfl rfl ?_)
  refine cx_cond rfl (fun h1 => ?_) (fun h1 => ?_)
  ·
   have h1 := dT h1
   obtain ⟨m, rfl⟩ : ∃ n2, m = n2 + 1 := ⟨m - 1, by omega⟩
   have hgl := @getN_lt s pos
   refine cx_skip ?_
   refine cx_keep rfl rfl (cx_seq (cx_block (cx_seq (cx_seq (cx_ops ?_)))))
   refine ax_q (q_mov rfl) ?_
   refine ax_q (q_mov rfl) ?_
   refine ax_q (q_lenT rfl) ?_
   refine ax_q (q_ibin rfl rfl rfl) ?_
   refine ax_q (q_mov rfl) ?_
   apply ax_or rfl rfl
   ·
    intro g
    have g := dF g
    refine ax_q (q_mov rfl) ?_
    refine ax_qe (r' := int ((pos + 1 : Nat) : Int)) (q_ibin rfl rfl rfl) (by rw [wi (by omega) (by omega)]; rfl) ?_
    refine ax_q (q_mov rfl) ?_
    refine ax_q (q_mov rfl) ?_
    refine ax_qe (r' := .d (.int .u8 ((getN s pos : Nat) : Int))) (q_idxN rfl rfl (by omega)) (by rw [getN_at (by omega)]) ?_
    refine ax_qe (r' := int ((getN s pos : Nat) : Int)) (q_convI rfl (by have := @getN_lt s pos; omega)) (rfl) ?_
    refine ax_qe (r' := int ((pos + 1 + getN s pos : Nat) : Int)) (q_ibin rfl rfl rfl) (by rw [wi (by omega) (by omega)]; rfl) ?_
    refine ax_q (q_mov rfl) ?_
    refine ax_q (q_lenT rfl) ?_
    refine ax_q (q_ibin rfl rfl rfl) ?_
    exact ax_nil ⟨rfl, by repeat constructor⟩
   refine ax_nil (cx_keep rfl rfl ?_)
   refine cx_cond rfl (fun h2 => ?_) (fun h2 => ?_)
   ·
    have h2 := (fun h => (or_T h).imp dT dT) h2
    refine cx_seq (cx_ops ?_)
    refine ax_e (e_bslice rfl (by decide) rfl rfl) ?_
    refine ax_q (q_mov rfl) ?_
    refine ax_q (q_mov rfl) ?_
    refine ax_nil (cx_keep rfl rfl ?_)
    refine cx_wk (wk_frz 2 40 rfl rfl (.whole (by simp)) rfl) ?_
    refine cx_ret (ret0 rfl rfl ?_)
    have e : l01F s = ([], false) := by rw [← he]; exact loopR_bad h2
    rw [e]; exact ⟨rfl, rfl⟩
   ·
    have h2 := (fun h => And.intro (dF (or_F h).1) (dF (or_F h).2)) h2
    have hst := loopR_go (n := m) (l := l) (pos := pos) (s := s) (by omega) (by omega)
    refine cx_skip ?_
    refine cx_keep rfl rfl (cx_seq (cx_ops ?_))
    refine ax_q (q_mov rfl) ?_
    refine ax_q (q_mov rfl) ?_
    refine ax_qe (r' := .d (.int .u8 ((getN s pos : Nat) : Int))) (q_idxN rfl rfl (by omega)) (by rw [getN_at (by omega)]) ?_
    refine ax_qe (r' := int ((getN s pos : Nat) : Int)) (q_convI rfl (by have := @getN_lt s pos; omega)) (rfl) ?_
    refine ax_q (q_mov rfl) ?_
    refine ax_nil (cx_keep rfl rfl (cx_seq (cx_ops ?_)))
    refine ax_q (q_mov rfl) ?_
    refine ax_q (q_mov rfl) ?_
    refine ax_q (q_mov rfl) ?_
    refine ax_qe (r' := int ((pos + 1 : Nat) : Int)) (q_ibin rfl rfl rfl) (by rw [wi (by omega) (by omega)]; rfl) ?_
    refine ax_q (q_mov rfl) ?_
    refine ax_qe (r' := int ((pos + 1 : Nat) : Int)) (q_ibin rfl rfl rfl) (by rw [wi (by omega) (by omega)]; rfl) ?_
    refine ax_q (q_mov rfl) ?_
    refine ax_qe (r' := int ((pos + 1 + getN s pos : Nat) : Int)) (q_ibin rfl rfl rfl) (by rw [wi (by omega) (by omega)]; rfl) ?_
    refine ax_qe (r' := .d (.str ((s.drop (pos + 1)).take (getN s pos)))) (q_slcT rfl rfl rfl (by omega) (by omega) (by omega)) (slcT_mid (by omega) (by omega)) ?_
    refine ax_e (e_bsliceD (rows := [strRow ((s.drop (pos + 1)).take (getN s pos))]) rfl) ?_
    refine ax_e (e_appn (n' := (l ++ [((s.drop (pos + 1)).take (getN s pos))]).length) (rs' := (l ++ [((s.drop (pos + 1)).take (getN s pos))]).map strRow) rfl rfl (by simp) rfl (src_sl 1 _) (.inl (by decide)) (hbnd (by omega) (by simp) (by decide)) (by simp) app_one) ?_
    refine ax_q (q_mov rfl) ?_
    refine ax_nil (cx_keep rfl rfl (cx_ops ?_))
    refine ax_q (q_mov rfl) ?_
    refine ax_q (q_mov rfl) ?_
    refine ax_qe (r' := int ((1 + getN s pos : Nat) : Int)) (q_ibin rfl rfl rfl) (by rw [wi (by omega) (by omega)]; rfl) ?_
    refine ax_qe (r' := int ((pos + 1 + getN s pos : Nat) : Int)) (q_ibin rfl rfl rfl) (by rw [wi (by omega) (by omega)]; exact congrArg AM.int (by omega)) ?_
    refine ax_q (q_mov rfl) ?_
    refine ax_nil (cx_keep rfl rfl (cx_ops ?_))
    refine ax_q (q_mov rfl) ?_
    refine ax_qe (r' := int ((m : Nat) : Int)) (q_ibin rfl rfl rfl) (by rw [wi (by omega) (by omega)]; exact congrArg AM.int (by omega)) ?_
    refine ax_q (q_mov rfl) ?_
    refine ax_nil ?_
    exact ⟨_, (m, pos + 1 + getN s pos, l ++ [((s.drop (pos + 1)).take (getN s pos))]), by omega, ⟨rfl, by simp only; omega, by simp only; omega, by simp only [List.length_append, List.length_singleton]; omega, by rw [← hst]; exact he⟩, by repeat constructor⟩
  ·
   have h1 := dF h1
   obtain rfl : m = 0 := by omega
   refine cx_exit rfl ?_
   refine cx_keep rfl rfl (cx_seq (cx_seq (cx_ops ?_)))
   refine ax_q (q_mov rfl) ?_
   refine ax_q (q_mov rfl) ?_
   refine ax_q (q_lenT rfl) ?_
   refine ax_q (q_ibin rfl rfl rfl) ?_
   refine ax_nil (cx_keep rfl rfl ?_)
   refine cx_cond rfl (fun h3 => ?_) (fun h3 => ?_)
   ·
    have h3 := nT h3
    refine cx_seq (cx_ops ?_)
    refine ax_e (e_bslice rfl (by decide) rfl rfl) ?_
    refine ax_q (q_mov rfl) ?_
    refine ax_q (q_mov rfl) ?_
    refine ax_nil (cx_keep rfl rfl ?_)
    refine cx_wk (wk_frz 2 64 rfl rfl (.whole (by simp)) rfl) ?_
    refine cx_ret (ret0 rfl rfl ?_)
    have e : l01F s = ([], false) := by rw [← he]; exact loopR_0f (by omega)
    rw [e]; exact ⟨rfl, rfl⟩
   ·
    have h3 := nF h3
    refine cx_skip ?_
    refine cx_keep rfl rfl (cx_seq (cx_ops ?_))
    refine ax_q (q_mov rfl) ?_
    refine ax_q (q_mov rfl) ?_
    refine ax_q (q_mov rfl) ?_
    refine ax_nil (cx_keep rfl rfl ?_)
    refine cx_wk (wk_frz 2 8 rfl rfl (.whole (by simp)) rfl) ?_
    refine cx_ret (ret0 rfl rfl ?_)
    have e : l01F s = (l, true) := by rw [← he]; exact loopR_0t (by omega)
    rw [e]; exact ⟨rfl, rfl⟩


/- loop.example/g00332/spec.l03Read -/
def k_c_l03Read : XCode :=
 .seq (.ops [.op (some 4) (.alloc [.int .i64 0, .nils 1]),
   .op (some 5) (.mov (.k (.bool false)))])
 (.keep [0, 1, 4] (.seq (.ops [.op (some 12) (.mov (.t 1)),
   .call (some 13) 221 [.t 12],
   .op (some 11) (.mov (.t 13)),
   .op (some 14) (.ext (.t 11) 0),
   .op (some 15) (.ext (.t 11) 1),
   .op (some 6) (.mov (.t 14)),
   .op (some 7) (.mov (.t 15))])
 (.keep [0, 4, 6, 7] (.seq (.seq (.ops [.op (some 16) (.mov (.t 7)),
   .op (some 17) (.not (.t 16)),
   .op (some 18) (.mov (.t 17)),
   .andor 22 false 2 18 [.op (some 19) (.mov (.t 6)), .op (some 20) (.lenT (.t 19)), .op (some 21) (.bin .lss (.t 20) (.k (.int .i64 5)))] (.t 21),
   .op (some 23) (.mov (.t 22)),
   .andor 27 false 7 23 [.op (some 24) (.mov (.t 6)), .op (some 25) (.idxS (.t 24) (.k (.int .i64 0))), .op (some 26) (.bin .neq (.t 25) (.k (.int .u8 112)))] (.t 26),
   .op (some 28) (.mov (.t 27)),
   .andor 34 false 12 28 [.op (some 29) (.mov (.t 6)), .op (some 30) (.idxS (.t 29) (.k (.int .i64 1))), .op (some 31) (.conv .i64 (.t 30)), .op (some 32) (.mov (.t 0)), .op (some 33) (.bin .neq (.t 31) (.t 32))] (.t 33)])
  (.keep [4, 6, 34] (.cond (.t 34)
  (.seq (.ops [.op (some 35) (.build [.int .i64 0, .nils 1] []),
    .op none (.store 2 (.t 4) (.t 35)),
    .op (some 5) (.mov (.k (.bool false)))])
   (.keep [4, 5] (.ret)))
  (.skip))))
 (.keep [4, 6] (.seq (.ops [.op (some 37) (.mov (.t 6)),
   .op (some 38) (.slcT (.t 37) (some (.k (.int .i64 4))) none),
   .call (some 39) 222 [.t 38],
   .op (some 36) (.mov (.t 39)),
   .op (some 40) (.ext (.t 36) 0),
   .op (some 41) (.ext (.t 36) 1),
   .op (some 8) (.mov (.t 40)),
   .op (some 9) (.mov (.t 41))])
 (.keep [4, 6, 8, 9] (.seq (.ops [.op (some 42) (.mov (.t 6)),
   .op (some 43) (.slcT (.t 42) (some (.k (.int .i64 2))) (some (.k (.int .i64 4)))),
   .call (some 44) 223 [.t 43],
   .op (some 45) (.mov (.t 8)),
   .op (some 46) (.build [.int .i64 0, .nils 1] [(0, 1, .t 44), (1, 1, .t 45)]),
   .op (some 10) (.alloc [.int .i64 0, .nils 1]),
   .op none (.store 2 (.t 10) (.t 46))])
 (.keep [4, 9, 10] (.seq (.drawS [[], [], [1], [1, 2], [1, 2, 3], [1, 2, 3, 4], [0, 1, 2, 3, 4], [0, 1, 2, 3, 4, 5, 6]] [.op (some 47) (.loadN 2 (.t 10)),
   .op (some 48) (.mov (.t 9)),
   .op (some 49) (.mov (.t 48)),
   .andor 52 true 2 49 [.op (some 50) (.loadN 2 (.t 10)), .call (some 51) 84 [.t 50]] (.t 51)]
  [.op none (.store 2 (.t 4) (.t 47)),
   .op (some 5) (.mov (.t 52))])
 (.keep [4, 5] (.ret))))))))))))
theorem k_c_l03Read_fits : fitsF Tryz.prog 161 ⟨53, k_c_l03Read, [.cN 4 2, .t 5]⟩ = true := by kernel_rfl
set_option maxHeartbeats 4000000 in
theorem c_l03Read {no : Int} {t : Str} (hl : t.length ≤ 65536) : Con Tryz.prog noMv 161 [int no, str t] [] (fun r h => r = .tup [(l3F no t).1.av, bool (l3F no t).2] ∧ h = []) := by
 refine con_of2 k_c_l03Read_fits rfl fun C hP hmv => ?_
 unfold k_c_l03Read
 refine cx_seq (cx_ops ?_)
 refine ax_e (e_alloc (by decide) rfl rfl) ?_
 refine ax_q (q_mov rfl) ?_
 refine ax_nil (cx_keep rfl rfl (cx_seq (cx_ops ?_)))
 refine ax_q (q_mov rfl) ?_
 refine ax_call rfl (vc_pure0 (c_l03Unseal (t := t) ?_) hP rfl rfl ?_)
 ·
  first | assumption | omega
 have hul := @unseal_len t
 refine ax_q (q_mov rfl) ?_
 refine ax_q (q_ext rfl rfl) ?_
 refine ax_q (q_ext rfl rfl) ?_
 refine ax_q (q_mov rfl) ?_
 refine ax_q (q_mov rfl) ?_
 refine ax_nil (cx_keep rfl rfl (cx_seq (cx_seq (cx_ops ?_))))
 refine ax_q (q_mov rfl) ?_
 refine ax_q (q_not rfl) ?_
 refine ax_q (q_mov rfl) ?_
 apply ax_or rfl rfl
 ·
  intro g
  have g := bF g
  refine ax_q (q_mov rfl) ?_
  refine ax_q (q_lenT rfl) ?_
  refine ax_q (q_ibin rfl rfl rfl) ?_
  exact ax_nil ⟨rfl, by repeat constructor⟩
 refine ax_q (q_mov rfl) ?_
 apply ax_or rfl rfl
 ·
  intro g
  have g := (fun h => And.intro (bF (or_F h).1) (dF (or_F h).2)) g
  have g9 := g.2
  refine ax_q (q_mov rfl) ?_
  refine ax_qe (r' := .d (.int .u8 ((getN (unsealF t).1 0 : Nat) : Int))) (q_idxN (n := 0) rfl rfl (by omega)) (by rw [getN_at (by omega)]) ?_
  refine ax_q (q_ibin rfl rfl rfl) ?_
  exact ax_nil ⟨rfl, by repeat constructor⟩
 refine ax_q (q_mov rfl) ?_
 apply ax_or rfl rfl
 ·
  intro g
  have g := (fun h => And.intro ((fun h => And.intro (bF (or_F h).1) (dF (or_F h).2)) (or_F h).1) (nF (or_F h).2)) g
  have g9 := g.1.2
  refine ax_q (q_mov rfl) ?_
  refine ax_qe (r' := .d (.int .u8 ((getN (unsealF t).1 1 : Nat) : Int))) (q_idxN (n := 1) rfl rfl (by omega)) (by rw [getN_at (by omega)]) ?_
  refine ax_qe (r' := int ((getN (unsealF t).1 1 : Nat) : Int)) (q_convI rfl (by have := @getN_lt (unsealF t).1 1; omega)) (rfl) ?_
  refine ax_q (q_mov rfl) ?_
  refine ax_q (q_ibin rfl rfl rfl) ?_
  exact ax_nil ⟨rfl, by repeat constructor⟩
 refine ax_nil (cx_keep rfl rfl ?_)
 refine cx_cond rfl (fun h0 => ?_) (fun h0 => ?_)
 ·
  have h0 : bad3 no t = true := h0
  refine cx_seq (cx_ops ?_)
  refine ax_q (q_build rfl) ?_
  refine ax_wk (wk_virt 903 1 rfl rfl rfl) ?_
  refine ax_wk (wk_zs 35 903 [1] rfl rfl) ?_
  refine ax_wk (wk_frz 35 903 rfl rfl (.agg (.cons (.same rfl) (.cons (.whole rfl) .nil))) rfl) ?_
  refine ax_e (e_st rfl rfl rfl rfl rfl rfl rfl) ?_
  refine ax_q (q_mov rfl) ?_
  refine ax_nil (cx_keep rfl rfl ?_)
  refine cx_ret (ret0 rfl rfl ?_)
  exact ⟨by rw [l3F_1 h0]; rfl, rfl⟩
 ·
  have h0 : bad3 no t = false := h0
  have h5 : 5 ≤ (unsealF t).1.length := by
   have h1 := h0; unfold bad3 at h1; simp only [Bool.or_eq_false_iff, decide_eq_false_iff_not] at h1; have := h1.1.1.2; omega
  refine cx_skip ?_
  refine cx_keep rfl rfl (cx_seq (cx_ops ?_))
  refine ax_q (q_mov rfl) ?_
  refine ax_qe (r' := .d (.str ((unsealF t).1.drop 4))) (q_slcT rfl rfl rfl (by omega) (by omega) (by omega)) (slcT_drop rfl) ?_
  refine ax_call rfl (vc_pure0 (c_l01Read (s := (unsealF t).1.drop 4) ?_) hP rfl rfl ?_)
  ·
   first | assumption | omega | (simp; done) | (simp; omega)
  refine ax_q (q_mov rfl) ?_
  refine ax_q (q_ext rfl rfl) ?_
  refine ax_q (q_ext rfl rfl) ?_
  refine ax_q (q_mov rfl) ?_
  refine ax_q (q_mov rfl) ?_
  refine ax_nil (cx_keep rfl rfl (cx_seq (cx_ops ?_)))
  refine ax_q (q_mov rfl) ?_
  refine ax_qe (r' := .d (.str (((unsealF t).1.drop 2).take 2))) (q_slcT rfl rfl rfl (by omega) (by omega) (by omega)) (slcT_mid rfl rfl) ?_
  refine ax_call rfl (vc_pure0 (c_l01Of (t := ((unsealF t).1.drop 2).take 2) ?_) hP rfl rfl ?_)
  ·
   rw [List.length_take]; omega
  refine ax_q (q_mov rfl) ?_
  refine ax_q (q_build rfl) ?_
  refine ax_e (e_alloc (by decide) rfl rfl) ?_
  refine ax_e (e_st rfl rfl rfl rfl rfl rfl rfl) ?_
  refine ax_nil (cx_keep rfl rfl (cx_seq ?_))
  refine cx_drawS ?_
  refine ax_q (q_ldN rfl rfl rfl) ?_
  refine ax_q (q_mov rfl) ?_
  refine ax_q (q_mov rfl) ?_
  apply ax_and rfl rfl
  ·
   intro g
   refine ax_q (q_ldN rfl rfl rfl) ?_
   refine ax_callq rfl (c_sPageOK (p := pgR (unsealF t).1) ?_) hP (lal_id _ rfl) rfl ?_
   ·
    exact Nat.le_trans l01_255 (by decide)
   exact ax_nil ⟨rfl, by repeat constructor⟩
  refine ax_nil ?_
  refine ax_e (e_st rfl rfl rfl rfl rfl rfl rfl) ?_
  refine ax_q (q_mov rfl) ?_
  refine ax_nil (cx_keep rfl rfl ?_)
  refine cx_ret (ret0 rfl rfl ?_)
  exact ⟨by rw [l3F_2 h0]; rfl, rfl⟩


/- loop.example/g00332/spec.l05Page -/
def k_c_l05Page : XCode :=
 .seq (.ops [.op (some 2) (.box (.t 0)),
   .op (some 4) (.alloc [.int .i64 0, .nils 1]),
   .op (some 5) (.mov (.k (.bool false)))])
 (.keep [1, 2, 4] (.seq (.ops [.op (some 7) (.loadN 4 (.t 2)),
   .op (some 8) (.mov (.t 1)),
   .op (some 9) (.bin .add (.k (.int .i64 1)) (.t 8)),
   .call (some 10) 159 [.t 7, .t 9],
   .op (some 6) (.mov (.t 10))])
 (.keep [1, 4, 6] (.seq (.seq (.ops [.op (some 11) (.mov (.t 6)),
   .op (some 12) (.bin .eql (.t 11) (.k (.str [])))])
  (.keep [1, 4, 6, 12] (.cond (.t 12)
  (.seq (.ops [.call (some 13) 160 [],
    .op none (.store 2 (.t 4) (.t 13)),
    .op (some 5) (.mov (.k (.bool true)))])
   (.keep [4, 5] (.ret)))
  (.skip))))
 (.keep [1, 4, 6] (.seq (.ops [.op (some 14) (.mov (.t 1)),
   .op (some 15) (.mov (.t 6)),
   .call (some 16) 161 [.t 14, .t 15],
   .op (some 17) (.ext (.t 16) 0),
   .op (some 18) (.ext (.t 16) 1),
   .op none (.store 2 (.t 4) (.t 17)),
   .op (some 5) (.mov (.t 18))])
 (.keep [4, 5] (.ret))))))))
theorem k_c_l05Page_fits : fitsF Tryz.prog 85 ⟨19, k_c_l05Page, [.cN 4 2, .t 5]⟩ = true := by kernel_rfl
theorem c_l05Page {d : GDisk} {no : Nat} (hd : diskOK d = true) (hs : d.Sectors.length = 69) (hn : no < 8) : Con Tryz.prog noMv 85 [d.av, int (no : Nat)] [] (fun r h => r = .tup [(pageD d no).1.av, bool (pageD d no).2] ∧ h = []) := by
 refine con_of2 k_c_l05Page_fits rfl fun C hP hmv => ?_
 unfold k_c_l05Page
 obtain ⟨q1, q2, q3⟩ := diskOK_head hd
 have htl := diskOK_txt hd (1 + no)
 refine cx_seq (cx_ops ?_)
 refine ax_e (e_box rfl rfl (by decide) rfl rfl rfl) ?_
 refine ax_e (e_alloc (by decide) rfl rfl) ?_
 refine ax_q (q_mov rfl) ?_
 refine ax_nil (cx_keep rfl rfl (cx_seq (cx_ops ?_)))
 refine ax_q (q_ldN rfl rfl rfl) ?_
 refine ax_q (q_mov rfl) ?_
 refine ax_qe (r' := int ((1 + no : Nat) : Int)) (q_ibin rfl rfl rfl) (by rw [wi (by omega) (by omega)]; rfl) ?_
 refine ax_call rfl (vc_pure0 (c_l02Read (d := d) (i := 1 + no) ?_ ?_ ?_ ?_) hP rfl rfl ?_)
 ·
  first | assumption | omega
 ·
  first | assumption | omega
 ·
  first | assumption | omega
 ·
  first | assumption | omega
 refine ax_q (q_mov rfl) ?_
 refine ax_nil (cx_keep rfl rfl (cx_seq (cx_seq (cx_ops ?_))))
 refine ax_q (q_mov rfl) ?_
 refine ax_q (q_sbin rfl rfl rfl) ?_
 refine ax_nil (cx_keep rfl rfl ?_)
 refine cx_cond rfl (fun h0 => ?_) (fun h0 => ?_)
 ·
  have h0 := dT h0
  have h0 : txtD d (1 + no) = [] := h0
  refine cx_seq (cx_ops ?_)
  refine ax_call rfl (vc_pure (c_sNewPage  ) hP rfl ?_)
  rintro r h ⟨rfl, rfl⟩
  refine ⟨fun i => 13 + 200 * i, [0], ⟨rfl, rfl, rfl, rfl, rfl, (by first | exact (fun h => absurd h Bool.false_ne_true) | exact (fun _ => ⟨rfl, (noisl_of (by repeat (first | exact trivial | refine ⟨noisl_map (fun _ => rfl), ?_⟩ | refine ⟨?_, ?_⟩)))⟩))⟩, ?_⟩
  skip
  refine ax_wk (wk_frz 13 13 rfl rfl (.agg (.cons (.same rfl) (.cons (.whole rfl) .nil))) rfl) ?_
  refine ax_e (e_st rfl rfl rfl rfl rfl rfl rfl) ?_
  refine ax_q (q_mov rfl) ?_
  refine ax_nil (cx_keep rfl rfl ?_)
  refine cx_ret (ret0 rfl rfl ?_)
  exact ⟨by rw [show pageD d no = _ from pageT_0 h0]; rfl, rfl⟩
 ·
  have h0 := dF h0
  have h0 : ¬ txtD d (1 + no) = [] := h0
  refine cx_skip ?_
  refine cx_keep rfl rfl (cx_seq (cx_ops ?_))
  refine ax_q (q_mov rfl) ?_
  refine ax_q (q_mov rfl) ?_
  refine ax_call rfl (vc_pure0 (c_l03Read (t := txtD d (1 + no)) ?_) hP rfl rfl ?_)
  ·
   first | assumption | omega
  refine ax_q (q_ext rfl rfl) ?_
  refine ax_q (q_ext rfl rfl) ?_
  refine ax_e (e_st rfl rfl rfl rfl rfl rfl rfl) ?_
  refine ax_q (q_mov rfl) ?_
  refine ax_nil (cx_keep rfl rfl ?_)
  refine cx_ret (ret0 rfl rfl ?_)
  exact ⟨by rw [show pageD d no = _ from pageT_1 h0]; rfl, rfl⟩


/- loop.example/g00332/spec.StoreOK -/
def k_c_sStoreOK : XCode :=
 .seq (.ops [.op (some 1) (.box (.t 0)),
   .op (some 2) (.mov (.k (.bool false)))])
 (.keep [1] (.seq (.seq (.ops [.op (some 10) (.fadr (.t 1) 0),
   .op (some 11) (.loadN 4 (.t 10)),
   .call (some 12) 82 [.t 11],
   .op (some 13) (.not (.t 12)),
   .op (some 14) (.mov (.t 13)),
   .andor 20 false 4 14 [.op (some 15) (.fadr (.t 1) 0), .op (some 16) (.fadr (.t 15) 0), .op (some 17) (.load1 (.t 16)), .op (some 18) (.lenS (.t 17)), .op (some 19) (.bin .neq (.t 18) (.k (.int .i64 69)))] (.t 19),
   .op (some 21) (.mov (.t 20)),
   .andor 26 false 11 21 [.op (some 22) (.fadr (.t 1) 4), .op (some 23) (.load1 (.t 22)), .call (some 24) 37 [.t 23, .k (.int .i64 1), .k (.int .i64 60)], .op (some 25) (.not (.t 24))] (.t 25),
   .op (some 27) (.mov (.t 26)),
   .andor 32 false 17 27 [.op (some 28) (.fadr (.t 1) 5), .op (some 29) (.load1 (.t 28)), .op (some 30) (.lenS (.t 29)), .op (some 31) (.bin .gtr (.t 30) (.k (.int .i64 60)))] (.t 31),
   .op (some 33) (.mov (.t 32)),
   .andor 41 false 23 33 [.op (some 34) (.fadr (.t 1) 6), .op (some 35) (.load1 (.t 34)), .op (some 36) (.fadr (.t 1) 5), .op (some 37) (.load1 (.t 36)), .op (some 38) (.lenS (.t 37)), .call (some 39) 37 [.t 35, .k (.int .i64 0), .t 38], .op (some 40) (.not (.t 39))] (.t 40),
   .op (some 42) (.mov (.t 41)),
   .andor 47 false 32 42 [.op (some 43) (.fadr (.t 1) 7), .op (some 44) (.load1 (.t 43)), .op (some 45) (.lenS (.t 44)), .op (some 46) (.bin .gtr (.t 45) (.k (.int .i64 3)))] (.t 46),
   .op (some 48) (.mov (.t 47)),
   .andor 53 false 38 48 [.op (some 49) (.fadr (.t 1) 8), .op (some 50) (.load1 (.t 49)), .call (some 51) 37 [.t 50, .k (.int .i64 0), .k (.int .i64 2)], .op (some 52) (.not (.t 51))] (.t 52)])
  (.keep [1, 53] (.cond (.t 53)
  (.seq (.ops [.op (some 2) (.mov (.k (.bool false)))])
   (.keep [2] (.ret)))
  (.skip))))
 (.keep [1] (.seq (.seq (.ops [.op (some 3) (.mov (.k (.int .i64 0)))])
  (.keep [1, 3] (.block 0 (.loop (.seq (.seq (.ops [.op (some 54) (.mov (.t 3)),
     .op (some 55) (.fadr (.t 1) 5),
     .op (some 56) (.load1 (.t 55)),
     .op (some 57) (.lenS (.t 56)),
     .op (some 58) (.bin .lss (.t 54) (.t 57))])
   (.keep [1, 3, 58] (.cond (.t 58)
    (.skip)
    (.exit 0))))
   (.keep [1, 3] (.seq (.block 1 (.seq (.ops [.op (some 61) (.fadr (.t 1) 5),
     .op (some 62) (.load1 (.t 61)),
     .op (some 63) (.mov (.t 3)),
     .op (some 64) (.iadr 10 (.t 62) (.t 63)),
     .op (some 65) (.loadN 10 (.t 64)),
     .op (some 4) (.alloc [.int .i64 0, .int .i64 0, .int .i64 0, .int .i64 0, .int .i64 0, .int .i64 0, .int .i64 0, .int .i64 0, .str [], .str []]),
     .op none (.store 10 (.t 4) (.t 65))])
    (.keep [1, 3, 4] (.seq (.draw [.op (some 66) (.loadN 10 (.t 4)),
     .call (some 67) 83 [.t 66],
     .op (some 68) (.not (.t 67)),
     .op (some 69) (.mov (.t 68)),
     .andor 75 false 3 69 [.op (some 70) (.fadr (.t 4) 1), .op (some 71) (.load1 (.t 70)), .op (some 72) (.mov (.t 3)), .op (some 73) (.bin .add (.t 72) (.k (.int .i64 1))), .op (some 74) (.bin .neq (.t 71) (.t 73))] (.t 74),
     .op (some 76) (.mov (.t 75)),
     .andor 82 false 10 76 [.op (some 77) (.fadr (.t 4) 0), .op (some 78) (.load1 (.t 77)), .op (some 79) (.fadr (.t 1) 4), .op (some 80) (.load1 (.t 79)), .op (some 81) (.bin .gtr (.t 78) (.t 80))] (.t 81),
     .op (some 83) (.mov (.t 82)),
     .andor 98 false 17 83 [.op (some 84) (.mov (.t 3)), .op (some 85) (.bin .gtr (.t 84) (.k (.int .i64 0))), .op (some 86) (.mov (.t 85)), .andor 97 true 20 86 [.op (some 87) (.fadr (.t 1) 5), .op (some 88) (.load1 (.t 87)), .op (some 89) (.mov (.t 3)), .op (some 90) (.bin .sub (.t 89) (.k (.int .i64 1))), .op (some 91) (.iadr 10 (.t 88) (.t 90)), .op (some 92) (.fadr (.t 91) 0), .op (some 93) (.load1 (.t 92)), .op (some 94) (.fadr (.t 4) 0), .op (some 95) (.load1 (.t 94)), .op (some 96) (.bin .gtr (.t 93) (.t 95))] (.t 96)] (.t 97)])
    (.keep [1, 3, 98] (.cond (.t 98)
    (.seq (.ops [.op (some 2) (.mov (.k (.bool false)))])
     (.keep [2] (.ret)))
    (.skip)))))))
   (.keep [1, 3] (.ops [.op (some 59) (.mov (.t 3)),
    .op (some 60) (.bin .add (.t 59) (.k (.int .i64 1))),
    .op (some 3) (.mov (.t 60))])))))))))
 (.keep [1] (.seq (.seq (.ops [.op (some 5) (.mov (.k (.int .i64 0)))])
  (.keep [1, 5] (.block 2 (.loop (.seq (.seq (.ops [.op (some 99) (.mov (.t 5)),
     .op (some 100) (.fadr (.t 1) 7),
     .op (some 101) (.load1 (.t 100)),
     .op (some 102) (.lenS (.t 101)),
     .op (some 103) (.bin .lss (.t 99) (.t 102))])
   (.keep [1, 5, 103] (.cond (.t 103)
    (.skip)
    (.exit 2))))
   (.keep [1, 5] (.seq (.block 3 (.seq (.ops [.op (some 106) (.fadr (.t 1) 7),
     .op (some 107) (.load1 (.t 106)),
     .op (some 108) (.mov (.t 5)),
     .op (some 109) (.iadr 5 (.t 107) (.t 108)),
     .op (some 110) (.loadN 5 (.t 109)),
     .op (some 6) (.alloc [.int .i64 0, .int .i64 0, .nils 1, .bool false, .int .i64 0]),
     .op none (.store 5 (.t 6) (.t 110))])
    (.keep [1, 5, 6] (.seq (.ops [.op (some 111) (.fadr (.t 6) 0),
     .op (some 112) (.load1 (.t 111)),
     .call (some 113) 37 [.t 112, .k (.int .i64 0), .k (.int .i64 7)],
     .op (some 114) (.not (.t 113)),
     .op (some 115) (.mov (.t 114)),
     .andor 120 false 4 115 [.op (some 116) (.fadr (.t 6) 1), .op (some 117) (.loadN 2 (.t 116)), .call (some 118) 84 [.t 117], .op (some 119) (.not (.t 118))] (.t 119),
     .op (some 121) (.mov (.t 120)),
     .andor 129 false 10 121 [.op (some 122) (.fadr (.t 6) 1), .op (some 123) (.fadr (.t 122) 0), .op (some 124) (.load1 (.t 123)), .op (some 125) (.fadr (.t 1) 5), .op (some 126) (.load1 (.t 125)), .op (some 127) (.lenS (.t 126)), .op (some 128) (.bin .gtr (.t 124) (.t 127))] (.t 128),
     .op (some 130) (.mov (.t 129)),
     .andor 138 false 19 130 [.op (some 131) (.fadr (.t 6) 4), .op (some 132) (.load1 (.t 131)), .op (some 133) (.fadr (.t 1) 5), .op (some 134) (.load1 (.t 133)), .op (some 135) (.lenS (.t 134)), .call (some 136) 37 [.t 132, .k (.int .i64 0), .t 135], .op (some 137) (.not (.t 136))] (.t 137),
     .op (some 139) (.mov (.t 138)),
     .andor 146 false 28 139 [.op (some 140) (.fadr (.t 6) 3), .op (some 141) (.load1 (.t 140)), .op (some 142) (.fadr (.t 6) 4), .op (some 143) (.load1 (.t 142)), .op (some 144) (.bin .gtr (.t 143) (.k (.int .i64 0))), .op (some 145) (.eqb true (.t 141) (.t 144))] (.t 145),
     .op (some 147) (.mov (.t 146)),
     .andor 154 false 36 147 [.op (some 148) (.loadN 9 (.t 1)), .op (some 149) (.fadr (.t 6) 0), .op (some 150) (.load1 (.t 149)), .call (some 151) 50 [.t 148, .t 150], .op (some 152) (.mov (.t 5)), .op (some 153) (.bin .neq (.t 151) (.t 152))] (.t 153)])
    (.keep [1, 5, 154] (.cond (.t 154)
    (.seq (.ops [.op (some 2) (.mov (.k (.bool false)))])
     (.keep [2] (.ret)))
    (.skip)))))))
   (.keep [1, 5] (.ops [.op (some 104) (.mov (.t 5)),
    .op (some 105) (.bin .add (.t 104) (.k (.int .i64 1))),
    .op (some 5) (.mov (.t 105))])))))))))
 (.keep [1] (.seq (.seq (.ops [.op (some 7) (.mov (.k (.int .i64 0)))])
  (.keep [1, 7] (.block 4 (.loop (.seq (.seq (.ops [.op (some 155) (.mov (.t 7)),
     .op (some 156) (.bin .lss (.t 155) (.k (.int .i64 8)))])
   (.keep [1, 7, 156] (.cond (.t 156)
    (.skip)
    (.exit 4))))
   (.keep [1, 7] (.seq (.block 5 (.seq (.ops [.op (some 160) (.fadr (.t 1) 0),
     .op (some 161) (.loadN 4 (.t 160)),
     .op (some 162) (.mov (.t 7)),
     .call (some 163) 85 [.t 161, .t 162],
     .op (some 159) (.mov (.t 163)),
     .op (some 164) (.ext (.t 159) 0),
     .op (some 165) (.ext (.t 159) 1),
     .op (some 8) (.alloc [.int .i64 0, .nils 1]),
     .op none (.store 2 (.t 8) (.t 164)),
     .op (some 9) (.mov (.t 165))])
    (.keep [1, 7, 8, 9] (.seq (.ops [.op (some 166) (.mov (.t 9)),
     .op (some 167) (.not (.t 166)),
     .op (some 168) (.mov (.t 167)),
     .andor 174 false 2 168 [.op (some 169) (.fadr (.t 8) 0), .op (some 170) (.load1 (.t 169)), .op (some 171) (.fadr (.t 1) 6), .op (some 172) (.load1 (.t 171)), .op (some 173) (.bin .gtr (.t 170) (.t 172))] (.t 173)])
    (.keep [1, 7, 174] (.cond (.t 174)
    (.seq (.ops [.op (some 2) (.mov (.k (.bool false)))])
     (.keep [2] (.ret)))
    (.skip)))))))
   (.keep [1, 7] (.ops [.op (some 157) (.mov (.t 7)),
    .op (some 158) (.bin .add (.t 157) (.k (.int .i64 1))),
    .op (some 7) (.mov (.t 158))])))))))))
 (.keep [] (.seq (.ops [.op (some 2) (.mov (.k (.bool true)))])
 (.keep [2] (.ret))))))))))))
theorem k_c_sStoreOK_fits : fitsF Tryz.prog 35 ⟨175, k_c_sStoreOK, [.t 2]⟩ = true := by kernel_rfl
set_option maxHeartbeats 8000000 in
theorem c_sStoreOK {s : GStore} (hb0 : StB s) : Con Tryz.prog noMv 35 [s.av] [] (fun r h => r = bool (storeOK s) ∧ h = []) := by
 refine con_of2 k_c_sStoreOK_fits rfl fun C hP hmv => ?_
 unfold k_c_sStoreOK
 obtain ⟨hw0, hw1, hw2, hw3, hwa, hw4, hw5, hw6⟩ := id hb0
 refine cx_seq (cx_ops ?_)
 refine ax_e (e_box rfl rfl (by decide) rfl rfl rfl) ?_
 refine ax_q (q_mov rfl) ?_
 refine ax_nil (cx_keep rfl rfl (cx_seq (cx_seq (cx_ops ?_))))
 refine ax_q (q_fadr_ptr rfl) ?_
 refine ax_q (q_ldN rfl rfl rfl) ?_
 refine ax_call rfl (vc_pure0 (c_sDiskOK (d := s.Disk) ?_ ?_ ?_) hP rfl rfl ?_)
 ·
  assumption
 ·
  assumption
 ·
  assumption
 refine ax_q (q_not rfl) ?_
 refine ax_q (q_mov rfl) ?_
 apply ax_or rfl rfl
 ·
  intro g
  have g := bF g
  refine ax_q (q_fadr_ptr rfl) ?_
  refine ax_q (q_fadr_ptr rfl) ?_
  refine ax_q (q_load1_ptr rfl rfl rfl) ?_
  refine ax_q (q_lenS_map rfl) ?_
  refine ax_q (q_ibin rfl rfl rfl) ?_
  exact ax_nil ⟨rfl, by repeat constructor⟩
 refine ax_q (q_mov rfl) ?_
 apply ax_or rfl rfl
 ·
  intro g
  have g := (fun h => And.intro (bF (or_F h).1) (nF (or_F h).2)) g
  refine ax_q (q_fadr_ptr rfl) ?_
  refine ax_q (q_load1_ptr rfl rfl rfl) ?_
  refine ax_call rfl (vc_pure0 (c_l01In  ) hP rfl rfl ?_)
  refine ax_q (q_not rfl) ?_
  exact ax_nil ⟨rfl, by repeat constructor⟩
 refine ax_q (q_mov rfl) ?_
 apply ax_or rfl rfl
 ·
  intro g
  have g := (fun h => And.intro ((fun h => And.intro (bF (or_F h).1) (nF (or_F h).2)) (or_F h).1) (bF (or_F h).2)) g
  refine ax_q (q_fadr_ptr rfl) ?_
  refine ax_q (q_load1_ptr rfl rfl rfl) ?_
  refine ax_q (q_lenS_map rfl) ?_
  refine ax_q (q_ibin rfl rfl rfl) ?_
  exact ax_nil ⟨rfl, by repeat constructor⟩
 refine ax_q (q_mov rfl) ?_
 apply ax_or rfl rfl
 ·
  intro g
  have g := (fun h => And.intro ((fun h => And.intro ((fun h => And.intro (bF (or_F h).1) (nF (or_F h).2)) (or_F h).1) (bF (or_F h).2)) (or_F h).1) (dF (or_F h).2)) g
  refine ax_q (q_fadr_ptr rfl) ?_
  refine ax_q (q_load1_ptr rfl rfl rfl) ?_
  refine ax_q (q_fadr_ptr rfl) ?_
  refine ax_q (q_load1_ptr rfl rfl rfl) ?_
  refine ax_q (q_lenS_map rfl) ?_
  refine ax_call rfl (vc_pure0 (c_l01In  ) hP rfl rfl ?_)
  refine ax_q (q_not rfl) ?_
  exact ax_nil ⟨rfl, by repeat constructor⟩
 refine ax_q (q_mov rfl) ?_
 apply ax_or rfl rfl
 ·
  intro g
  have g := (fun h => And.intro ((fun h => And.intro ((fun h => And.intro ((fun h => And.intro (bF (or_F h).1) (nF (or_F h).2)) (or_F h).1) (bF (or_F h).2)) (or_F h).1) (dF (or_F h).2)) (or_F h).1) (bF (or_F h).2)) g
  refine ax_q (q_fadr_ptr rfl) ?_
  refine ax_q (q_load1_ptr rfl rfl rfl) ?_
  refine ax_q (q_lenS_map rfl) ?_
  refine ax_q (q_ibin rfl rfl rfl) ?_
  exact ax_nil ⟨rfl, by repeat constructor⟩
 refine ax_q (q_mov rfl) ?_
 apply ax_or rfl rfl
 ·
  intro g
  have g := (fun h => And.intro ((fun h => And.intro ((fun h => And.intro ((fun h => And.intro ((fun h => And.intro (bF (or_F h).1) (nF (or_F h).2)) (or_F h).1) (bF (or_F h).2)) (or_F h).1) (dF (or_F h).2)) (or_F h).1) (bF (or_F h).2)) (or_F h).1) (dF (or_F h).2)) g
  refine ax_q (q_fadr_ptr rfl) ?_
  refine ax_q (q_load1_ptr rfl rfl rfl) ?_
  refine ax_call rfl (vc_pure0 (c_l01In  ) hP rfl rfl ?_)
  refine ax_q (q_not rfl) ?_
  exact ax_nil ⟨rfl, by repeat constructor⟩
 refine ax_nil (cx_keep rfl rfl ?_)
 refine cx_cond rfl (fun h0 => ?_) (fun h0 => ?_)
 ·
  have h0 : badHd2 s = true := h0
  refine cx_seq (cx_ops ?_)
  refine ax_q (q_mov rfl) ?_
  refine ax_nil (cx_keep rfl rfl ?_)
  refine cx_ret (ret0 rfl rfl ?_)
  exact ⟨by rw [storeOK_h2 h0]; rfl, rfl⟩
 ·
  have h0 : badHd2 s = false := h0
  obtain ⟨HD, hf3, hh⟩ := hd2_of h0
  have hll := HD.lo
  have hsu := HD.su
  refine cx_skip ?_
  refine cx_keep rfl rfl (cx_seq (cx_seq (cx_ops ?_)))
  refine ax_q (q_mov rfl) ?_
  refine ax_nil (cx_keep rfl rfl (cx_block ?_))
  refine cx_loopU (fun n k => k ≤ s.Log.length ∧ n = s.Log.length - k ∧ epochsOK s.Epoch 1 s.Log = epochsOK s.Epoch (lowAt s.Log k) (s.Log.drop k) ∧ ∀ i (h : i < s.Log.length), i < k → recOK s.Log[i] = true ∧ s.Log[i].Lsn = ((i + 1 : Nat) : Int)) (fun k : Nat => [(3, int k)]) (fun _ => [(1, .box (s.row.map .d))]) ⟨_, 0, ⟨Nat.zero_le _, rfl, rfl, fun i h hi => by omega⟩, by repeat constructor⟩ ?_
  rintro n k ⟨hk, rfl, he, hr⟩
  refine cx_seq (cx_seq (cx_ops ?_))
  refine ax_q (q_mov rfl) ?_
  refine ax_q (q_fadr_ptr rfl) ?_
  refine ax_q (q_load1_ptr rfl rfl rfl) ?_
  refine ax_q (q_lenS_map rfl) ?_
  refine ax_q (q_ibin rfl rfl rfl) ?_
  refine ax_nil (cx_keep rfl rfl ?_)
  refine cx_cond rfl (fun h1 => ?_) (fun h1 => ?_)
  ·
   have h1 := dT h1
   have h1x : k < s.Log.length := by omega
   refine cx_skip ?_
   refine cx_keep rfl rfl (cx_seq (cx_block (cx_seq (cx_ops ?_))))
   refine ax_q (q_fadr_ptr rfl) ?_
   refine ax_q (q_load1_ptr rfl rfl rfl) ?_
   refine ax_q (q_mov rfl) ?_
   refine ax_q (q_ix rfl rfl (mapAt h1x)) ?_
   first | refine ax_q (q_ldN rfl rfl rfl) ?_ | refine ax_q (q_loadN_ip rfl (Nat.le_refl _)) ?_
   refine ax_e (e_alloc (by decide) rfl rfl) ?_
   refine ax_e (e_st rfl rfl rfl rfl rfl rfl rfl) ?_
   refine ax_nil (cx_keep rfl rfl (cx_seq (cx_draw ?_)))
   refine ax_q (q_ldN rfl rfl rfl) ?_
   refine ax_callq rfl (c_sRecordOK (x := s.Log[k]) ?_) hP (lal_id _ rfl) rfl ?_
   ·
    exact hb0.af k h1x
   refine ax_q (q_not rfl) ?_
   refine ax_q (q_mov rfl) ?_
   apply ax_or rfl rfl
   ·
    intro g
    have g := bF g
    refine ax_q (q_fadr_ptr rfl) ?_
    refine ax_q (q_load1_ptr rfl rfl rfl) ?_
    refine ax_q (q_mov rfl) ?_
    refine ax_qe (r' := int ((k + 1 : Nat) : Int)) (q_ibin rfl rfl rfl) (by rw [wi (by omega) (by omega)]; rfl) ?_
    refine ax_q (q_ibin rfl rfl rfl) ?_
    exact ax_nil ⟨rfl, by repeat constructor⟩
   refine ax_q (q_mov rfl) ?_
   apply ax_or rfl rfl
   ·
    intro g
    have g := (fun h => And.intro (bF (or_F h).1) (nF (or_F h).2)) g
    refine ax_q (q_fadr_ptr rfl) ?_
    refine ax_q (q_load1_ptr rfl rfl rfl) ?_
    refine ax_q (q_fadr_ptr rfl) ?_
    refine ax_q (q_load1_ptr rfl rfl rfl) ?_
    refine ax_q (q_ibin rfl rfl rfl) ?_
    exact ax_nil ⟨rfl, by repeat constructor⟩
   refine ax_q (q_mov rfl) ?_
   apply ax_or rfl rfl
   ·
    intro g
    have g := (fun h => And.intro ((fun h => And.intro (bF (or_F h).1) (nF (or_F h).2)) (or_F h).1) (dF (or_F h).2)) g
    refine ax_q (q_mov rfl) ?_
    refine ax_q (q_ibin rfl rfl rfl) ?_
    refine ax_q (q_mov rfl) ?_
    apply ax_and rfl rfl
    ·
     intro g
     have g := dT g
     refine ax_q (q_fadr_ptr rfl) ?_
     refine ax_q (q_load1_ptr rfl rfl rfl) ?_
     refine ax_q (q_mov rfl) ?_
     refine ax_qe (r' := int ((k - 1 : Nat) : Int)) (q_ibin rfl rfl rfl) (by rw [wi (by omega) (by omega)]; exact congrArg AM.int (by omega)) ?_
     refine ax_q (q_ix rfl rfl (mapAtZ (z := .zero) (by omega))) ?_
     first | refine ax_q (q_fadr_ptr rfl) ?_ | refine ax_q (q_fadr_rptr rfl) ?_ | refine ax_q (q_fadr_ip rfl) ?_
     first | refine ax_q (q_load1_ptr rfl rfl rfl) ?_ | refine ax_q (q_load1_ip rfl) ?_
     refine ax_q (q_fadr_ptr rfl) ?_
     refine ax_q (q_load1_ptr rfl rfl rfl) ?_
     refine ax_q (q_ibin rfl rfl rfl) ?_
     exact ax_nil ⟨rfl, by repeat constructor⟩
    exact ax_nil ⟨rfl, by repeat constructor⟩
   refine ax_nil (cx_keep rfl rfl ?_)
   refine cx_cond rfl (fun h2 => ?_) (fun h2 => ?_)
   ·
    have h2 : rec2Bad s k s.Log[k] (s.Log.getD (k - 1) .zero).Epoch = true := h2
    have hbad := rec2_t h1x he h2
    refine cx_seq (cx_ops ?_)
    refine ax_q (q_mov rfl) ?_
    refine ax_nil (cx_keep rfl rfl ?_)
    refine cx_ret (ret0 rfl rfl ?_)
    exact ⟨by rw [hbad]; rfl, rfl⟩
   ·
    have h2 : rec2Bad s k s.Log[k] (s.Log.getD (k - 1) .zero).Epoch = false := h2
    have hst := rec2_f h1x h2
    refine cx_skip ?_
    refine cx_keep rfl rfl (cx_ops ?_)
    refine ax_q (q_mov rfl) ?_
    refine ax_qe (r' := int ((k + 1 : Nat) : Int)) (q_ibin rfl rfl rfl) (by rw [wi (by omega) (by omega)]; rfl) ?_
    refine ax_q (q_mov rfl) ?_
    refine ax_nil ?_
    exact ⟨_, k + 1, by omega, ⟨by omega, rfl, by rw [he, epochs_step h1x, hst.2.2, Bool.true_and, lowAt_s h1x], fun i h hi => by
     rcases Nat.lt_succ_iff_lt_or_eq.1 hi with q | rfl
     ·
      exact hr i h q
     ·
      exact ⟨hst.1, hst.2.1⟩⟩, by repeat constructor⟩
  ·
   have h1 := dF h1
   obtain rfl : k = s.Log.length := by omega
   rw [epochs_end] at he
   have hg : goodA s.Log = true := goodA_iff.2 (fun i h => hr i h h)
   have h0g := badHd_f HD hg
   refine cx_exit rfl ?_
   refine cx_keep rfl rfl (cx_seq (cx_seq (cx_ops ?_)))
   refine ax_q (q_mov rfl) ?_
   refine ax_nil (cx_keep rfl rfl (cx_block ?_))
   refine cx_loopU (fun n k => k ≤ s.Frames.length ∧ n = s.Frames.length - k ∧ ∀ j (hj : j < s.Frames.length), j < k → frameBad s j s.Frames[j] = false) (fun k : Nat => [(5, int k)]) (fun _ => [(1, .box (s.row.map .d))]) ⟨_, 0, ⟨Nat.zero_le _, rfl, fun j _ hj => by omega⟩, by repeat constructor⟩ ?_
   rintro n k ⟨hk, rfl, hb⟩
   refine cx_seq (cx_seq (cx_ops ?_))
   refine ax_q (q_mov rfl) ?_
   refine ax_q (q_fadr_ptr rfl) ?_
   refine ax_q (q_load1_ptr rfl rfl rfl) ?_
   refine ax_q (q_lenS_map rfl) ?_
   refine ax_q (q_ibin rfl rfl rfl) ?_
   refine ax_nil (cx_keep rfl rfl ?_)
   refine cx_cond rfl (fun h3 => ?_) (fun h3 => ?_)
   ·
    have h3 := dT h3
    have h0x : k < s.Frames.length := by omega
    have hwk := hb0.sw _ (List.getElem_mem h0x)
    have hsk := hb0.sl _ (List.getElem_mem h0x)
    refine cx_skip ?_
    refine cx_keep rfl rfl (cx_seq (cx_block (cx_seq (cx_ops ?_))))
    refine ax_q (q_fadr_ptr rfl) ?_
    refine ax_q (q_load1_ptr rfl rfl rfl) ?_
    refine ax_q (q_mov rfl) ?_
    refine ax_q (q_ix rfl rfl (mapAt h0x)) ?_
    first | refine ax_q (q_ldN rfl rfl rfl) ?_ | refine ax_q (q_loadN_ip rfl (Nat.le_refl _)) ?_
    refine ax_e (e_alloc (by decide) rfl rfl) ?_
    refine ax_e (e_st rfl rfl rfl rfl rfl rfl rfl) ?_
    refine ax_nil (cx_keep rfl rfl (cx_seq (cx_ops ?_)))
    refine ax_q (q_fadr_ptr rfl) ?_
    refine ax_q (q_load1_ptr rfl rfl rfl) ?_
    refine ax_call rfl (vc_pure0 (c_l01In  ) hP rfl rfl ?_)
    refine ax_q (q_not rfl) ?_
    refine ax_q (q_mov rfl) ?_
    apply ax_or rfl rfl
    ·
     intro g
     have g := bF g
     refine ax_q (q_fadr_ptr rfl) ?_
     refine ax_q (q_ldN rfl rfl rfl) ?_
     refine ax_call rfl (vc_pure0 (c_sPageOK (p := s.Frames[k].Page) ?_) hP rfl rfl ?_)
     ·
      assumption
     refine ax_q (q_not rfl) ?_
     exact ax_nil ⟨rfl, by repeat constructor⟩
    refine ax_q (q_mov rfl) ?_
    apply ax_or rfl rfl
    ·
     intro g
     have g := (fun h => And.intro (bF (or_F h).1) (bF (or_F h).2)) g
     refine ax_q (q_fadr_ptr rfl) ?_
     refine ax_q (q_fadr_ptr rfl) ?_
     refine ax_q (q_load1_ptr rfl rfl rfl) ?_
     refine ax_q (q_fadr_ptr rfl) ?_
     refine ax_q (q_load1_ptr rfl rfl rfl) ?_
     refine ax_q (q_lenS_map rfl) ?_
     refine ax_q (q_ibin rfl rfl rfl) ?_
     exact ax_nil ⟨rfl, by repeat constructor⟩
    refine ax_q (q_mov rfl) ?_
    apply ax_or rfl rfl
    ·
     intro g
     have g := (fun h => And.intro ((fun h => And.intro (bF (or_F h).1) (bF (or_F h).2)) (or_F h).1) (dF (or_F h).2)) g
     refine ax_q (q_fadr_ptr rfl) ?_
     refine ax_q (q_load1_ptr rfl rfl rfl) ?_
     refine ax_q (q_fadr_ptr rfl) ?_
     refine ax_q (q_load1_ptr rfl rfl rfl) ?_
     refine ax_q (q_lenS_map rfl) ?_
     refine ax_call rfl (vc_pure0 (c_l01In  ) hP rfl rfl ?_)
     refine ax_q (q_not rfl) ?_
     exact ax_nil ⟨rfl, by repeat constructor⟩
    refine ax_q (q_mov rfl) ?_
    apply ax_or rfl rfl
    ·
     intro g
     have g := (fun h => And.intro ((fun h => And.intro ((fun h => And.intro (bF (or_F h).1) (bF (or_F h).2)) (or_F h).1) (dF (or_F h).2)) (or_F h).1) (bF (or_F h).2)) g
     refine ax_q (q_fadr_ptr rfl) ?_
     refine ax_q (q_load1_ptr rfl rfl rfl) ?_
     refine ax_q (q_fadr_ptr rfl) ?_
     refine ax_q (q_load1_ptr rfl rfl rfl) ?_
     refine ax_q (q_ibin rfl rfl rfl) ?_
     refine ax_q (q_eqb rfl rfl) ?_
     exact ax_nil ⟨rfl, by repeat constructor⟩
    refine ax_q (q_mov rfl) ?_
    apply ax_or rfl rfl
    ·
     intro g
     have g := (fun h => And.intro ((fun h => And.intro ((fun h => And.intro ((fun h => And.intro (bF (or_F h).1) (bF (or_F h).2)) (or_F h).1) (dF (or_F h).2)) (or_F h).1) (bF (or_F h).2)) (or_F h).1) (bneF (or_F h).2)) g
     refine ax_q (q_ldN rfl rfl rfl) ?_
     refine ax_q (q_fadr_ptr rfl) ?_
     refine ax_q (q_load1_ptr rfl rfl rfl) ?_
     refine ax_call rfl (vc_pure0 (c_l05Frame (s := s) (no := s.Frames[k].No) ?_) hP rfl rfl ?_)
     ·
      assumption
     refine ax_q (q_mov rfl) ?_
     refine ax_q (q_ibin rfl rfl rfl) ?_
     exact ax_nil ⟨rfl, by repeat constructor⟩
    refine ax_nil (cx_keep rfl rfl ?_)
    refine cx_cond rfl (fun h4 => ?_) (fun h4 => ?_)
    ·
     have h4 : frameBad2 s k s.Frames[k] = true := h4
     rw [frameBad_eq] at h4
     refine cx_seq (cx_ops ?_)
     refine ax_q (q_mov rfl) ?_
     refine ax_nil (cx_keep rfl rfl ?_)
     refine cx_ret (ret0 rfl rfl ?_)
     exact ⟨by rw [storeOK_f (frames_no h0x h4)]; rfl, rfl⟩
    ·
     have hbk : frameBad2 s k s.Frames[k] = false := h4
     rw [frameBad_eq] at hbk
     refine cx_skip ?_
     refine cx_keep rfl rfl (cx_ops ?_)
     refine ax_q (q_mov rfl) ?_
     refine ax_qe (r' := int ((k + 1 : Nat) : Int)) (q_ibin rfl rfl rfl) (by rw [wi (by omega) (by omega)]; rfl) ?_
     refine ax_q (q_mov rfl) ?_
     refine ax_nil ?_
     exact ⟨_, k + 1, by omega, ⟨by omega, rfl, fun j hj hjk => by
      rcases Nat.lt_succ_iff_lt_or_eq.1 hjk with q | rfl
      ·
       exact hb j hj q
      ·
       exact hbk⟩, by repeat constructor⟩
   ·
    have h3 := dF h3
    have hfa := frames_all (s := s) (fun j hj => hb j hj (by omega))
    refine cx_exit rfl ?_
    refine cx_keep rfl rfl (cx_seq (cx_seq (cx_ops ?_)))
    refine ax_q (q_mov rfl) ?_
    refine ax_nil (cx_keep rfl rfl (cx_block ?_))
    refine cx_loopU (fun n k => k ≤ 8 ∧ n = 8 - k ∧ ∀ j, j < k → pageBad s j = false) (fun k : Nat => [(7, int k)]) (fun _ => [(1, .box (s.row.map .d))]) ⟨_, 0, ⟨Nat.zero_le _, rfl, fun j hj => by omega⟩, by repeat constructor⟩ ?_
    rintro n k ⟨hk, rfl, hp⟩
    refine cx_seq (cx_seq (cx_ops ?_))
    refine ax_q (q_mov rfl) ?_
    refine ax_q (q_ibin rfl rfl rfl) ?_
    refine ax_nil (cx_keep rfl rfl ?_)
    refine cx_cond rfl (fun h5 => ?_) (fun h5 => ?_)
    ·
     have h5 := dT h5
     have h5x : k < 8 := by omega
     refine cx_skip ?_
     refine cx_keep rfl rfl (cx_seq (cx_block (cx_seq (cx_ops ?_))))
     refine ax_q (q_fadr_ptr rfl) ?_
     refine ax_q (q_ldN rfl rfl rfl) ?_
     refine ax_q (q_mov rfl) ?_
     refine ax_call rfl (vc_pure0 (c_l05Page (d := s.Disk) (no := k) ?_ ?_ ?_) hP rfl rfl ?_)
     ·
      exact HD.di
     ·
      exact HD.se
     ·
      assumption
     refine ax_q (q_mov rfl) ?_
     refine ax_q (q_ext rfl rfl) ?_
     refine ax_q (q_ext rfl rfl) ?_
     refine ax_e (e_alloc (by decide) rfl rfl) ?_
     refine ax_e (e_st rfl rfl rfl rfl rfl rfl rfl) ?_
     refine ax_q (q_mov rfl) ?_
     refine ax_nil (cx_keep rfl rfl (cx_seq (cx_ops ?_)))
     refine ax_q (q_mov rfl) ?_
     refine ax_q (q_not rfl) ?_
     refine ax_q (q_mov rfl) ?_
     apply ax_or rfl rfl
     ·
      intro g
      have g := bF g
      refine ax_q (q_fadr_ptr rfl) ?_
      refine ax_q (q_load1_ptr rfl rfl rfl) ?_
      refine ax_q (q_fadr_ptr rfl) ?_
      refine ax_q (q_load1_ptr rfl rfl rfl) ?_
      refine ax_q (q_ibin rfl rfl rfl) ?_
      exact ax_nil ⟨rfl, by repeat constructor⟩
     refine ax_nil (cx_keep rfl rfl ?_)
     refine cx_cond rfl (fun h6 => ?_) (fun h6 => ?_)
     ·
      have h6 : pageBad s k = true := h6
      refine cx_seq (cx_ops ?_)
      refine ax_q (q_mov rfl) ?_
      refine ax_nil (cx_keep rfl rfl ?_)
      refine cx_ret (ret0 rfl rfl ?_)
      exact ⟨by rw [storeOK_p (pagesOK_no h5x h6)]; rfl, rfl⟩
     ·
      have hpk : pageBad s k = false := h6
      refine cx_skip ?_
      refine cx_keep rfl rfl (cx_ops ?_)
      refine ax_q (q_mov rfl) ?_
      refine ax_qe (r' := int ((k + 1 : Nat) : Int)) (q_ibin rfl rfl rfl) (by rw [wi (by omega) (by omega)]; rfl) ?_
      refine ax_q (q_mov rfl) ?_
      refine ax_nil ?_
      exact ⟨_, k + 1, by omega, ⟨by omega, rfl, fun j hjk => by
       rcases Nat.lt_succ_iff_lt_or_eq.1 hjk with q | rfl
       ·
        exact hp j q
       ·
        exact hpk⟩, by repeat constructor⟩
    ·
     have h5 := dF h5
     have hpo := pagesOK_all (s := s) (fun j hj => hp j (by omega))
     refine cx_exit rfl ?_
     refine cx_keep rfl rfl (cx_seq (cx_ops ?_))
     refine ax_q (q_mov rfl) ?_
     refine ax_nil (cx_keep rfl rfl ?_)
     refine cx_ret (ret0 rfl rfl ?_)
     exact ⟨by rw [storeOK_t h0g he hpo, hfa, decide_eq_true (show (s.Frames.length : Int) ≤ 3 by omega), show inR s.Hand 0 (3 - 1) = true from inR_iff.2 ⟨hh.1, by omega⟩]; rfl, rfl⟩


/- loop.example/g00332/spec.l06Ask -/
def k_c_l06Ask : XCode :=
 .seq (.ops [.op (some 8) (.mov (.k (.bool false)))])
 (.keep [0, 1, 2, 3] (.seq (.ops [.op (some 9) (.mov (.t 0)),
   .call (some 10) 37 [.t 9, .k (.int .i64 1), .k (.int .i64 60)],
   .op (some 11) (.mov (.t 10)),
   .andor 14 true 2 11 [.op (some 12) (.mov (.t 1)), .call (some 13) 37 [.t 12, .k (.int .i64 1), .k (.int .i64 3)]] (.t 13),
   .op (some 15) (.mov (.t 14)),
   .andor 18 true 6 15 [.op (some 16) (.mov (.t 2)), .call (some 17) 37 [.t 16, .k (.int .i64 (-1)), .k (.int .i64 1000)]] (.t 17),
   .op (some 19) (.mov (.t 18)),
   .andor 22 true 10 19 [.op (some 20) (.mov (.t 3)), .call (some 21) 37 [.t 20, .k (.int .i64 1), .k (.int .i64 4)]] (.t 21),
   .op (some 23) (.mov (.t 22)),
   .andor 30 true 14 23 [.op (some 24) (.mov (.t 2)), .op (some 25) (.bin .eql (.t 24) (.k (.int .i64 (-1)))), .op (some 26) (.mov (.t 25)), .andor 29 false 17 26 [.op (some 27) (.mov (.t 3)), .op (some 28) (.bin .geq (.t 27) (.k (.int .i64 3)))] (.t 28)] (.t 29),
   .op (some 8) (.mov (.t 30))])
 (.keep [8] (.ret))))
theorem k_c_l06Ask_fits : fitsF Tryz.prog 86 ⟨31, k_c_l06Ask, [.t 8]⟩ = true := by kernel_rfl
theorem c_l06Ask {a : GLock} : Con Tryz.prog noMv 86 [int a.Tx, int a.Table, int a.Row, int a.Mode] [] (fun r h => r = bool (lockOK a) ∧ h = []) := by
 refine con_of2 k_c_l06Ask_fits rfl fun C hP hmv => ?_
 unfold k_c_l06Ask
 refine cx_seq (cx_ops ?_)
 refine ax_q (q_mov rfl) ?_
 refine ax_nil (cx_keep rfl rfl (cx_seq (cx_ops ?_)))
 refine ax_q (q_mov rfl) ?_
 refine ax_call rfl (vc_pure0 (c_l01In  ) hP rfl rfl ?_)
 refine ax_q (q_mov rfl) ?_
 apply ax_and rfl rfl
 ·
  intro g
  refine ax_q (q_mov rfl) ?_
  refine ax_call rfl (vc_pure0 (c_l01In  ) hP rfl rfl ?_)
  exact ax_nil ⟨rfl, by repeat constructor⟩
 refine ax_q (q_mov rfl) ?_
 apply ax_and rfl rfl
 ·
  intro g
  have g := (fun h => And.intro (id (and_T h).1) (id (and_T h).2)) g
  refine ax_q (q_mov rfl) ?_
  refine ax_call rfl (vc_pure0 (c_l01In  ) hP rfl rfl ?_)
  exact ax_nil ⟨rfl, by repeat constructor⟩
 refine ax_q (q_mov rfl) ?_
 apply ax_and rfl rfl
 ·
  intro g
  have g := (fun h => And.intro ((fun h => And.intro (id (and_T h).1) (id (and_T h).2)) (and_T h).1) (id (and_T h).2)) g
  refine ax_q (q_mov rfl) ?_
  refine ax_call rfl (vc_pure0 (c_l01In  ) hP rfl rfl ?_)
  exact ax_nil ⟨rfl, by repeat constructor⟩
 refine ax_q (q_mov rfl) ?_
 apply ax_and rfl rfl
 ·
  intro g
  have g := (fun h => And.intro ((fun h => And.intro ((fun h => And.intro (id (and_T h).1) (id (and_T h).2)) (and_T h).1) (id (and_T h).2)) (and_T h).1) (id (and_T h).2)) g
  refine ax_q (q_mov rfl) ?_
  refine ax_q (q_ibin rfl rfl rfl) ?_
  refine ax_q (q_mov rfl) ?_
  apply ax_or rfl rfl
  ·
   intro g
   have g := dF g
   refine ax_q (q_mov rfl) ?_
   refine ax_q (q_ibin rfl rfl rfl) ?_
   exact ax_nil ⟨rfl, by repeat constructor⟩
  exact ax_nil ⟨rfl, by repeat constructor⟩
 refine ax_q (q_mov rfl) ?_
 refine ax_nil (cx_keep rfl rfl ?_)
 refine cx_ret (ret0 rfl rfl ?_)
 exact ⟨congrArg AM.bool (by exact askEq a), rfl⟩


/- loop.example/g00332/spec.l06Fit -/
def k_c_l06Fit : XCode :=
 .seq (.ops [.op (some 4) (.mov (.k (.bool false)))])
 (.keep [0, 1] (.seq (.block 0 (.seq (.ops [.op (some 6) (.mov (.t 0)),
    .op (some 7) (.bin .eql (.t 6) (.k (.int .i64 4))),
    .op (some 8) (.mov (.t 7)),
    .andor 11 false 2 8 [.op (some 9) (.mov (.t 1)), .op (some 10) (.bin .eql (.t 9) (.k (.int .i64 4)))] (.t 10),
    .op (some 5) (.mov (.t 11))])
  (.keep [0, 1, 5] (.cond (.t 5)
   (.seq (.ops [.op (some 4) (.mov (.k (.bool false)))])
   (.keep [4] (.ret)))
   (.seq (.ops [.op (some 13) (.mov (.t 0)),
     .op (some 14) (.bin .eql (.t 13) (.k (.int .i64 1))),
     .op (some 15) (.mov (.t 14)),
     .andor 18 false 2 15 [.op (some 16) (.mov (.t 1)), .op (some 17) (.bin .eql (.t 16) (.k (.int .i64 1)))] (.t 17),
     .op (some 12) (.mov (.t 18))])
   (.keep [0, 1, 12] (.cond (.t 12)
    (.seq (.ops [.op (some 4) (.mov (.k (.bool true)))])
    (.keep [4] (.ret)))
    (.skip))))))))
 (.keep [0, 1] (.seq (.ops [.op (some 19) (.mov (.t 0)),
   .op (some 20) (.mov (.t 1)),
   .op (some 21) (.bin .eql (.t 19) (.t 20)),
   .op (some 4) (.mov (.t 21))])
 (.keep [4] (.ret))))))
theorem k_c_l06Fit_fits : fitsF Tryz.prog 87 ⟨22, k_c_l06Fit, [.t 4]⟩ = true := by kernel_rfl
theorem c_l06Fit {a b : Int} : Con Tryz.prog noMv 87 [int a, int b] [] (fun r h => r = bool (modesFit a b) ∧ h = []) := by
 refine con_of2 k_c_l06Fit_fits rfl fun C hP hmv => ?_
 unfold k_c_l06Fit
 refine cx_seq (cx_ops ?_)
 refine ax_q (q_mov rfl) ?_
 refine ax_nil (cx_keep rfl rfl (cx_seq (cx_block (cx_seq (cx_ops ?_)))))
 refine ax_q (q_mov rfl) ?_
 refine ax_q (q_ibin rfl rfl rfl) ?_
 refine ax_q (q_mov rfl) ?_
 apply ax_or rfl rfl
 ·
  intro g
  have g := dF g
  refine ax_q (q_mov rfl) ?_
  refine ax_q (q_ibin rfl rfl rfl) ?_
  exact ax_nil ⟨rfl, by repeat constructor⟩
 refine ax_q (q_mov rfl) ?_
 refine ax_nil (cx_keep rfl rfl ?_)
 refine cx_cond rfl (fun h0 => ?_) (fun h0 => ?_)
 ·
  have h0 := (fun h => (or_T h).imp dT dT) h0
  refine cx_seq (cx_ops ?_)
  refine ax_q (q_mov rfl) ?_
  refine ax_nil (cx_keep rfl rfl ?_)
  refine cx_ret (ret0 rfl rfl ?_)
  exact ⟨congrArg AM.bool (by rw [← fit_eq]; unfold l06Fit; rw [if_pos h0]), rfl⟩
 ·
  have h0 := (fun h => And.intro (dF (or_F h).1) (dF (or_F h).2)) h0
  refine cx_seq (cx_ops ?_)
  refine ax_q (q_mov rfl) ?_
  refine ax_q (q_ibin rfl rfl rfl) ?_
  refine ax_q (q_mov rfl) ?_
  apply ax_or rfl rfl
  ·
   intro g
   have g := dF g
   refine ax_q (q_mov rfl) ?_
   refine ax_q (q_ibin rfl rfl rfl) ?_
   exact ax_nil ⟨rfl, by repeat constructor⟩
  refine ax_q (q_mov rfl) ?_
  refine ax_nil (cx_keep rfl rfl ?_)
  refine cx_cond rfl (fun h1 => ?_) (fun h1 => ?_)
  ·
   have h1 := (fun h => (or_T h).imp dT dT) h1
   refine cx_seq (cx_ops ?_)
   refine ax_q (q_mov rfl) ?_
   refine ax_nil (cx_keep rfl rfl ?_)
   refine cx_ret (ret0 rfl rfl ?_)
   exact ⟨congrArg AM.bool (by rw [← fit_eq]; unfold l06Fit; rw [if_neg (not_or.2 h0), if_pos h1]), rfl⟩
  ·
   have h1 := (fun h => And.intro (dF (or_F h).1) (dF (or_F h).2)) h1
   refine cx_skip ?_
   refine cx_keep rfl rfl (cx_seq (cx_ops ?_))
   refine ax_q (q_mov rfl) ?_
   refine ax_q (q_mov rfl) ?_
   refine ax_q (q_ibin rfl rfl rfl) ?_
   refine ax_q (q_mov rfl) ?_
   refine ax_nil (cx_keep rfl rfl ?_)
   refine cx_ret (ret0 rfl rfl ?_)
   exact ⟨congrArg AM.bool (by rw [← fit_eq]; unfold l06Fit; rw [if_neg (not_or.2 h0), if_neg (not_or.2 h1)]), rfl⟩


/- loop.example/g00332/spec.LocksOK -/
def k_c_sLocksOK : XCode :=
 .seq (.ops [.op (some 1) (.box (.t 0)),
   .op (some 2) (.mov (.k (.bool false)))])
 (.keep [1] (.seq (.seq (.ops [.op (some 9) (.fadr (.t 1) 0),
   .op (some 10) (.load1 (.t 9)),
   .op (some 11) (.lenS (.t 10)),
   .op (some 12) (.bin .gtr (.t 11) (.k (.int .i64 60))),
   .op (some 13) (.mov (.t 12)),
   .andor 18 false 4 13 [.op (some 14) (.fadr (.t 1) 1), .op (some 15) (.load1 (.t 14)), .op (some 16) (.lenS (.t 15)), .op (some 17) (.bin .gtr (.t 16) (.k (.int .i64 100)))] (.t 17)])
  (.keep [1, 18] (.cond (.t 18)
  (.seq (.ops [.op (some 2) (.mov (.k (.bool false)))])
   (.keep [2] (.ret)))
  (.skip))))
 (.keep [1] (.seq (.seq (.ops [.op (some 3) (.mov (.k (.int .i64 0)))])
  (.keep [1, 3] (.block 0 (.loop (.seq (.seq (.ops [.op (some 19) (.mov (.t 3)),
     .op (some 20) (.fadr (.t 1) 0),
     .op (some 21) (.load1 (.t 20)),
     .op (some 22) (.lenS (.t 21)),
     .op (some 23) (.bin .lss (.t 19) (.t 22))])
   (.keep [1, 3, 23] (.cond (.t 23)
    (.skip)
    (.exit 0))))
   (.keep [1, 3] (.seq (.block 1 (.seq (.ops [.op (some 26) (.fadr (.t 1) 0),
     .op (some 27) (.load1 (.t 26)),
     .op (some 28) (.mov (.t 3)),
     .op (some 29) (.iadr 4 (.t 27) (.t 28)),
     .op (some 30) (.loadN 4 (.t 29)),
     .op (some 4) (.alloc [.int .i64 0, .int .i64 0, .int .i64 0, .int .i64 0]),
     .op none (.store 4 (.t 4) (.t 30))])
    (.keep [1, 3, 4] (.seq (.seq (.ops [.op (some 31) (.fadr (.t 4) 0),
      .op (some 32) (.load1 (.t 31)),
      .op (some 33) (.fadr (.t 4) 1),
      .op (some 34) (.load1 (.t 33)),
      .op (some 35) (.fadr (.t 4) 2),
      .op (some 36) (.load1 (.t 35)),
      .op (some 37) (.fadr (.t 4) 3),
      .op (some 38) (.load1 (.t 37)),
      .call (some 39) 86 [.t 32, .t 34, .t 36, .t 38],
      .op (some 40) (.not (.t 39))])
    (.keep [1, 3, 4, 40] (.cond (.t 40)
     (.seq (.ops [.op (some 2) (.mov (.k (.bool false)))])
     (.keep [2] (.ret)))
     (.skip))))
    (.keep [1, 3, 4] (.seq (.ops [.op (some 5) (.mov (.k (.int .i64 0)))])
    (.keep [1, 3, 4, 5] (.block 2 (.loop (.seq (.seq (.ops [.op (some 41) (.mov (.t 5)),
       .op (some 42) (.mov (.t 3)),
       .op (some 43) (.bin .lss (.t 41) (.t 42))])
     (.keep [1, 3, 4, 5, 43] (.cond (.t 43)
      (.skip)
      (.exit 2))))
     (.keep [1, 3, 4, 5] (.seq (.block 3 (.seq (.ops [.op (some 46) (.fadr (.t 1) 0),
       .op (some 47) (.load1 (.t 46)),
       .op (some 48) (.mov (.t 5)),
       .op (some 49) (.iadr 4 (.t 47) (.t 48)),
       .op (some 50) (.loadN 4 (.t 49)),
       .op (some 6) (.alloc [.int .i64 0, .int .i64 0, .int .i64 0, .int .i64 0]),
       .op none (.store 4 (.t 6) (.t 50))])
      (.keep [1, 3, 4, 5, 6] (.seq (.ops [.op (some 51) (.fadr (.t 4) 1),
       .op (some 52) (.load1 (.t 51)),
       .op (some 53) (.fadr (.t 6) 1),
       .op (some 54) (.load1 (.t 53)),
       .op (some 55) (.bin .eql (.t 52) (.t 54)),
       .op (some 56) (.mov (.t 55)),
       .andor 62 true 5 56 [.op (some 57) (.fadr (.t 4) 2), .op (some 58) (.load1 (.t 57)), .op (some 59) (.fadr (.t 6) 2), .op (some 60) (.load1 (.t 59)), .op (some 61) (.bin .eql (.t 58) (.t 60))] (.t 61),
       .op (some 63) (.mov (.t 62)),
       .andor 82 true 12 63 [.op (some 64) (.loadN 4 (.t 4)), .op (some 65) (.loadN 4 (.t 6)), .op (some 66) (.eqs false [0, 0, 0, 0] (.t 64) (.t 65)), .op (some 67) (.mov (.t 66)), .andor 81 false 16 67 [.op (some 68) (.fadr (.t 4) 0), .op (some 69) (.load1 (.t 68)), .op (some 70) (.fadr (.t 6) 0), .op (some 71) (.load1 (.t 70)), .op (some 72) (.bin .neq (.t 69) (.t 71)), .op (some 73) (.mov (.t 72)), .andor 80 true 22 73 [.op (some 74) (.fadr (.t 4) 3), .op (some 75) (.load1 (.t 74)), .op (some 76) (.fadr (.t 6) 3), .op (some 77) (.load1 (.t 76)), .call (some 78) 87 [.t 75, .t 77], .op (some 79) (.not (.t 78))] (.t 79)] (.t 80)] (.t 81)])
      (.keep [1, 3, 4, 5, 82] (.cond (.t 82)
      (.seq (.ops [.op (some 2) (.mov (.k (.bool false)))])
       (.keep [2] (.ret)))
      (.skip)))))))
     (.keep [1, 3, 4, 5] (.ops [.op (some 44) (.mov (.t 5)),
      .op (some 45) (.bin .add (.t 44) (.k (.int .i64 1))),
      .op (some 5) (.mov (.t 45))]))))))))))))))
   (.keep [1, 3] (.ops [.op (some 24) (.mov (.t 3)),
    .op (some 25) (.bin .add (.t 24) (.k (.int .i64 1))),
    .op (some 3) (.mov (.t 25))])))))))))
 (.keep [1] (.seq (.seq (.ops [.op (some 7) (.mov (.k (.int .i64 0)))])
  (.keep [1, 7] (.block 4 (.loop (.seq (.seq (.ops [.op (some 83) (.mov (.t 7)),
     .op (some 84) (.fadr (.t 1) 1),
     .op (some 85) (.load1 (.t 84)),
     .op (some 86) (.lenS (.t 85)),
     .op (some 87) (.bin .lss (.t 83) (.t 86))])
   (.keep [1, 7, 87] (.cond (.t 87)
    (.skip)
    (.exit 4))))
   (.keep [1, 7] (.seq (.block 5 (.seq (.ops [.op (some 90) (.fadr (.t 1) 1),
     .op (some 91) (.load1 (.t 90)),
     .op (some 92) (.mov (.t 7)),
     .op (some 93) (.iadr 2 (.t 91) (.t 92)),
     .op (some 94) (.loadN 2 (.t 93)),
     .op (some 8) (.alloc [.int .i64 0, .int .i64 0]),
     .op none (.store 2 (.t 8) (.t 94))])
    (.keep [1, 7, 8] (.seq (.ops [.op (some 95) (.fadr (.t 8) 0),
     .op (some 96) (.load1 (.t 95)),
     .call (some 97) 37 [.t 96, .k (.int .i64 1), .k (.int .i64 60)],
     .op (some 98) (.not (.t 97)),
     .op (some 99) (.mov (.t 98)),
     .andor 104 false 4 99 [.op (some 100) (.fadr (.t 8) 1), .op (some 101) (.load1 (.t 100)), .call (some 102) 37 [.t 101, .k (.int .i64 1), .k (.int .i64 60)], .op (some 103) (.not (.t 102))] (.t 103),
     .op (some 105) (.mov (.t 104)),
     .andor 111 false 10 105 [.op (some 106) (.fadr (.t 8) 0), .op (some 107) (.load1 (.t 106)), .op (some 108) (.fadr (.t 8) 1), .op (some 109) (.load1 (.t 108)), .op (some 110) (.bin .eql (.t 107) (.t 109))] (.t 110)])
    (.keep [1, 7, 111] (.cond (.t 111)
    (.seq (.ops [.op (some 2) (.mov (.k (.bool false)))])
     (.keep [2] (.ret)))
    (.skip)))))))
   (.keep [1, 7] (.ops [.op (some 88) (.mov (.t 7)),
    .op (some 89) (.bin .add (.t 88) (.k (.int .i64 1))),
    .op (some 7) (.mov (.t 89))])))))))))
 (.keep [] (.seq (.ops [.op (some 2) (.mov (.k (.bool true)))])
 (.keep [2] (.ret))))))))))
theorem k_c_sLocksOK_fits : fitsF Tryz.prog 36 ⟨112, k_c_sLocksOK, [.t 2]⟩ = true := by kernel_rfl
theorem c_sLocksOK {l : GLocks} (hw0 : l.Held.length ≤ 1048576) (hw1 : l.Waits.length ≤ 1048576) (hl : wfL GLock.wf l.Held) : Con Tryz.prog noMv 36 [l.av] [] (fun r h => r = bool (locksOK l) ∧ h = []) := by
 refine con_of2 k_c_sLocksOK_fits rfl fun C hP hmv => ?_
 unfold k_c_sLocksOK
 refine cx_seq (cx_ops ?_)
 refine ax_e (e_box rfl rfl (by decide) rfl rfl rfl) ?_
 refine ax_q (q_mov rfl) ?_
 refine ax_nil (cx_keep rfl rfl (cx_seq (cx_seq (cx_ops ?_))))
 refine ax_q (q_fadr_ptr rfl) ?_
 refine ax_q (q_load1_ptr rfl rfl rfl) ?_
 refine ax_q (q_lenS_map rfl) ?_
 refine ax_q (q_ibin rfl rfl rfl) ?_
 refine ax_q (q_mov rfl) ?_
 apply ax_or rfl rfl
 ·
  intro g
  have g := dF g
  refine ax_q (q_fadr_ptr rfl) ?_
  refine ax_q (q_load1_ptr rfl rfl rfl) ?_
  refine ax_q (q_lenS_map rfl) ?_
  refine ax_q (q_ibin rfl rfl rfl) ?_
  exact ax_nil ⟨rfl, by repeat constructor⟩
 refine ax_nil (cx_keep rfl rfl ?_)
 refine cx_cond rfl (fun h0 => ?_) (fun h0 => ?_)
 ·
  have h0 := (fun h => (or_T h).imp dT dT) h0
  refine cx_seq (cx_ops ?_)
  refine ax_q (q_mov rfl) ?_
  refine ax_nil (cx_keep rfl rfl ?_)
  refine cx_ret (ret0 rfl rfl ?_)
  have e : locksOK l = false := by
   unfold locksOK
   rcases h0 with h | h
   ·
    rw [decide_eq_false (show ¬ ((l.Held.length : Int) ≤ 60) from by omega)]; simp
   ·
    rw [decide_eq_false (show ¬ ((l.Waits.length : Int) ≤ 100) from by omega)]; simp
  exact ⟨by rw [e]; rfl, rfl⟩
 ·
  have h0 := (fun h => And.intro (dF (or_F h).1) (dF (or_F h).2)) h0
  refine cx_skip ?_
  refine cx_keep rfl rfl (cx_seq (cx_seq (cx_ops ?_)))
  refine ax_q (q_mov rfl) ?_
  refine ax_nil (cx_keep rfl rfl (cx_block ?_))
  refine cx_loopU (fun n k => k ≤ l.Held.length ∧ n = l.Held.length - k ∧ allIx (okAt l.Held) k = true) (fun k : Nat => [(3, int k)]) (fun _ => [(1, .box [.d (.sl 4 (l.Held.map GLock.row)), .d (.sl 2 (l.Waits.map GWait.row))])]) ⟨_, 0, ⟨Nat.zero_le _, rfl, rfl⟩, by repeat constructor⟩ ?_
  rintro n k ⟨hk, rfl, ht⟩
  refine cx_seq (cx_seq (cx_ops ?_))
  refine ax_q (q_mov rfl) ?_
  refine ax_q (q_fadr_ptr rfl) ?_
  refine ax_q (q_load1_ptr rfl rfl rfl) ?_
  refine ax_q (q_lenS_map rfl) ?_
  refine ax_q (q_ibin rfl rfl rfl) ?_
  refine ax_nil (cx_keep rfl rfl ?_)
  refine cx_cond rfl (fun h1 => ?_) (fun h1 => ?_)
  ·
   have h1 := dT h1
   have h1x : k < l.Held.length := by omega
   refine cx_skip ?_
   refine cx_keep rfl rfl (cx_seq (cx_block (cx_seq (cx_ops ?_))))
   refine ax_q (q_fadr_ptr rfl) ?_
   refine ax_q (q_load1_ptr rfl rfl rfl) ?_
   refine ax_q (q_mov rfl) ?_
   refine ax_q (q_ix rfl rfl (mapAt h1x)) ?_
   first | refine ax_q (q_ldN rfl rfl rfl) ?_ | refine ax_q (q_loadN_ip rfl (Nat.le_refl _)) ?_
   refine ax_e (e_alloc (by decide) rfl rfl) ?_
   refine ax_e (e_st rfl rfl rfl rfl rfl rfl rfl) ?_
   refine ax_nil (cx_keep rfl rfl (cx_seq (cx_seq (cx_ops ?_))))
   refine ax_q (q_fadr_ptr rfl) ?_
   refine ax_q (q_load1_ptr rfl rfl rfl) ?_
   refine ax_q (q_fadr_ptr rfl) ?_
   refine ax_q (q_load1_ptr rfl rfl rfl) ?_
   refine ax_q (q_fadr_ptr rfl) ?_
   refine ax_q (q_load1_ptr rfl rfl rfl) ?_
   refine ax_q (q_fadr_ptr rfl) ?_
   refine ax_q (q_load1_ptr rfl rfl rfl) ?_
   refine ax_call rfl (vc_pure0 (c_l06Ask (a := l.Held[k]) ) hP rfl rfl ?_)
   refine ax_q (q_not rfl) ?_
   refine ax_nil (cx_keep rfl rfl ?_)
   refine cx_cond rfl (fun h2 => ?_) (fun h2 => ?_)
   ·
    have h2 := bT h2
    refine cx_seq (cx_ops ?_)
    refine ax_q (q_mov rfl) ?_
    refine ax_nil (cx_keep rfl rfl ?_)
    refine cx_ret (ret0 rfl rfl ?_)
    exact ⟨by rw [show locksOK l = false from by unfold locksOK; rw [allIx_no h1x (by rw [okAt_get h1x, h2]; rfl)]; rfl]; rfl, rfl⟩
   ·
    have h2 := bF h2
    refine cx_skip ?_
    refine cx_keep rfl rfl (cx_seq (cx_ops ?_))
    refine ax_q (q_mov rfl) ?_
    refine ax_nil (cx_keep rfl rfl (cx_block ?_))
    refine cx_loopU (fun n i => i ≤ k ∧ n = k - i ∧ ∀ j, j < i → ∀ x, l.Held[j]? = some x → twice l.Held[k] x = false) (fun i : Nat => [(5, int i)]) (fun _ => [(1, .box [.d (.sl 4 (l.Held.map GLock.row)), .d (.sl 2 (l.Waits.map GWait.row))]), (4, .box [.d (.int .i64 l.Held[k].Tx), .d (.int .i64 l.Held[k].Table), .d (.int .i64 l.Held[k].Row), .d (.int .i64 l.Held[k].Mode)])]) ⟨_, 0, ⟨Nat.zero_le _, rfl, fun j hj => by omega⟩, by repeat constructor⟩ ?_
    rintro n i ⟨hi, rfl, hb⟩
    refine cx_seq (cx_seq (cx_ops ?_))
    refine ax_q (q_mov rfl) ?_
    refine ax_q (q_mov rfl) ?_
    refine ax_q (q_ibin rfl rfl rfl) ?_
    refine ax_nil (cx_keep rfl rfl ?_)
    refine cx_cond rfl (fun h3 => ?_) (fun h3 => ?_)
    ·
     have h3 := dT h3
     have h3x : i < l.Held.length := by omega
     refine cx_skip ?_
     refine cx_keep rfl rfl (cx_seq (cx_block (cx_seq (cx_ops ?_))))
     refine ax_q (q_fadr_ptr rfl) ?_
     refine ax_q (q_load1_ptr rfl rfl rfl) ?_
     refine ax_q (q_mov rfl) ?_
     refine ax_q (q_ix rfl rfl (mapAt h3x)) ?_
     first | refine ax_q (q_ldN rfl rfl rfl) ?_ | refine ax_q (q_loadN_ip rfl (Nat.le_refl _)) ?_
     refine ax_e (e_alloc (by decide) rfl rfl) ?_
     refine ax_e (e_st rfl rfl rfl rfl rfl rfl rfl) ?_
     refine ax_nil (cx_keep rfl rfl (cx_seq (cx_ops ?_)))
     refine ax_q (q_fadr_ptr rfl) ?_
     refine ax_q (q_load1_ptr rfl rfl rfl) ?_
     refine ax_q (q_fadr_ptr rfl) ?_
     refine ax_q (q_load1_ptr rfl rfl rfl) ?_
     refine ax_q (q_ibin rfl rfl rfl) ?_
     refine ax_q (q_mov rfl) ?_
     apply ax_and rfl rfl
     ·
      intro g
      have g := dT g
      refine ax_q (q_fadr_ptr rfl) ?_
      refine ax_q (q_load1_ptr rfl rfl rfl) ?_
      refine ax_q (q_fadr_ptr rfl) ?_
      refine ax_q (q_load1_ptr rfl rfl rfl) ?_
      refine ax_q (q_ibin rfl rfl rfl) ?_
      exact ax_nil ⟨rfl, by repeat constructor⟩
     refine ax_q (q_mov rfl) ?_
     apply ax_and rfl rfl
     ·
      intro g
      have g := (fun h => And.intro (dT (and_T h).1) (dT (and_T h).2)) g
      refine ax_q (q_ldN rfl rfl rfl) ?_
      refine ax_q (q_ldN rfl rfl rfl) ?_
      refine ax_q (GLock.q_eqs rfl rfl) ?_
      refine ax_q (q_mov rfl) ?_
      apply ax_or rfl rfl
      ·
       intro g
       refine ax_q (q_fadr_ptr rfl) ?_
       refine ax_q (q_load1_ptr rfl rfl rfl) ?_
       refine ax_q (q_fadr_ptr rfl) ?_
       refine ax_q (q_load1_ptr rfl rfl rfl) ?_
       refine ax_q (q_ibin rfl rfl rfl) ?_
       refine ax_q (q_mov rfl) ?_
       apply ax_and rfl rfl
       ·
        intro g
        have g := nT g
        refine ax_q (q_fadr_ptr rfl) ?_
        refine ax_q (q_load1_ptr rfl rfl rfl) ?_
        refine ax_q (q_fadr_ptr rfl) ?_
        refine ax_q (q_load1_ptr rfl rfl rfl) ?_
        refine ax_call rfl (vc_pure0 (c_l06Fit  ) hP rfl rfl ?_)
        refine ax_q (q_not rfl) ?_
        exact ax_nil ⟨rfl, by repeat constructor⟩
       exact ax_nil ⟨rfl, by repeat constructor⟩
      exact ax_nil ⟨rfl, by repeat constructor⟩
     refine ax_nil (cx_keep rfl rfl ?_)
     refine cx_cond rfl (fun h4 => ?_) (fun h4 => ?_)
     ·
      have h4 : twice l.Held[k] l.Held[i] = true := by rw [← twice_eq]; exact h4
      refine cx_seq (cx_ops ?_)
      refine ax_q (q_mov rfl) ?_
      refine ax_nil (cx_keep rfl rfl ?_)
      refine cx_ret (ret0 rfl rfl ?_)
      exact ⟨by rw [show locksOK l = false from by unfold locksOK; rw [allIx_no h1x (by rw [okAt_get h1x, any_take_hit (by omega) h3x h4]; simp)]; rfl]; rfl, rfl⟩
     ·
      have h4 : twice l.Held[k] l.Held[i] = false := by rw [← twice_eq]; exact h4
      refine cx_skip ?_
      refine cx_keep rfl rfl (cx_ops ?_)
      refine ax_q (q_mov rfl) ?_
      refine ax_qe (r' := int ((i + 1 : Nat) : Int)) (q_ibin rfl rfl rfl) (by rw [wi (by omega) (by omega)]; rfl) ?_
      refine ax_q (q_mov rfl) ?_
      refine ax_nil ?_
      exact ⟨_, i + 1, by omega, ⟨by omega, rfl, before_step h3x hb h4⟩, by repeat constructor⟩
    ·
     have h3 := dF h3
     refine cx_exit rfl ?_
     refine cx_keep rfl rfl (cx_ops ?_)
     refine ax_q (q_mov rfl) ?_
     refine ax_qe (r' := int ((k + 1 : Nat) : Int)) (q_ibin rfl rfl rfl) (by rw [wi (by omega) (by omega)]; rfl) ?_
     refine ax_q (q_mov rfl) ?_
     refine ax_nil ?_
     have h9 : okAt l.Held k = true := by rw [okAt_get h1x, h2, any_take (fun j hj => hb j (by omega))]; rfl
     exact ⟨_, k + 1, by omega, ⟨by omega, rfl, allIx_step ht h9⟩, by repeat constructor⟩
  ·
   have h1 := dF h1
   have h1x : k = l.Held.length := by omega
   subst h1x
   refine cx_exit rfl ?_
   refine cx_keep rfl rfl (cx_seq (cx_seq (cx_ops ?_)))
   refine ax_q (q_mov rfl) ?_
   refine ax_nil (cx_keep rfl rfl (cx_block ?_))
   refine cx_loopU (fun n k => k ≤ l.Waits.length ∧ n = l.Waits.length - k ∧ ∀ j, j < k → ∀ x, l.Waits[j]? = some x → badWait x = false) (fun k : Nat => [(7, int k)]) (fun _ => [(1, .box [.d (.sl 4 (l.Held.map GLock.row)), .d (.sl 2 (l.Waits.map GWait.row))])]) ⟨_, 0, ⟨Nat.zero_le _, rfl, fun j hj => by omega⟩, by repeat constructor⟩ ?_
   rintro n k ⟨hk, rfl, hb⟩
   refine cx_seq (cx_seq (cx_ops ?_))
   refine ax_q (q_mov rfl) ?_
   refine ax_q (q_fadr_ptr rfl) ?_
   refine ax_q (q_load1_ptr rfl rfl rfl) ?_
   refine ax_q (q_lenS_map rfl) ?_
   refine ax_q (q_ibin rfl rfl rfl) ?_
   refine ax_nil (cx_keep rfl rfl ?_)
   refine cx_cond rfl (fun h5 => ?_) (fun h5 => ?_)
   ·
    have h5 := dT h5
    have h5x : k < l.Waits.length := by omega
    refine cx_skip ?_
    refine cx_keep rfl rfl (cx_seq (cx_block (cx_seq (cx_ops ?_))))
    refine ax_q (q_fadr_ptr rfl) ?_
    refine ax_q (q_load1_ptr rfl rfl rfl) ?_
    refine ax_q (q_mov rfl) ?_
    refine ax_q (q_ix rfl rfl (mapAt h5x)) ?_
    first | refine ax_q (q_ldN rfl rfl rfl) ?_ | refine ax_q (q_loadN_ip rfl (Nat.le_refl _)) ?_
    refine ax_e (e_alloc (by decide) rfl rfl) ?_
    refine ax_e (e_st rfl rfl rfl rfl rfl rfl rfl) ?_
    refine ax_nil (cx_keep rfl rfl (cx_seq (cx_ops ?_)))
    refine ax_q (q_fadr_ptr rfl) ?_
    refine ax_q (q_load1_ptr rfl rfl rfl) ?_
    refine ax_call rfl (vc_pure0 (c_l01In  ) hP rfl rfl ?_)
    refine ax_q (q_not rfl) ?_
    refine ax_q (q_mov rfl) ?_
    apply ax_or rfl rfl
    ·
     intro g
     have g := bF g
     refine ax_q (q_fadr_ptr rfl) ?_
     refine ax_q (q_load1_ptr rfl rfl rfl) ?_
     refine ax_call rfl (vc_pure0 (c_l01In  ) hP rfl rfl ?_)
     refine ax_q (q_not rfl) ?_
     exact ax_nil ⟨rfl, by repeat constructor⟩
    refine ax_q (q_mov rfl) ?_
    apply ax_or rfl rfl
    ·
     intro g
     have g := (fun h => And.intro (bF (or_F h).1) (bF (or_F h).2)) g
     refine ax_q (q_fadr_ptr rfl) ?_
     refine ax_q (q_load1_ptr rfl rfl rfl) ?_
     refine ax_q (q_fadr_ptr rfl) ?_
     refine ax_q (q_load1_ptr rfl rfl rfl) ?_
     refine ax_q (q_ibin rfl rfl rfl) ?_
     exact ax_nil ⟨rfl, by repeat constructor⟩
    refine ax_nil (cx_keep rfl rfl ?_)
    refine cx_cond rfl (fun h6 => ?_) (fun h6 => ?_)
    ·
     have h6 : badWait l.Waits[k] = true := h6
     refine cx_seq (cx_ops ?_)
     refine ax_q (q_mov rfl) ?_
     refine ax_nil (cx_keep rfl rfl ?_)
     refine cx_ret (ret0 rfl rfl ?_)
     exact ⟨by rw [show locksOK l = false from by unfold locksOK; rw [any_hit h5x h6]; simp]; rfl, rfl⟩
    ·
     have h6 : badWait l.Waits[k] = false := h6
     refine cx_skip ?_
     refine cx_keep rfl rfl (cx_ops ?_)
     refine ax_q (q_mov rfl) ?_
     refine ax_qe (r' := int ((k + 1 : Nat) : Int)) (q_ibin rfl rfl rfl) (by rw [wi (by omega) (by omega)]; rfl) ?_
     refine ax_q (q_mov rfl) ?_
     refine ax_nil ?_
     exact ⟨_, k + 1, by omega, ⟨by omega, rfl, before_step h5x hb h6⟩, by repeat constructor⟩
   ·
    have h5 := dF h5
    have h5x : k = l.Waits.length := by omega
    refine cx_exit rfl ?_
    refine cx_keep rfl rfl (cx_seq (cx_ops ?_))
    refine ax_q (q_mov rfl) ?_
    refine ax_nil (cx_keep rfl rfl ?_)
    refine cx_ret (ret0 rfl rfl ?_)
    exact ⟨by rw [show locksOK l = true from by unfold locksOK; rw [ht, any_all (fun i hi => hb i (by omega)), decide_eq_true (show (l.Held.length : Int) ≤ 60 by omega), decide_eq_true (show (l.Waits.length : Int) ≤ 100 by omega)]; rfl]; rfl, rfl⟩


/- loop.example/g00332/spec.l07Back -/
def k_c_l07Back : XCode :=
 .seq (.ops [.op (some 2) (.box (.t 0)),
   .op (some 3) (.box (.t 1)),
   .op (some 4) (.mov (.k (.bool false)))])
 (.keep [2, 3] (.seq (.draw [.op (some 5) (.fadr (.t 3) 5),
   .op (some 6) (.load1 (.t 5)),
   .op (some 7) (.bin .gtr (.t 6) (.k (.int .i64 0))),
   .op (some 8) (.mov (.t 7)),
   .andor 20 true 3 8 [.op (some 9) (.fadr (.t 2) 5), .op (some 10) (.load1 (.t 9)), .op (some 11) (.fadr (.t 3) 5), .op (some 12) (.load1 (.t 11)), .op (some 13) (.bin .sub (.t 12) (.k (.int .i64 1))), .op (some 14) (.iadr 10 (.t 10) (.t 13)), .op (some 15) (.fadr (.t 14) 2), .op (some 16) (.load1 (.t 15)), .op (some 17) (.fadr (.t 3) 2), .op (some 18) (.load1 (.t 17)), .op (some 19) (.bin .eql (.t 16) (.t 18))] (.t 19),
   .op (some 21) (.mov (.t 20)),
   .andor 31 true 16 21 [.op (some 22) (.fadr (.t 2) 5), .op (some 23) (.load1 (.t 22)), .op (some 24) (.fadr (.t 3) 5), .op (some 25) (.load1 (.t 24)), .op (some 26) (.bin .sub (.t 25) (.k (.int .i64 1))), .op (some 27) (.iadr 10 (.t 23) (.t 26)), .op (some 28) (.fadr (.t 27) 3), .op (some 29) (.load1 (.t 28)), .op (some 30) (.bin .leq (.t 29) (.k (.int .i64 3)))] (.t 30),
   .op (some 4) (.mov (.t 31))])
 (.keep [4] (.ret))))
theorem k_c_l07Back_fits : fitsF Tryz.prog 38 ⟨32, k_c_l07Back, [.t 4]⟩ = true := by kernel_rfl
theorem c_l07Back {s : GStore} {x : GLogRecord} (hl : s.Log.length ≤ 60) (hn : 0 ≤ x.Next ∧ x.Next ≤ s.Log.length) : Con Tryz.prog noMv 38 [s.av, x.av] [] (fun r h => r = bool (backF s.Log x) ∧ h = []) := by
 refine con_of2 k_c_l07Back_fits rfl fun C hP hmv => ?_
 unfold k_c_l07Back
 refine cx_seq (cx_ops ?_)
 refine ax_e (e_box rfl rfl (by decide) rfl rfl rfl) ?_
 refine ax_e (e_box rfl rfl (by decide) rfl rfl rfl) ?_
 refine ax_q (q_mov rfl) ?_
 refine ax_nil (cx_keep rfl rfl (cx_seq (cx_draw ?_)))
 refine ax_q (q_fadr_ptr rfl) ?_
 refine ax_q (q_load1_ptr rfl rfl rfl) ?_
 refine ax_q (q_ibin rfl rfl rfl) ?_
 refine ax_q (q_mov rfl) ?_
 apply ax_and rfl rfl
 ·
  intro g
  have g := dT g
  have hq : 1 ≤ x.Next ∧ x.Next ≤ s.Log.length := by omega
  refine ax_q (q_fadr_ptr rfl) ?_
  refine ax_q (q_load1_ptr rfl rfl rfl) ?_
  refine ax_q (q_fadr_ptr rfl) ?_
  refine ax_q (q_load1_ptr rfl rfl rfl) ?_
  refine ax_qe (r' := int (x.Next - 1)) (q_ibin rfl rfl rfl) (by rw [wi (by omega) (by omega)]) ?_
  refine ax_q (q_ixI rfl rfl (by omega) (recAt_get hq)) ?_
  first | refine ax_q (q_fadr_ptr rfl) ?_ | refine ax_q (q_fadr_rptr rfl) ?_ | refine ax_q (q_fadr_ip rfl) ?_
  first | refine ax_q (q_load1_ptr rfl rfl rfl) ?_ | refine ax_q (q_load1_ip rfl) ?_
  refine ax_q (q_fadr_ptr rfl) ?_
  refine ax_q (q_load1_ptr rfl rfl rfl) ?_
  refine ax_q (q_ibin rfl rfl rfl) ?_
  exact ax_nil ⟨rfl, by repeat constructor⟩
 refine ax_q (q_mov rfl) ?_
 apply ax_and rfl rfl
 ·
  intro g
  have g := (fun h => And.intro (dT (and_T h).1) (dT (and_T h).2)) g
  have hq : 1 ≤ x.Next ∧ x.Next ≤ s.Log.length := by omega
  refine ax_q (q_fadr_ptr rfl) ?_
  refine ax_q (q_load1_ptr rfl rfl rfl) ?_
  refine ax_q (q_fadr_ptr rfl) ?_
  refine ax_q (q_load1_ptr rfl rfl rfl) ?_
  refine ax_qe (r' := int (x.Next - 1)) (q_ibin rfl rfl rfl) (by rw [wi (by omega) (by omega)]) ?_
  refine ax_q (q_ixI rfl rfl (by omega) (recAt_get hq)) ?_
  first | refine ax_q (q_fadr_ptr rfl) ?_ | refine ax_q (q_fadr_rptr rfl) ?_ | refine ax_q (q_fadr_ip rfl) ?_
  first | refine ax_q (q_load1_ptr rfl rfl rfl) ?_ | refine ax_q (q_load1_ip rfl) ?_
  refine ax_q (q_ibin rfl rfl rfl) ?_
  exact ax_nil ⟨rfl, by repeat constructor⟩
 refine ax_q (q_mov rfl) ?_
 refine ax_nil (cx_keep rfl rfl ?_)
 refine cx_ret (ret0 rfl rfl ?_)
 exact ⟨rfl, rfl⟩


/- loop.example/g00332/spec.l07Tx -/
def k_c_l07Tx : XCode :=
 .seq (.ops [.op (some 2) (.box (.t 0)),
   .op (some 4) (.mov (.k (.int .i64 0)))])
 (.keep [1, 2] (.seq (.seq (.ops [.op (some 5) (.mov (.k (.int .i64 0)))])
  (.keep [1, 2, 5] (.block 0 (.loop (.seq (.seq (.ops [.op (some 6) (.mov (.t 5)),
     .op (some 7) (.fadr (.t 2) 10),
     .op (some 8) (.load1 (.t 7)),
     .op (some 9) (.lenS (.t 8)),
     .op (some 10) (.bin .lss (.t 6) (.t 9))])
   (.keep [1, 2, 5, 10] (.cond (.t 10)
    (.skip)
    (.exit 0))))
   (.keep [1, 2, 5] (.seq (.block 1 (.seq (.ops [.op (some 13) (.fadr (.t 2) 10),
     .op (some 14) (.load1 (.t 13)),
     .op (some 15) (.mov (.t 5)),
     .op (some 16) (.iadr 2 (.t 14) (.t 15)),
     .op (some 17) (.fadr (.t 16) 0),
     .op (some 18) (.load1 (.t 17)),
     .op (some 19) (.mov (.t 1)),
     .op (some 20) (.bin .eql (.t 18) (.t 19))])
    (.keep [1, 2, 5, 20] (.cond (.t 20)
    (.seq (.ops [.op (some 21) (.mov (.t 5)),
      .op (some 4) (.mov (.t 21))])
     (.keep [4] (.ret)))
    (.skip)))))
   (.keep [1, 2, 5] (.ops [.op (some 11) (.mov (.t 5)),
    .op (some 12) (.bin .add (.t 11) (.k (.int .i64 1))),
    .op (some 5) (.mov (.t 12))])))))))))
 (.keep [] (.seq (.ops [.op (some 4) (.mov (.k (.int .i64 (-1))))])
 (.keep [4] (.ret))))))
theorem k_c_l07Tx_fits : fitsF Tryz.prog 39 ⟨22, k_c_l07Tx, [.t 4]⟩ = true := by kernel_rfl
theorem c_l07Tx {e : GEngine} {id : Int} (ht : e.Txs.length ≤ 1048576) : Con Tryz.prog noMv 39 [e.av, int id] [] (fun r h => r = int (txAt e id) ∧ h = []) := by
 refine con_of2 k_c_l07Tx_fits rfl fun C hP hmv => ?_
 unfold k_c_l07Tx
 refine cx_seq (cx_ops ?_)
 refine ax_e (e_box rfl rfl (by decide) rfl rfl rfl) ?_
 refine ax_q (q_mov rfl) ?_
 refine ax_nil (cx_keep rfl rfl (cx_seq (cx_seq (cx_ops ?_))))
 refine ax_q (q_mov rfl) ?_
 refine ax_nil (cx_keep rfl rfl (cx_block ?_))
 refine cx_loopU (fun n k => k ≤ e.Txs.length ∧ n = e.Txs.length - k ∧ ∀ j, j < k → ∀ x, e.Txs[j]? = some x → decide (x.Id = id) = false) (fun k : Nat => [(5, int k)]) (fun _ => [(2, .box (e.row.map .d))]) ⟨_, 0, ⟨Nat.zero_le _, rfl, fun j hj => by omega⟩, by repeat constructor⟩ ?_
 rintro n k ⟨hk, rfl, hb⟩
 refine cx_seq (cx_seq (cx_ops ?_))
 refine ax_q (q_mov rfl) ?_
 refine ax_q (q_fadr_ptr rfl) ?_
 refine ax_q (q_load1_ptr rfl rfl rfl) ?_
 refine ax_q (q_lenS_map rfl) ?_
 refine ax_q (q_ibin rfl rfl rfl) ?_
 refine ax_nil (cx_keep rfl rfl ?_)
 refine cx_cond rfl (fun h0 => ?_) (fun h0 => ?_)
 ·
  have h0 := dT h0
  have h0x : k < e.Txs.length := by omega
  refine cx_skip ?_
  refine cx_keep rfl rfl (cx_seq (cx_block (cx_seq (cx_ops ?_))))
  refine ax_q (q_fadr_ptr rfl) ?_
  refine ax_q (q_load1_ptr rfl rfl rfl) ?_
  refine ax_q (q_mov rfl) ?_
  refine ax_q (q_ix rfl rfl (mapAt h0x)) ?_
  first | refine ax_q (q_fadr_ptr rfl) ?_ | refine ax_q (q_fadr_rptr rfl) ?_ | refine ax_q (q_fadr_ip rfl) ?_
  first | refine ax_q (q_load1_ptr rfl rfl rfl) ?_ | refine ax_q (q_load1_ip rfl) ?_
  refine ax_q (q_mov rfl) ?_
  refine ax_q (q_ibin rfl rfl rfl) ?_
  refine ax_nil (cx_keep rfl rfl ?_)
  refine cx_cond rfl (fun h1 => ?_) (fun h1 => ?_)
  ·
   have h1 := dT h1
   refine cx_seq (cx_ops ?_)
   refine ax_q (q_mov rfl) ?_
   refine ax_q (q_mov rfl) ?_
   refine ax_nil (cx_keep rfl rfl ?_)
   refine cx_ret (ret0 rfl rfl ?_)
   exact ⟨by unfold txAt; rw [idxOf_hit h0x hb (decide_eq_true h1)]; rfl, rfl⟩
  ·
   have h1 := dF h1
   refine cx_skip ?_
   refine cx_keep rfl rfl (cx_ops ?_)
   refine ax_q (q_mov rfl) ?_
   refine ax_qe (r' := int ((k + 1 : Nat) : Int)) (q_ibin rfl rfl rfl) (by rw [wi (by omega) (by omega)]; rfl) ?_
   refine ax_q (q_mov rfl) ?_
   refine ax_nil ?_
   exact ⟨_, k + 1, by omega, ⟨by omega, rfl, before_step h0x hb (decide_eq_false h1)⟩, by repeat constructor⟩
 ·
  have h0 := dF h0
  have h0x : k = e.Txs.length := by omega
  refine cx_exit rfl ?_
  refine cx_keep rfl rfl (cx_seq (cx_ops ?_))
  refine ax_q (q_mov rfl) ?_
  refine ax_nil (cx_keep rfl rfl ?_)
  refine cx_ret (ret0 rfl rfl ?_)
  exact ⟨by unfold txAt; rw [idxOf_none (fun i hi => hb i (by omega))]; rfl, rfl⟩


/- loop.example/g00332/spec.l01Bit -/
def k_c_l01Bit : XCode :=
 .seq (.ops [.op (some 2) (.mov (.k (.int .i64 0)))])
 (.keep [0] (.seq (.seq (.ops [.op (some 3) (.mov (.t 0))])
  (.keep [3] (.cond (.t 3)
  (.seq (.ops [.op (some 2) (.mov (.k (.int .i64 1)))])
   (.keep [2] (.ret)))
  (.skip))))
 (.keep [] (.seq (.ops [.op (some 2) (.mov (.k (.int .i64 0)))])
 (.keep [2] (.ret))))))
theorem k_c_l01Bit_fits : fitsF Tryz.prog 162 ⟨4, k_c_l01Bit, [.t 2]⟩ = true := by kernel_rfl
theorem c_l01Bit {b : Bool} : Con Tryz.prog noMv 162 [bool b] [] (fun r h => r = int (bitI b) ∧ h = []) := by
 refine con_of2 k_c_l01Bit_fits rfl fun C hP hmv => ?_
 unfold k_c_l01Bit
 refine cx_seq (cx_ops ?_)
 refine ax_q (q_mov rfl) ?_
 refine ax_nil (cx_keep rfl rfl (cx_seq (cx_seq (cx_ops ?_))))
 refine ax_q (q_mov rfl) ?_
 refine ax_nil (cx_keep rfl rfl ?_)
 refine cx_cond rfl (fun h0 => ?_) (fun h0 => ?_)
 ·
  skip
  refine cx_seq (cx_ops ?_)
  refine ax_q (q_mov rfl) ?_
  refine ax_nil (cx_keep rfl rfl ?_)
  refine cx_ret (ret0 rfl rfl ?_)
  exact ⟨by rw [h0]; rfl, rfl⟩
 ·
  skip
  refine cx_skip ?_
  refine cx_keep rfl rfl (cx_seq (cx_ops ?_))
  refine ax_q (q_mov rfl) ?_
  refine ax_nil (cx_keep rfl rfl ?_)
  refine cx_ret (ret0 rfl rfl ?_)
  exact ⟨by rw [h0]; rfl, rfl⟩


/- loop.example/g00332/spec.l07Undo -/
def k_c_l07Undo : XCode :=
 .seq (.ops [.op (some 2) (.box (.t 0)),
   .op (some 4) (.mov (.k (.int .i64 0)))])
 (.keep [1, 2] (.seq (.ops [.op (some 5) (.mov (.k (.int .i64 1)))])
 (.keep [1, 2, 5] (.seq (.block 0 (.loop (.seq (.seq (.ops [.op (some 7) (.mov (.t 1)),
     .op (some 8) (.bin .gtr (.t 7) (.k (.int .i64 0)))])
   (.keep [1, 2, 5, 8] (.cond (.t 8)
    (.skip)
    (.exit 0))))
   (.keep [1, 2, 5] (.block 1 (.seq (.ops [.op (some 9) (.fadr (.t 2) 5),
     .op (some 10) (.load1 (.t 9)),
     .op (some 11) (.mov (.t 1)),
     .op (some 12) (.bin .sub (.t 11) (.k (.int .i64 1))),
     .op (some 13) (.iadr 10 (.t 10) (.t 12)),
     .op (some 14) (.loadN 10 (.t 13)),
     .op (some 6) (.alloc [.int .i64 0, .int .i64 0, .int .i64 0, .int .i64 0, .int .i64 0, .int .i64 0, .int .i64 0, .int .i64 0, .str [], .str []]),
     .op none (.store 10 (.t 6) (.t 14))])
   (.keep [2, 5, 6] (.seq (.seq (.ops [.op (some 15) (.fadr (.t 6) 3),
     .op (some 16) (.load1 (.t 15)),
     .op (some 17) (.bin .eql (.t 16) (.k (.int .i64 3)))])
    (.keep [2, 5, 6, 17] (.cond (.t 17)
    (.seq (.ops [.op (some 18) (.fadr (.t 6) 5),
      .op (some 19) (.load1 (.t 18)),
      .op (some 1) (.mov (.t 19))])
     (.keep [1, 2, 5] (.exit 1)))
    (.skip))))
   (.keep [2, 5, 6] (.seq (.ops [.op (some 20) (.mov (.t 5)),
     .op (some 21) (.fadr (.t 6) 3),
     .op (some 22) (.load1 (.t 21)),
     .op (some 23) (.bin .eql (.t 22) (.k (.int .i64 2))),
     .call (some 24) 162 [.t 23],
     .op (some 25) (.bin .add (.t 20) (.t 24)),
     .op (some 5) (.mov (.t 25))])
   (.keep [2, 5, 6] (.ops [.op (some 26) (.fadr (.t 6) 4),
    .op (some 27) (.load1 (.t 26)),
    .op (some 1) (.mov (.t 27))]))))))))))))
 (.keep [5] (.seq (.ops [.op (some 28) (.mov (.t 5)),
   .op (some 4) (.mov (.t 28))])
 (.keep [4] (.ret))))))))
theorem k_c_l07Undo_fits : fitsF Tryz.prog 88 ⟨29, k_c_l07Undo, [.t 4]⟩ = true := by kernel_rfl
theorem c_l07Undo {s : GStore} {n0 : Int} (hl : s.Log.length ≤ 60) (hg : goodA s.Log = true) (hn0 : 0 ≤ n0 ∧ n0 ≤ s.Log.length) : Con Tryz.prog noMv 88 [s.av, int n0] [] (fun r h => r = int ((needF s n0 : Nat) : Int) ∧ h = []) := by
 refine con_of2 k_c_l07Undo_fits rfl fun C hP hmv => ?_
 unfold k_c_l07Undo
 refine cx_seq (cx_ops ?_)
 refine ax_e (e_box rfl rfl (by decide) rfl rfl rfl) ?_
 refine ax_q (q_mov rfl) ?_
 refine ax_nil (cx_keep rfl rfl (cx_seq (cx_ops ?_)))
 refine ax_q (q_mov rfl) ?_
 refine ax_nil (cx_keep rfl rfl (cx_seq (cx_block ?_)))
 refine cx_loopU (fun u (p : Int × Nat × Nat) => u = p.2.1 ∧ p.2.2 + undoF s.Log p.2.1 p.1 = 1 + undoF s.Log 60 n0 ∧ 0 ≤ p.1 ∧ p.1 ≤ s.Log.length ∧ p.1 ≤ p.2.1 ∧ p.2.1 ≤ 60 ∧ p.2.2 + p.2.1 ≤ 61) (fun p => [(1, int p.1), (5, int (p.2.2 : Nat))]) (fun _ => [(2, .box (s.row.map .d))]) ⟨_, (n0, 60, 1), ⟨rfl, rfl, hn0.1, hn0.2, by simp only; omega, Nat.le_refl _, by simp only; omega⟩, by repeat constructor⟩ ?_
 rintro u ⟨n, f, m⟩ ⟨rfl, hc, hn1, hn2, hf, hf6, hmf⟩
 simp only at hc hn1 hn2 hf hf6 hmf ⊢
 refine cx_seq (cx_seq (cx_ops ?_))
 refine ax_q (q_mov rfl) ?_
 refine ax_q (q_ibin rfl rfl rfl) ?_
 refine ax_nil (cx_keep rfl rfl ?_)
 refine cx_cond rfl (fun h0 => ?_) (fun h0 => ?_)
 ·
  have h0 := dT h0
  obtain ⟨f, rfl⟩ : ∃ f2, u = f2 + 1 := ⟨u - 1, by omega⟩
  have hn : 1 ≤ n ∧ n ≤ s.Log.length := by omega
  obtain ⟨_, hln, hin⟩ := goodA_at hg hn
  have hpr := hin.p
  have hnx := hin.n
  have hkd := hin.k
  have hul := @undo_le s.Log (f + 1) n
  refine cx_skip ?_
  refine cx_keep rfl rfl (cx_block (cx_seq (cx_ops ?_)))
  refine ax_q (q_fadr_ptr rfl) ?_
  refine ax_q (q_load1_ptr rfl rfl rfl) ?_
  refine ax_q (q_mov rfl) ?_
  refine ax_qe (r' := int (n - 1)) (q_ibin rfl rfl rfl) (by rw [wi (by omega) (by omega)]) ?_
  refine ax_q (q_ixI rfl rfl (by omega) (recAt_get hn)) ?_
  first | refine ax_q (q_ldN rfl rfl rfl) ?_ | refine ax_q (q_loadN_ip rfl (Nat.le_refl _)) ?_
  refine ax_e (e_alloc (by decide) rfl rfl) ?_
  refine ax_e (e_st rfl rfl rfl rfl rfl rfl rfl) ?_
  refine ax_nil (cx_keep rfl rfl (cx_seq (cx_seq (cx_ops ?_))))
  refine ax_q (q_fadr_ptr rfl) ?_
  refine ax_q (q_load1_ptr rfl rfl rfl) ?_
  refine ax_q (q_ibin rfl rfl rfl) ?_
  refine ax_nil (cx_keep rfl rfl ?_)
  refine cx_cond rfl (fun h1 => ?_) (fun h1 => ?_)
  ·
   have h1 := dT h1
   refine cx_seq (cx_ops ?_)
   refine ax_q (q_fadr_ptr rfl) ?_
   refine ax_q (q_load1_ptr rfl rfl rfl) ?_
   refine ax_q (q_mov rfl) ?_
   refine ax_nil (cx_keep rfl rfl ?_)
   refine cx_exit rfl ?_
   exact ⟨_, ((recAt s.Log n).Next, f, m), by simp only; omega, ⟨rfl, by rw [← hc, undo_3 (by omega) h1], hnx.1, by simp only; omega, by simp only; omega, by simp only; omega, by simp only; omega⟩, by repeat constructor⟩
  ·
   have h1 := dF h1
   refine cx_skip ?_
   refine cx_keep rfl rfl (cx_seq (cx_ops ?_))
   refine ax_q (q_mov rfl) ?_
   refine ax_q (q_fadr_ptr rfl) ?_
   refine ax_q (q_load1_ptr rfl rfl rfl) ?_
   refine ax_q (q_ibin rfl rfl rfl) ?_
   refine ax_call rfl (vc_pure0 (c_l01Bit (b := decide ((recAt s.Log n).Kind = 2)) ) hP rfl rfl ?_)
   refine ax_qe (r' := int ((m + (if (recAt s.Log n).Kind = 2 then 1 else 0) : Nat) : Int)) (q_ibin rfl rfl rfl) (by rw [addBit (by omega)]) ?_
   refine ax_q (q_mov rfl) ?_
   refine ax_nil (cx_keep rfl rfl (cx_ops ?_))
   refine ax_q (q_fadr_ptr rfl) ?_
   refine ax_q (q_load1_ptr rfl rfl rfl) ?_
   refine ax_q (q_mov rfl) ?_
   refine ax_nil ?_
   exact ⟨_, ((recAt s.Log n).Prev, f, m + (if (recAt s.Log n).Kind = 2 then 1 else 0)), by simp only; omega, ⟨rfl, by rw [← hc, undo_s (by omega) h1, Nat.add_assoc], hpr.1, by simp only; omega, by simp only; omega, by simp only; omega, by simp only; split <;> omega⟩, by repeat constructor⟩
 ·
  have h0 := dF h0
  have hz : n = 0 := by omega
  rw [undo_0 (by omega)] at hc
  refine cx_exit rfl ?_
  refine cx_keep rfl rfl (cx_seq (cx_ops ?_))
  refine ax_q (q_mov rfl) ?_
  refine ax_q (q_mov rfl) ?_
  refine ax_nil (cx_keep rfl rfl ?_)
  refine cx_ret (ret0 rfl rfl ?_)
  exact ⟨by unfold needF; rw [← hc, Nat.add_zero]; rfl, rfl⟩


/- loop.example/g00332/spec.l07Reserve -/
def k_c_l07Reserve : XCode :=
 .seq (.ops [.op (some 1) (.box (.t 0)),
   .op (some 2) (.mov (.k (.int .i64 0)))])
 (.keep [1] (.seq (.ops [.op (some 3) (.mov (.k (.int .i64 0)))])
 (.keep [1, 3] (.seq (.seq (.ops [.op (some 4) (.mov (.k (.int .i64 0)))])
  (.keep [1, 3, 4] (.block 0 (.loop (.seq (.seq (.ops [.op (some 5) (.mov (.t 4)),
     .op (some 6) (.fadr (.t 1) 10),
     .op (some 7) (.load1 (.t 6)),
     .op (some 8) (.lenS (.t 7)),
     .op (some 9) (.bin .lss (.t 5) (.t 8))])
   (.keep [1, 3, 4, 9] (.cond (.t 9)
    (.skip)
    (.exit 0))))
   (.keep [1, 3, 4] (.seq (.block 1 (.draw [.op (some 12) (.mov (.t 3)),
     .op (some 13) (.fadr (.t 1) 0),
     .op (some 14) (.loadN 9 (.t 13)),
     .op (some 15) (.fadr (.t 1) 10),
     .op (some 16) (.load1 (.t 15)),
     .op (some 17) (.mov (.t 4)),
     .op (some 18) (.iadr 2 (.t 16) (.t 17)),
     .op (some 19) (.fadr (.t 18) 1),
     .op (some 20) (.load1 (.t 19)),
     .call (some 21) 88 [.t 14, .t 20],
     .op (some 22) (.bin .add (.t 12) (.t 21)),
     .op (some 3) (.mov (.t 22))]))
   (.keep [1, 3, 4] (.ops [.op (some 10) (.mov (.t 4)),
    .op (some 11) (.bin .add (.t 10) (.k (.int .i64 1))),
    .op (some 4) (.mov (.t 11))])))))))))
 (.keep [3] (.seq (.ops [.op (some 23) (.mov (.t 3)),
   .op (some 2) (.mov (.t 23))])
 (.keep [2] (.ret))))))))
theorem k_c_l07Reserve_fits : fitsF Tryz.prog 40 ⟨24, k_c_l07Reserve, [.t 2]⟩ = true := by kernel_rfl
theorem c_l07Reserve {e : GEngine} (hl : e.Store.Log.length ≤ 60) (hg : goodA e.Store.Log = true) (ht : e.Txs.length ≤ 10) (hx : ∀ t ∈ e.Txs, 1 ≤ t.Last ∧ t.Last ≤ e.Store.Log.length) : Con Tryz.prog noMv 40 [e.av] [] (fun r h => r = int ((needsF e : Nat) : Int) ∧ h = []) := by
 refine con_of2 k_c_l07Reserve_fits rfl fun C hP hmv => ?_
 unfold k_c_l07Reserve
 refine cx_seq (cx_ops ?_)
 refine ax_e (e_box rfl rfl (by decide) rfl rfl rfl) ?_
 refine ax_q (q_mov rfl) ?_
 refine ax_nil (cx_keep rfl rfl (cx_seq (cx_ops ?_)))
 refine ax_q (q_mov rfl) ?_
 refine ax_nil (cx_keep rfl rfl (cx_seq (cx_seq (cx_ops ?_))))
 refine ax_q (q_mov rfl) ?_
 refine ax_nil (cx_keep rfl rfl (cx_block ?_))
 refine cx_loopU (fun m k => k ≤ e.Txs.length ∧ m = e.Txs.length - k) (fun k : Nat => [(4, int k), (3, int ((needsK e k : Nat) : Int))]) (fun _ => [(1, .box (e.row.map .d))]) ⟨_, 0, ⟨Nat.zero_le _, rfl⟩, by repeat constructor⟩ ?_
 rintro m k ⟨hk, rfl⟩
 refine cx_seq (cx_seq (cx_ops ?_))
 refine ax_q (q_mov rfl) ?_
 refine ax_q (q_fadr_ptr rfl) ?_
 refine ax_q (q_load1_ptr rfl rfl rfl) ?_
 refine ax_q (q_lenS_map rfl) ?_
 refine ax_q (q_ibin rfl rfl rfl) ?_
 refine ax_nil (cx_keep rfl rfl ?_)
 refine cx_cond rfl (fun h0 => ?_) (fun h0 => ?_)
 ·
  have h0 := dT h0
  have h0x : k < e.Txs.length := by omega
  have hxk := hx _ (List.getElem_mem h0x)
  have hst := needsK_s h0x
  have hnl := @needsK_le e (k + 1)
  refine cx_skip ?_
  refine cx_keep rfl rfl (cx_seq (cx_block (cx_draw ?_)))
  refine ax_q (q_mov rfl) ?_
  refine ax_q (q_fadr_ptr rfl) ?_
  refine ax_q (q_ldN rfl rfl rfl) ?_
  refine ax_q (q_fadr_ptr rfl) ?_
  refine ax_q (q_load1_ptr rfl rfl rfl) ?_
  refine ax_q (q_mov rfl) ?_
  refine ax_q (q_ix rfl rfl (mapAt h0x)) ?_
  first | refine ax_q (q_fadr_ptr rfl) ?_ | refine ax_q (q_fadr_rptr rfl) ?_ | refine ax_q (q_fadr_ip rfl) ?_
  first | refine ax_q (q_load1_ptr rfl rfl rfl) ?_ | refine ax_q (q_load1_ip rfl) ?_
  refine ax_callq rfl (c_l07Undo (s := e.Store) (n0 := e.Txs[k].Last) ?_ ?_ ?_) hP (lal_id _ rfl) rfl ?_
  ·
   assumption
  ·
   assumption
  ·
   first | assumption | omega
  refine ax_qe (r' := int ((needsK e (k + 1) : Nat) : Int)) (q_ibin rfl rfl rfl) (by rw [wi (by omega) (by omega)]; exact congrArg AM.int (by omega)) ?_
  refine ax_q (q_mov rfl) ?_
  refine ax_nil (cx_keep rfl rfl (cx_ops ?_))
  refine ax_q (q_mov rfl) ?_
  refine ax_qe (r' := int ((k + 1 : Nat) : Int)) (q_ibin rfl rfl rfl) (by rw [wi (by omega) (by omega)]; rfl) ?_
  refine ax_q (q_mov rfl) ?_
  refine ax_nil ?_
  exact ⟨_, k + 1, by omega, ⟨by omega, rfl⟩, by repeat constructor⟩
 ·
  have h0 := dF h0
  obtain rfl : k = e.Txs.length := by omega
  rw [needsK_end]
  refine cx_exit rfl ?_
  refine cx_keep rfl rfl (cx_seq (cx_ops ?_))
  refine ax_q (q_mov rfl) ?_
  refine ax_q (q_mov rfl) ?_
  refine ax_nil (cx_keep rfl rfl ?_)
  refine cx_ret (ret0 rfl rfl ?_)
  exact ⟨rfl, rfl⟩


/- loop.example/g00332/spec.EngineOK -/
def k_c_sEngineOK : XCode :=
 .seq (.ops [.op (some 1) (.box (.t 0)),
   .op (some 2) (.mov (.k (.bool false)))])
 (.keep [1] (.seq (.seq (.ops [.op (some 9) (.fadr (.t 1) 0),
   .op (some 10) (.loadN 9 (.t 9)),
   .call (some 11) 35 [.t 10],
   .op (some 12) (.not (.t 11)),
   .op (some 13) (.mov (.t 12)),
   .andor 18 false 4 13 [.op (some 14) (.fadr (.t 1) 10), .op (some 15) (.load1 (.t 14)), .op (some 16) (.lenS (.t 15)), .op (some 17) (.bin .gtr (.t 16) (.k (.int .i64 10)))] (.t 17),
   .op (some 19) (.mov (.t 18)),
   .andor 24 false 10 19 [.op (some 20) (.fadr (.t 1) 11), .op (some 21) (.loadN 2 (.t 20)), .call (some 22) 36 [.t 21], .op (some 23) (.not (.t 22))] (.t 23),
   .op (some 25) (.mov (.t 24)),
   .andor 30 false 16 25 [.op (some 26) (.fadr (.t 1) 13), .op (some 27) (.load1 (.t 26)), .call (some 28) 37 [.t 27, .k (.int .i64 1), .k (.int .i64 61)], .op (some 29) (.not (.t 28))] (.t 29)])
  (.keep [1, 30] (.cond (.t 30)
  (.seq (.ops [.op (some 2) (.mov (.k (.bool false)))])
   (.keep [2] (.ret)))
  (.skip))))
 (.keep [1] (.seq (.seq (.ops [.op (some 31) (.fadr (.t 1) 9),
   .op (some 32) (.load1 (.t 31)),
   .op (some 33) (.not (.t 32))])
  (.keep [1, 33] (.cond (.t 33)
  (.seq (.ops [.op (some 34) (.fadr (.t 1) 10),
    .op (some 35) (.load1 (.t 34)),
    .op (some 36) (.lenS (.t 35)),
    .op (some 37) (.bin .eql (.t 36) (.k (.int .i64 0))),
    .op (some 38) (.mov (.t 37)),
    .andor 44 true 4 38 [.op (some 39) (.fadr (.t 1) 11), .op (some 40) (.fadr (.t 39) 0), .op (some 41) (.load1 (.t 40)), .op (some 42) (.lenS (.t 41)), .op (some 43) (.bin .eql (.t 42) (.k (.int .i64 0)))] (.t 43),
    .op (some 45) (.mov (.t 44)),
    .andor 51 true 11 45 [.op (some 46) (.fadr (.t 1) 11), .op (some 47) (.fadr (.t 46) 1), .op (some 48) (.load1 (.t 47)), .op (some 49) (.lenS (.t 48)), .op (some 50) (.bin .eql (.t 49) (.k (.int .i64 0)))] (.t 50),
    .op (some 52) (.mov (.t 51)),
    .andor 58 true 18 52 [.op (some 53) (.fadr (.t 1) 0), .op (some 54) (.fadr (.t 53) 7), .op (some 55) (.load1 (.t 54)), .op (some 56) (.lenS (.t 55)), .op (some 57) (.bin .eql (.t 56) (.k (.int .i64 0)))] (.t 57),
    .op (some 2) (.mov (.t 58))])
   (.keep [2] (.ret)))
  (.skip))))
 (.keep [1] (.seq (.seq (.ops [.op (some 3) (.mov (.k (.int .i64 0)))])
  (.keep [1, 3] (.block 0 (.loop (.seq (.seq (.ops [.op (some 59) (.mov (.t 3)),
     .op (some 60) (.fadr (.t 1) 10),
     .op (some 61) (.load1 (.t 60)),
     .op (some 62) (.lenS (.t 61)),
     .op (some 63) (.bin .lss (.t 59) (.t 62))])
   (.keep [1, 3, 63] (.cond (.t 63)
    (.skip)
    (.exit 0))))
   (.keep [1, 3] (.seq (.block 1 (.seq (.ops [.op (some 66) (.fadr (.t 1) 10),
     .op (some 67) (.load1 (.t 66)),
     .op (some 68) (.mov (.t 3)),
     .op (some 69) (.iadr 2 (.t 67) (.t 68)),
     .op (some 70) (.loadN 2 (.t 69)),
     .op (some 4) (.alloc [.int .i64 0, .int .i64 0]),
     .op none (.store 2 (.t 4) (.t 70))])
    (.keep [1, 3, 4] (.seq (.seq (.draw [.op (some 71) (.fadr (.t 4) 0),
      .op (some 72) (.load1 (.t 71)),
      .op (some 73) (.fadr (.t 1) 13),
      .op (some 74) (.load1 (.t 73)),
      .op (some 75) (.bin .sub (.t 74) (.k (.int .i64 1))),
      .call (some 76) 37 [.t 72, .k (.int .i64 1), .t 75],
      .op (some 77) (.not (.t 76)),
      .op (some 78) (.mov (.t 77)),
      .andor 93 false 7 78 [.op (some 79) (.mov (.t 3)), .op (some 80) (.bin .gtr (.t 79) (.k (.int .i64 0))), .op (some 81) (.mov (.t 80)), .andor 92 true 10 81 [.op (some 82) (.fadr (.t 1) 10), .op (some 83) (.load1 (.t 82)), .op (some 84) (.mov (.t 3)), .op (some 85) (.bin .sub (.t 84) (.k (.int .i64 1))), .op (some 86) (.iadr 2 (.t 83) (.t 85)), .op (some 87) (.fadr (.t 86) 0), .op (some 88) (.load1 (.t 87)), .op (some 89) (.fadr (.t 4) 0), .op (some 90) (.load1 (.t 89)), .op (some 91) (.bin .geq (.t 88) (.t 90))] (.t 91)] (.t 92),
      .op (some 94) (.mov (.t 93)),
      .andor 103 false 23 94 [.op (some 95) (.fadr (.t 4) 1), .op (some 96) (.load1 (.t 95)), .op (some 97) (.fadr (.t 1) 0), .op (some 98) (.fadr (.t 97) 5), .op (some 99) (.load1 (.t 98)), .op (some 100) (.lenS (.t 99)), .call (some 101) 37 [.t 96, .k (.int .i64 1), .t 100], .op (some 102) (.not (.t 101))] (.t 102)])
    (.keep [1, 3, 4, 103] (.cond (.t 103)
     (.seq (.ops [.op (some 2) (.mov (.k (.bool false)))])
     (.keep [2] (.ret)))
     (.skip))))
    (.keep [1, 3, 4] (.seq (.ops [.op (some 104) (.fadr (.t 4) 1),
     .op (some 105) (.load1 (.t 104)),
     .op (some 5) (.mov (.t 105))])
    (.keep [1, 3, 4, 5] (.block 2 (.loop (.seq (.seq (.ops [.op (some 106) (.mov (.t 5)),
       .op (some 107) (.bin .gtr (.t 106) (.k (.int .i64 0)))])
     (.keep [1, 3, 4, 5, 107] (.cond (.t 107)
      (.skip)
      (.exit 2))))
     (.keep [1, 3, 4, 5] (.seq (.block 3 (.seq (.ops [.op (some 116) (.fadr (.t 1) 0),
       .op (some 117) (.fadr (.t 116) 5),
       .op (some 118) (.load1 (.t 117)),
       .op (some 119) (.mov (.t 5)),
       .op (some 120) (.bin .sub (.t 119) (.k (.int .i64 1))),
       .op (some 121) (.iadr 10 (.t 118) (.t 120)),
       .op (some 122) (.loadN 10 (.t 121)),
       .op (some 6) (.alloc [.int .i64 0, .int .i64 0, .int .i64 0, .int .i64 0, .int .i64 0, .int .i64 0, .int .i64 0, .int .i64 0, .str [], .str []]),
       .op none (.store 10 (.t 6) (.t 122))])
      (.keep [1, 3, 4, 5, 6] (.seq (.ops [.op (some 123) (.fadr (.t 6) 2),
       .op (some 124) (.load1 (.t 123)),
       .op (some 125) (.fadr (.t 4) 0),
       .op (some 126) (.load1 (.t 125)),
       .op (some 127) (.bin .neq (.t 124) (.t 126)),
       .op (some 128) (.mov (.t 127)),
       .andor 132 false 5 128 [.op (some 129) (.fadr (.t 6) 3), .op (some 130) (.load1 (.t 129)), .op (some 131) (.bin .eql (.t 130) (.k (.int .i64 4)))] (.t 131),
       .op (some 133) (.mov (.t 132)),
       .andor 137 false 10 133 [.op (some 134) (.fadr (.t 6) 3), .op (some 135) (.load1 (.t 134)), .op (some 136) (.bin .eql (.t 135) (.k (.int .i64 5)))] (.t 136),
       .op (some 138) (.mov (.t 137)),
       .andor 142 false 15 138 [.op (some 139) (.fadr (.t 6) 3), .op (some 140) (.load1 (.t 139)), .op (some 141) (.bin .eql (.t 140) (.k (.int .i64 6)))] (.t 141),
       .op (some 143) (.mov (.t 142)),
       .andor 154 false 20 143 [.op (some 144) (.fadr (.t 6) 3), .op (some 145) (.load1 (.t 144)), .op (some 146) (.bin .eql (.t 145) (.k (.int .i64 3))), .op (some 147) (.mov (.t 146)), .andor 153 true 24 147 [.op (some 148) (.fadr (.t 1) 0), .op (some 149) (.loadN 9 (.t 148)), .op (some 150) (.loadN 10 (.t 6)), .call (some 151) 38 [.t 149, .t 150], .op (some 152) (.not (.t 151))] (.t 152)] (.t 153)])
      (.keep [1, 3, 4, 5, 154] (.cond (.t 154)
      (.seq (.ops [.op (some 2) (.mov (.k (.bool false)))])
       (.keep [2] (.ret)))
      (.skip)))))))
     (.keep [1, 3, 4, 5] (.ops [.op (some 108) (.fadr (.t 1) 0),
      .op (some 109) (.fadr (.t 108) 5),
      .op (some 110) (.load1 (.t 109)),
      .op (some 111) (.mov (.t 5)),
      .op (some 112) (.bin .sub (.t 111) (.k (.int .i64 1))),
      .op (some 113) (.iadr 10 (.t 110) (.t 112)),
      .op (some 114) (.fadr (.t 113) 4),
      .op (some 115) (.load1 (.t 114)),
      .op (some 5) (.mov (.t 115))]))))))))))))))
   (.keep [1, 3] (.ops [.op (some 64) (.mov (.t 3)),
    .op (some 65) (.bin .add (.t 64) (.k (.int .i64 1))),
    .op (some 3) (.mov (.t 65))])))))))))
 (.keep [1] (.seq (.seq (.ops [.op (some 7) (.mov (.k (.int .i64 0)))])
  (.keep [1, 7] (.block 4 (.loop (.seq (.seq (.ops [.op (some 155) (.mov (.t 7)),
     .op (some 156) (.fadr (.t 1) 11),
     .op (some 157) (.fadr (.t 156) 0),
     .op (some 158) (.load1 (.t 157)),
     .op (some 159) (.lenS (.t 158)),
     .op (some 160) (.bin .lss (.t 155) (.t 159))])
   (.keep [1, 7, 160] (.cond (.t 160)
    (.skip)
    (.exit 4))))
   (.keep [1, 7] (.seq (.block 5 (.seq (.draw [.op (some 163) (.loadN 14 (.t 1)),
     .op (some 164) (.fadr (.t 1) 11),
     .op (some 165) (.fadr (.t 164) 0),
     .op (some 166) (.load1 (.t 165)),
     .op (some 167) (.mov (.t 7)),
     .op (some 168) (.iadr 4 (.t 166) (.t 167)),
     .op (some 169) (.fadr (.t 168) 0),
     .op (some 170) (.load1 (.t 169)),
     .call (some 171) 39 [.t 163, .t 170],
     .op (some 172) (.bin .lss (.t 171) (.k (.int .i64 0)))])
    (.keep [1, 7, 172] (.cond (.t 172)
    (.seq (.ops [.op (some 2) (.mov (.k (.bool false)))])
     (.keep [2] (.ret)))
    (.skip)))))
   (.keep [1, 7] (.ops [.op (some 161) (.mov (.t 7)),
    .op (some 162) (.bin .add (.t 161) (.k (.int .i64 1))),
    .op (some 7) (.mov (.t 162))])))))))))
 (.keep [1] (.seq (.seq (.ops [.op (some 8) (.mov (.k (.int .i64 0)))])
  (.keep [1, 8] (.block 6 (.loop (.seq (.seq (.ops [.op (some 173) (.mov (.t 8)),
     .op (some 174) (.fadr (.t 1) 11),
     .op (some 175) (.fadr (.t 174) 1),
     .op (some 176) (.load1 (.t 175)),
     .op (some 177) (.lenS (.t 176)),
     .op (some 178) (.bin .lss (.t 173) (.t 177))])
   (.keep [1, 8, 178] (.cond (.t 178)
    (.skip)
    (.exit 6))))
   (.keep [1, 8] (.seq (.block 7 (.seq (.draw [.op (some 181) (.loadN 14 (.t 1)),
     .op (some 182) (.fadr (.t 1) 11),
     .op (some 183) (.fadr (.t 182) 1),
     .op (some 184) (.load1 (.t 183)),
     .op (some 185) (.mov (.t 8)),
     .op (some 186) (.iadr 2 (.t 184) (.t 185)),
     .op (some 187) (.fadr (.t 186) 0),
     .op (some 188) (.load1 (.t 187)),
     .call (some 189) 39 [.t 181, .t 188],
     .op (some 190) (.bin .lss (.t 189) (.k (.int .i64 0))),
     .op (some 191) (.mov (.t 190)),
     .andor 202 false 10 191 [.op (some 192) (.loadN 14 (.t 1)), .op (some 193) (.fadr (.t 1) 11), .op (some 194) (.fadr (.t 193) 1), .op (some 195) (.load1 (.t 194)), .op (some 196) (.mov (.t 8)), .op (some 197) (.iadr 2 (.t 195) (.t 196)), .op (some 198) (.fadr (.t 197) 1), .op (some 199) (.load1 (.t 198)), .call (some 200) 39 [.t 192, .t 199], .op (some 201) (.bin .lss (.t 200) (.k (.int .i64 0)))] (.t 201)])
    (.keep [1, 8, 202] (.cond (.t 202)
    (.seq (.ops [.op (some 2) (.mov (.k (.bool false)))])
     (.keep [2] (.ret)))
    (.skip)))))
   (.keep [1, 8] (.ops [.op (some 179) (.mov (.t 8)),
    .op (some 180) (.bin .add (.t 179) (.k (.int .i64 1))),
    .op (some 8) (.mov (.t 180))])))))))))
 (.keep [1] (.seq (.draw [.op (some 203) (.fadr (.t 1) 0),
   .op (some 204) (.fadr (.t 203) 5),
   .op (some 205) (.load1 (.t 204)),
   .op (some 206) (.lenS (.t 205)),
   .op (some 207) (.loadN 14 (.t 1)),
   .call (some 208) 40 [.t 207],
   .op (some 209) (.bin .add (.t 206) (.t 208)),
   .op (some 210) (.bin .leq (.t 209) (.k (.int .i64 60))),
   .op (some 2) (.mov (.t 210))])
 (.keep [2] (.ret))))))))))))))
theorem k_c_sEngineOK_fits : fitsF Tryz.prog 8 ⟨211, k_c_sEngineOK, [.t 2]⟩ = true := by kernel_rfl
set_option maxHeartbeats 16000000 in
theorem c_sEngineOK {e : GEngine} (hb : EnB e) : Con Tryz.prog noMv 8 [e.av] [] (fun r h => r = bool (engineOK e) ∧ h = []) := by
 refine con_of2 k_c_sEngineOK_fits rfl fun C hP hmv => ?_
 unfold k_c_sEngineOK
 obtain ⟨hs, hw0, hw1, hw2, hw3⟩ := id hb
 refine cx_seq (cx_ops ?_)
 refine ax_e (e_box rfl rfl (by decide) rfl rfl rfl) ?_
 refine ax_q (q_mov rfl) ?_
 refine ax_nil (cx_keep rfl rfl (cx_seq (cx_seq (cx_ops ?_))))
 refine ax_q (q_fadr_ptr rfl) ?_
 refine ax_q (q_ldN rfl rfl rfl) ?_
 refine ax_call rfl (vc_pure0 (c_sStoreOK (s := e.Store) ?_) hP rfl rfl ?_)
 ·
  exact hs
 refine ax_q (q_not rfl) ?_
 refine ax_q (q_mov rfl) ?_
 apply ax_or rfl rfl
 ·
  intro g
  have g := bF g
  refine ax_q (q_fadr_ptr rfl) ?_
  refine ax_q (q_load1_ptr rfl rfl rfl) ?_
  refine ax_q (q_lenS_map rfl) ?_
  refine ax_q (q_ibin rfl rfl rfl) ?_
  exact ax_nil ⟨rfl, by repeat constructor⟩
 refine ax_q (q_mov rfl) ?_
 apply ax_or rfl rfl
 ·
  intro g
  have g := (fun h => And.intro (bF (or_F h).1) (dF (or_F h).2)) g
  refine ax_q (q_fadr_ptr rfl) ?_
  refine ax_q (q_ldN rfl rfl rfl) ?_
  refine ax_call rfl (vc_pure0 (c_sLocksOK (l := e.Locks) ?_ ?_ ?_) hP rfl rfl ?_)
  ·
   assumption
  ·
   assumption
  ·
   assumption
  refine ax_q (q_not rfl) ?_
  exact ax_nil ⟨rfl, by repeat constructor⟩
 refine ax_q (q_mov rfl) ?_
 apply ax_or rfl rfl
 ·
  intro g
  have g := (fun h => And.intro ((fun h => And.intro (bF (or_F h).1) (dF (or_F h).2)) (or_F h).1) (bF (or_F h).2)) g
  refine ax_q (q_fadr_ptr rfl) ?_
  refine ax_q (q_load1_ptr rfl rfl rfl) ?_
  refine ax_call rfl (vc_pure0 (c_l01In  ) hP rfl rfl ?_)
  refine ax_q (q_not rfl) ?_
  exact ax_nil ⟨rfl, by repeat constructor⟩
 refine ax_nil (cx_keep rfl rfl ?_)
 refine cx_cond rfl (fun h0 => ?_) (fun h0 => ?_)
 ·
  have h0 : badE2 e = true := h0
  refine cx_seq (cx_ops ?_)
  refine ax_q (q_mov rfl) ?_
  refine ax_nil (cx_keep rfl rfl ?_)
  refine cx_ret (ret0 rfl rfl ?_)
  exact ⟨by rw [badE2_t h0]; rfl, rfl⟩
 ·
  have h0 : badE2 e = false := h0
  obtain ⟨hso, hbe⟩ := badE2_f h0
  obtain ⟨ht10, hnx0, _⟩ := badE_f hbe
  obtain ⟨HD, hg⟩ := storeOK_good hso
  have hll := HD.lo
  have hfr := hs.fr
  have heo : engineOK e = engOK e := by unfold engineOK; rw [hso, Bool.true_and]
  rw [heo]
  refine cx_skip ?_
  refine cx_keep rfl rfl (cx_seq (cx_seq (cx_ops ?_)))
  refine ax_q (q_fadr_ptr rfl) ?_
  refine ax_q (q_load1_ptr rfl rfl rfl) ?_
  refine ax_q (q_not rfl) ?_
  refine ax_nil (cx_keep rfl rfl ?_)
  refine cx_cond rfl (fun h1 => ?_) (fun h1 => ?_)
  ·
   have h1 : e.Up = false := by simpa using h1
   refine cx_seq (cx_ops ?_)
   refine ax_q (q_fadr_ptr rfl) ?_
   refine ax_q (q_load1_ptr rfl rfl rfl) ?_
   refine ax_q (q_lenS_map rfl) ?_
   refine ax_q (q_ibin rfl rfl rfl) ?_
   refine ax_q (q_mov rfl) ?_
   apply ax_and rfl rfl
   ·
    intro g
    have g := dT g
    refine ax_q (q_fadr_ptr rfl) ?_
    refine ax_q (q_fadr_ptr rfl) ?_
    refine ax_q (q_load1_ptr rfl rfl rfl) ?_
    refine ax_q (q_lenS_map rfl) ?_
    refine ax_q (q_ibin rfl rfl rfl) ?_
    exact ax_nil ⟨rfl, by repeat constructor⟩
   refine ax_q (q_mov rfl) ?_
   apply ax_and rfl rfl
   ·
    intro g
    have g := (fun h => And.intro (dT (and_T h).1) (dT (and_T h).2)) g
    refine ax_q (q_fadr_ptr rfl) ?_
    refine ax_q (q_fadr_ptr rfl) ?_
    refine ax_q (q_load1_ptr rfl rfl rfl) ?_
    refine ax_q (q_lenS_map rfl) ?_
    refine ax_q (q_ibin rfl rfl rfl) ?_
    exact ax_nil ⟨rfl, by repeat constructor⟩
   refine ax_q (q_mov rfl) ?_
   apply ax_and rfl rfl
   ·
    intro g
    have g := (fun h => And.intro ((fun h => And.intro (dT (and_T h).1) (dT (and_T h).2)) (and_T h).1) (dT (and_T h).2)) g
    refine ax_q (q_fadr_ptr rfl) ?_
    refine ax_q (q_fadr_ptr rfl) ?_
    refine ax_q (q_load1_ptr rfl rfl rfl) ?_
    refine ax_q (q_lenS_map rfl) ?_
    refine ax_q (q_ibin rfl rfl rfl) ?_
    exact ax_nil ⟨rfl, by repeat constructor⟩
   refine ax_q (q_mov rfl) ?_
   refine ax_nil (cx_keep rfl rfl ?_)
   refine cx_ret (ret0 rfl rfl ?_)
   exact ⟨by rw [eng_d hbe h1, ← emptyE_bool]; rfl, rfl⟩
  ·
   have h1 : e.Up = true := by simpa using h1
   refine cx_skip ?_
   refine cx_keep rfl rfl (cx_seq (cx_seq (cx_ops ?_)))
   refine ax_q (q_mov rfl) ?_
   refine ax_nil (cx_keep rfl rfl (cx_block ?_))
   refine cx_loopU (fun m k => k ≤ e.Txs.length ∧ m = e.Txs.length - k ∧ ∀ j (hj : j < e.Txs.length), j < k → txBad e j e.Txs[j] (e.Txs.getD (j - 1) .zero).Id = false) (fun k : Nat => [(3, int k)]) (fun _ => [(1, .box (e.row.map .d))]) ⟨_, 0, ⟨Nat.zero_le _, rfl, fun j _ hj => by omega⟩, by repeat constructor⟩ ?_
   rintro m k ⟨hk, rfl, htx⟩
   refine cx_seq (cx_seq (cx_ops ?_))
   refine ax_q (q_mov rfl) ?_
   refine ax_q (q_fadr_ptr rfl) ?_
   refine ax_q (q_load1_ptr rfl rfl rfl) ?_
   refine ax_q (q_lenS_map rfl) ?_
   refine ax_q (q_ibin rfl rfl rfl) ?_
   refine ax_nil (cx_keep rfl rfl ?_)
   refine cx_cond rfl (fun h2 => ?_) (fun h2 => ?_)
   ·
    have h2 := dT h2
    have h0x : k < e.Txs.length := by omega
    refine cx_skip ?_
    refine cx_keep rfl rfl (cx_seq (cx_block (cx_seq (cx_ops ?_))))
    refine ax_q (q_fadr_ptr rfl) ?_
    refine ax_q (q_load1_ptr rfl rfl rfl) ?_
    refine ax_q (q_mov rfl) ?_
    refine ax_q (q_ix rfl rfl (mapAt h0x)) ?_
    first | refine ax_q (q_ldN rfl rfl rfl) ?_ | refine ax_q (q_loadN_ip rfl (Nat.le_refl _)) ?_
    refine ax_e (e_alloc (by decide) rfl rfl) ?_
    refine ax_e (e_st rfl rfl rfl rfl rfl rfl rfl) ?_
    refine ax_nil (cx_keep rfl rfl (cx_seq (cx_seq (cx_draw ?_))))
    refine ax_q (q_fadr_ptr rfl) ?_
    refine ax_q (q_load1_ptr rfl rfl rfl) ?_
    refine ax_q (q_fadr_ptr rfl) ?_
    refine ax_q (q_load1_ptr rfl rfl rfl) ?_
    refine ax_qe (r' := int (e.Next - 1)) (q_ibin rfl rfl rfl) (by rw [wi (by omega) (by omega)]) ?_
    refine ax_callq rfl (c_l01In  ) hP (lal_id _ rfl) rfl ?_
    refine ax_q (q_not rfl) ?_
    refine ax_q (q_mov rfl) ?_
    apply ax_or rfl rfl
    ·
     intro g
     have g := bF g
     refine ax_q (q_mov rfl) ?_
     refine ax_q (q_ibin rfl rfl rfl) ?_
     refine ax_q (q_mov rfl) ?_
     apply ax_and rfl rfl
     ·
      intro g
      have g := dT g
      refine ax_q (q_fadr_ptr rfl) ?_
      refine ax_q (q_load1_ptr rfl rfl rfl) ?_
      refine ax_q (q_mov rfl) ?_
      refine ax_qe (r' := int ((k - 1 : Nat) : Int)) (q_ibin rfl rfl rfl) (by rw [wi (by omega) (by omega)]; exact congrArg AM.int (by omega)) ?_
      refine ax_q (q_ix rfl rfl (mapAtZ (z := .zero) (by omega))) ?_
      first | refine ax_q (q_fadr_ptr rfl) ?_ | refine ax_q (q_fadr_rptr rfl) ?_ | refine ax_q (q_fadr_ip rfl) ?_
      first | refine ax_q (q_load1_ptr rfl rfl rfl) ?_ | refine ax_q (q_load1_ip rfl) ?_
      refine ax_q (q_fadr_ptr rfl) ?_
      refine ax_q (q_load1_ptr rfl rfl rfl) ?_
      refine ax_q (q_ibin rfl rfl rfl) ?_
      exact ax_nil ⟨rfl, by repeat constructor⟩
     exact ax_nil ⟨rfl, by repeat constructor⟩
    refine ax_q (q_mov rfl) ?_
    apply ax_or rfl rfl
    ·
     intro g
     have g := (fun h => And.intro (bF (or_F h).1) ((fun h => (and_F h).imp dF dF) (or_F h).2)) g
     refine ax_q (q_fadr_ptr rfl) ?_
     refine ax_q (q_load1_ptr rfl rfl rfl) ?_
     refine ax_q (q_fadr_ptr rfl) ?_
     refine ax_q (q_fadr_ptr rfl) ?_
     refine ax_q (q_load1_ptr rfl rfl rfl) ?_
     refine ax_q (q_lenS_map rfl) ?_
     refine ax_callq rfl (c_l01In  ) hP (lal_id _ rfl) rfl ?_
     refine ax_q (q_not rfl) ?_
     exact ax_nil ⟨rfl, by repeat constructor⟩
    refine ax_nil (cx_keep rfl rfl ?_)
    refine cx_cond rfl (fun h3 => ?_) (fun h3 => ?_)
    ·
     have h3 : txBad2 e k e.Txs[k] (e.Txs.getD (k - 1) .zero).Id = true := h3
     have h3 := txBad2_t h3
     refine cx_seq (cx_ops ?_)
     refine ax_q (q_mov rfl) ?_
     refine ax_nil (cx_keep rfl rfl ?_)
     refine cx_ret (ret0 rfl rfl ?_)
     exact ⟨by rw [eng_u hbe h1, txs_no h0x h3]; rfl, rfl⟩
    ·
     have h3 : txBad2 e k e.Txs[k] (e.Txs.getD (k - 1) .zero).Id = false := h3
     obtain ⟨hlk, hbk2⟩ := txBad2_f h3
     refine cx_skip ?_
     refine cx_keep rfl rfl (cx_seq (cx_ops ?_))
     refine ax_q (q_fadr_ptr rfl) ?_
     refine ax_q (q_load1_ptr rfl rfl rfl) ?_
     refine ax_q (q_mov rfl) ?_
     refine ax_nil (cx_keep rfl rfl (cx_block ?_))
     refine cx_loopU (fun m (p : Int × Nat) => m = p.2 ∧ 0 ≤ p.1 ∧ p.1 ≤ e.Store.Log.length ∧ p.1 < (p.2 : Int) ∧ (0 < p.1 → chainF e.Store.Log e.Txs[k].Id 61 e.Txs[k].Last = chainF e.Store.Log e.Txs[k].Id p.2 p.1) ∧ (p.1 = 0 → chainF e.Store.Log e.Txs[k].Id 61 e.Txs[k].Last = true)) (fun p => [(5, int p.1)]) (fun _ => [(1, .box (e.row.map .d)), (4, .box (e.Txs[k].row.map .d))]) ⟨_, (e.Txs[k].Last, 61), ⟨rfl, by simp only; omega, hlk.2, by simp only; omega, fun _ => rfl, fun h => absurd h (by simp only; omega)⟩, by repeat constructor⟩ ?_
     rintro m ⟨n, f⟩ ⟨rfl, hn1, hn2, hnf, hc1, hc0⟩
     simp only at hn1 hn2 hnf hc1 hc0 ⊢
     refine cx_seq (cx_seq (cx_ops ?_))
     refine ax_q (q_mov rfl) ?_
     refine ax_q (q_ibin rfl rfl rfl) ?_
     refine ax_nil (cx_keep rfl rfl ?_)
     refine cx_cond rfl (fun h4 => ?_) (fun h4 => ?_)
     ·
      have h4 := dT h4
      obtain ⟨f, rfl⟩ : ∃ f2, m = f2 + 1 := ⟨m - 1, by omega⟩
      have hn : 1 ≤ n ∧ n ≤ e.Store.Log.length := by omega
      obtain ⟨_, hln, hin⟩ := goodA_at hg hn
      have hpr := hin.p
      have hnx := hin.n
      refine cx_skip ?_
      refine cx_keep rfl rfl (cx_seq (cx_block (cx_seq (cx_ops ?_))))
      refine ax_q (q_fadr_ptr rfl) ?_
      refine ax_q (q_fadr_ptr rfl) ?_
      refine ax_q (q_load1_ptr rfl rfl rfl) ?_
      refine ax_q (q_mov rfl) ?_
      refine ax_qe (r' := int (n - 1)) (q_ibin rfl rfl rfl) (by rw [wi (by omega) (by omega)]) ?_
      refine ax_q (q_ixI rfl rfl (by omega) (recAt_get hn)) ?_
      first | refine ax_q (q_ldN rfl rfl rfl) ?_ | refine ax_q (q_loadN_ip rfl (Nat.le_refl _)) ?_
      refine ax_e (e_alloc (by decide) rfl rfl) ?_
      refine ax_e (e_st rfl rfl rfl rfl rfl rfl rfl) ?_
      refine ax_nil (cx_keep rfl rfl (cx_seq (cx_ops ?_)))
      refine ax_q (q_fadr_ptr rfl) ?_
      refine ax_q (q_load1_ptr rfl rfl rfl) ?_
      refine ax_q (q_fadr_ptr rfl) ?_
      refine ax_q (q_load1_ptr rfl rfl rfl) ?_
      refine ax_q (q_ibin rfl rfl rfl) ?_
      refine ax_q (q_mov rfl) ?_
      apply ax_or rfl rfl
      ·
       intro g
       have g := nF g
       refine ax_q (q_fadr_ptr rfl) ?_
       refine ax_q (q_load1_ptr rfl rfl rfl) ?_
       refine ax_q (q_ibin rfl rfl rfl) ?_
       exact ax_nil ⟨rfl, by repeat constructor⟩
      refine ax_q (q_mov rfl) ?_
      apply ax_or rfl rfl
      ·
       intro g
       have g := (fun h => And.intro (nF (or_F h).1) (dF (or_F h).2)) g
       refine ax_q (q_fadr_ptr rfl) ?_
       refine ax_q (q_load1_ptr rfl rfl rfl) ?_
       refine ax_q (q_ibin rfl rfl rfl) ?_
       exact ax_nil ⟨rfl, by repeat constructor⟩
      refine ax_q (q_mov rfl) ?_
      apply ax_or rfl rfl
      ·
       intro g
       have g := (fun h => And.intro ((fun h => And.intro (nF (or_F h).1) (dF (or_F h).2)) (or_F h).1) (dF (or_F h).2)) g
       refine ax_q (q_fadr_ptr rfl) ?_
       refine ax_q (q_load1_ptr rfl rfl rfl) ?_
       refine ax_q (q_ibin rfl rfl rfl) ?_
       exact ax_nil ⟨rfl, by repeat constructor⟩
      refine ax_q (q_mov rfl) ?_
      apply ax_or rfl rfl
      ·
       intro g
       have g := (fun h => And.intro ((fun h => And.intro ((fun h => And.intro (nF (or_F h).1) (dF (or_F h).2)) (or_F h).1) (dF (or_F h).2)) (or_F h).1) (dF (or_F h).2)) g
       refine ax_q (q_fadr_ptr rfl) ?_
       refine ax_q (q_load1_ptr rfl rfl rfl) ?_
       refine ax_q (q_ibin rfl rfl rfl) ?_
       refine ax_q (q_mov rfl) ?_
       apply ax_and rfl rfl
       ·
        intro g
        have g := dT g
        refine ax_q (q_fadr_ptr rfl) ?_
        refine ax_q (q_ldN rfl rfl rfl) ?_
        refine ax_q (q_ldN rfl rfl rfl) ?_
        refine ax_call rfl (vc_pure0 (c_l07Back (s := e.Store) (x := (recAt e.Store.Log n)) ?_ ?_) hP rfl rfl ?_)
        ·
         assumption
        ·
         first | assumption | omega
        refine ax_q (q_not rfl) ?_
        exact ax_nil ⟨rfl, by repeat constructor⟩
       exact ax_nil ⟨rfl, by repeat constructor⟩
      refine ax_nil (cx_keep rfl rfl ?_)
      refine cx_cond rfl (fun h5 => ?_) (fun h5 => ?_)
      ·
       have h5 : recBad e.Store.Log (recAt e.Store.Log n) e.Txs[k].Id = true := h5
       have h5 := recBad_t hg (f := f + 1) hn h5
       refine cx_seq (cx_ops ?_)
       refine ax_q (q_mov rfl) ?_
       refine ax_nil (cx_keep rfl rfl ?_)
       refine cx_ret (ret0 rfl rfl ?_)
       have hb3 : txBad e k e.Txs[k] (e.Txs.getD (k - 1) .zero).Id = true := by unfold txBad; rw [hc1 (by omega), h5]; simp
       exact ⟨by rw [eng_u hbe h1, txs_no h0x hb3]; rfl, rfl⟩
      ·
       have h5 : recBad e.Store.Log (recAt e.Store.Log n) e.Txs[k].Id = false := h5
       have hst := recBad_f hg hn h5
       refine cx_skip ?_
       refine cx_keep rfl rfl (cx_ops ?_)
       refine ax_q (q_fadr_ptr rfl) ?_
       refine ax_q (q_fadr_ptr rfl) ?_
       refine ax_q (q_load1_ptr rfl rfl rfl) ?_
       refine ax_q (q_mov rfl) ?_
       refine ax_qe (r' := int (n - 1)) (q_ibin rfl rfl rfl) (by rw [wi (by omega) (by omega)]) ?_
       refine ax_q (q_ixI rfl rfl (by omega) (recAt_get hn)) ?_
       first | refine ax_q (q_fadr_ptr rfl) ?_ | refine ax_q (q_fadr_rptr rfl) ?_ | refine ax_q (q_fadr_ip rfl) ?_
       first | refine ax_q (q_load1_ptr rfl rfl rfl) ?_ | refine ax_q (q_load1_ip rfl) ?_
       refine ax_q (q_mov rfl) ?_
       refine ax_nil ?_
       exact ⟨_, ((recAt e.Store.Log n).Prev, f), by simp only; omega, ⟨rfl, hpr.1, by simp only; omega, by simp only; omega, fun h => by rw [hc1 (by omega), chain_s hst.1 hst.2 (by simp only at h; omega)], fun h => by rw [hc1 (by omega), chain_0 hst.1 hst.2 h]⟩, by repeat constructor⟩
     ·
      have h4 := dF h4
      have htk := hbk2 (hc0 (by omega))
      refine cx_exit rfl ?_
      refine cx_keep rfl rfl (cx_ops ?_)
      refine ax_q (q_mov rfl) ?_
      refine ax_qe (r' := int ((k + 1 : Nat) : Int)) (q_ibin rfl rfl rfl) (by rw [wi (by omega) (by omega)]; rfl) ?_
      refine ax_q (q_mov rfl) ?_
      refine ax_nil ?_
      exact ⟨_, k + 1, by omega, ⟨by omega, rfl, fun j hj hjk => by
       rcases Nat.lt_succ_iff_lt_or_eq.1 hjk with q | rfl
       ·
        exact htx j hj q
       ·
        exact htk⟩, by repeat constructor⟩
   ·
    have h2 := dF h2
    have hto := txs_all (e := e) (fun j hj => htx j hj (by omega))
    have hlast : ∀ t ∈ e.Txs, 1 ≤ t.Last ∧ t.Last ≤ e.Store.Log.length := fun t ht => by
     obtain ⟨j, hj, rfl⟩ := List.getElem_of_mem ht
     exact txBad_last (htx j hj (by omega))
    refine cx_exit rfl ?_
    refine cx_keep rfl rfl (cx_seq (cx_seq (cx_ops ?_)))
    refine ax_q (q_mov rfl) ?_
    refine ax_nil (cx_keep rfl rfl (cx_block ?_))
    refine cx_loopU (fun m k => k ≤ e.Locks.Held.length ∧ m = e.Locks.Held.length - k ∧ ∀ j, j < k → ∀ x, e.Locks.Held[j]? = some x → (fun l => decide (txAt e l.Tx < 0)) x = false) (fun k : Nat => [(7, int k)]) (fun _ => [(1, .box (e.row.map .d))]) ⟨_, 0, ⟨Nat.zero_le _, rfl, fun j hj => by omega⟩, by repeat constructor⟩ ?_
    rintro m k ⟨hk, rfl, hH⟩
    refine cx_seq (cx_seq (cx_ops ?_))
    refine ax_q (q_mov rfl) ?_
    refine ax_q (q_fadr_ptr rfl) ?_
    refine ax_q (q_fadr_ptr rfl) ?_
    refine ax_q (q_load1_ptr rfl rfl rfl) ?_
    refine ax_q (q_lenS_map rfl) ?_
    refine ax_q (q_ibin rfl rfl rfl) ?_
    refine ax_nil (cx_keep rfl rfl ?_)
    refine cx_cond rfl (fun h6 => ?_) (fun h6 => ?_)
    ·
     have h6 := dT h6
     have h6x : k < e.Locks.Held.length := by omega
     refine cx_skip ?_
     refine cx_keep rfl rfl (cx_seq (cx_block (cx_seq (cx_draw ?_))))
     refine ax_q (q_ldN rfl rfl rfl) ?_
     refine ax_q (q_fadr_ptr rfl) ?_
     refine ax_q (q_fadr_ptr rfl) ?_
     refine ax_q (q_load1_ptr rfl rfl rfl) ?_
     refine ax_q (q_mov rfl) ?_
     refine ax_q (q_ix rfl rfl (mapAt h6x)) ?_
     first | refine ax_q (q_fadr_ptr rfl) ?_ | refine ax_q (q_fadr_rptr rfl) ?_ | refine ax_q (q_fadr_ip rfl) ?_
     first | refine ax_q (q_load1_ptr rfl rfl rfl) ?_ | refine ax_q (q_load1_ip rfl) ?_
     refine ax_callq rfl (c_l07Tx (e := e) ?_) hP (lal_id _ rfl) rfl ?_
     ·
      assumption
     refine ax_q (q_ibin rfl rfl rfl) ?_
     refine ax_nil (cx_keep rfl rfl ?_)
     refine cx_cond rfl (fun h7 => ?_) (fun h7 => ?_)
     ·
      have h7 : (fun l => decide (txAt e l.Tx < 0)) e.Locks.Held[k] = true := h7
      refine cx_seq (cx_ops ?_)
      refine ax_q (q_mov rfl) ?_
      refine ax_nil (cx_keep rfl rfl ?_)
      refine cx_ret (ret0 rfl rfl ?_)
      exact ⟨by rw [eng_u hbe h1, show badHeld e = true from any_hit h6x h7, Bool.not_true, Bool.false_and, Bool.false_and, Bool.and_false]; rfl, rfl⟩
     ·
      have hbk : (fun l => decide (txAt e l.Tx < 0)) e.Locks.Held[k] = false := h7
      refine cx_skip ?_
      refine cx_keep rfl rfl (cx_ops ?_)
      refine ax_q (q_mov rfl) ?_
      refine ax_qe (r' := int ((k + 1 : Nat) : Int)) (q_ibin rfl rfl rfl) (by rw [wi (by omega) (by omega)]; rfl) ?_
      refine ax_q (q_mov rfl) ?_
      refine ax_nil ?_
      exact ⟨_, k + 1, by omega, ⟨by omega, rfl, before_step h6x hH hbk⟩, by repeat constructor⟩
    ·
     have h6 := dF h6
     have hHo : badHeld e = false := any_all (fun i hi => hH i (by omega))
     refine cx_exit rfl ?_
     refine cx_keep rfl rfl (cx_seq (cx_seq (cx_ops ?_)))
     refine ax_q (q_mov rfl) ?_
     refine ax_nil (cx_keep rfl rfl (cx_block ?_))
     refine cx_loopU (fun m k => k ≤ e.Locks.Waits.length ∧ m = e.Locks.Waits.length - k ∧ ∀ j, j < k → ∀ x, e.Locks.Waits[j]? = some x → (fun w => decide (txAt e w.Tx < 0) || decide (txAt e w.For < 0)) x = false) (fun k : Nat => [(8, int k)]) (fun _ => [(1, .box (e.row.map .d))]) ⟨_, 0, ⟨Nat.zero_le _, rfl, fun j hj => by omega⟩, by repeat constructor⟩ ?_
     rintro m k ⟨hk, rfl, hW⟩
     refine cx_seq (cx_seq (cx_ops ?_))
     refine ax_q (q_mov rfl) ?_
     refine ax_q (q_fadr_ptr rfl) ?_
     refine ax_q (q_fadr_ptr rfl) ?_
     refine ax_q (q_load1_ptr rfl rfl rfl) ?_
     refine ax_q (q_lenS_map rfl) ?_
     refine ax_q (q_ibin rfl rfl rfl) ?_
     refine ax_nil (cx_keep rfl rfl ?_)
     refine cx_cond rfl (fun h8 => ?_) (fun h8 => ?_)
     ·
      have h8 := dT h8
      have h8x : k < e.Locks.Waits.length := by omega
      refine cx_skip ?_
      refine cx_keep rfl rfl (cx_seq (cx_block (cx_seq (cx_draw ?_))))
      refine ax_q (q_ldN rfl rfl rfl) ?_
      refine ax_q (q_fadr_ptr rfl) ?_
      refine ax_q (q_fadr_ptr rfl) ?_
      refine ax_q (q_load1_ptr rfl rfl rfl) ?_
      refine ax_q (q_mov rfl) ?_
      refine ax_q (q_ix rfl rfl (mapAt h8x)) ?_
      first | refine ax_q (q_fadr_ptr rfl) ?_ | refine ax_q (q_fadr_rptr rfl) ?_ | refine ax_q (q_fadr_ip rfl) ?_
      first | refine ax_q (q_load1_ptr rfl rfl rfl) ?_ | refine ax_q (q_load1_ip rfl) ?_
      refine ax_callq rfl (c_l07Tx (e := e) ?_) hP (lal_id _ rfl) rfl ?_
      ·
       assumption
      refine ax_q (q_ibin rfl rfl rfl) ?_
      refine ax_q (q_mov rfl) ?_
      apply ax_or rfl rfl
      ·
       intro g
       have g := dF g
       refine ax_q (q_ldN rfl rfl rfl) ?_
       refine ax_q (q_fadr_ptr rfl) ?_
       refine ax_q (q_fadr_ptr rfl) ?_
       refine ax_q (q_load1_ptr rfl rfl rfl) ?_
       refine ax_q (q_mov rfl) ?_
       refine ax_q (q_ix rfl rfl (mapAt h8x)) ?_
       first | refine ax_q (q_fadr_ptr rfl) ?_ | refine ax_q (q_fadr_rptr rfl) ?_ | refine ax_q (q_fadr_ip rfl) ?_
       first | refine ax_q (q_load1_ptr rfl rfl rfl) ?_ | refine ax_q (q_load1_ip rfl) ?_
       refine ax_callq rfl (c_l07Tx (e := e) ?_) hP (lal_id _ rfl) rfl ?_
       ·
        assumption
       refine ax_q (q_ibin rfl rfl rfl) ?_
       exact ax_nil ⟨rfl, by repeat constructor⟩
      refine ax_nil (cx_keep rfl rfl ?_)
      refine cx_cond rfl (fun h9 => ?_) (fun h9 => ?_)
      ·
       have h9 : (fun w => decide (txAt e w.Tx < 0) || decide (txAt e w.For < 0)) e.Locks.Waits[k] = true := h9
       refine cx_seq (cx_ops ?_)
       refine ax_q (q_mov rfl) ?_
       refine ax_nil (cx_keep rfl rfl ?_)
       refine cx_ret (ret0 rfl rfl ?_)
       exact ⟨by rw [eng_u hbe h1, show badWaits e = true from any_hit h8x h9, Bool.not_true, Bool.and_false, Bool.false_and, Bool.and_false]; rfl, rfl⟩
      ·
       have hbk : (fun w => decide (txAt e w.Tx < 0) || decide (txAt e w.For < 0)) e.Locks.Waits[k] = false := h9
       refine cx_skip ?_
       refine cx_keep rfl rfl (cx_ops ?_)
       refine ax_q (q_mov rfl) ?_
       refine ax_qe (r' := int ((k + 1 : Nat) : Int)) (q_ibin rfl rfl rfl) (by rw [wi (by omega) (by omega)]; rfl) ?_
       refine ax_q (q_mov rfl) ?_
       refine ax_nil ?_
       exact ⟨_, k + 1, by omega, ⟨by omega, rfl, before_step h8x hW hbk⟩, by repeat constructor⟩
     ·
      have h8 := dF h8
      have hWo : badWaits e = false := any_all (fun i hi => hW i (by omega))
      have hnl := @needsK_le e e.Txs.length
      rw [needsK_end] at hnl
      refine cx_exit rfl ?_
      refine cx_keep rfl rfl (cx_seq (cx_draw ?_))
      refine ax_q (q_fadr_ptr rfl) ?_
      refine ax_q (q_fadr_ptr rfl) ?_
      refine ax_q (q_load1_ptr rfl rfl rfl) ?_
      refine ax_q (q_lenS_map rfl) ?_
      refine ax_q (q_ldN rfl rfl rfl) ?_
      refine ax_callq rfl (c_l07Reserve (e := e) ?_ ?_ ?_ ?_) hP (lal_id _ rfl) rfl ?_
      ·
       assumption
      ·
       assumption
      ·
       assumption
      ·
       assumption
      refine ax_qe (r' := int ((e.Store.Log.length + needsF e : Nat) : Int)) (q_ibin rfl rfl rfl) (by rw [wi (by omega) (by omega)]; exact congrArg AM.int (by omega)) ?_
      refine ax_q (q_ibin rfl rfl rfl) ?_
      refine ax_q (q_mov rfl) ?_
      refine ax_nil (cx_keep rfl rfl ?_)
      refine cx_ret (ret0 rfl rfl ?_)
      exact ⟨by rw [eng_u hbe h1, hto, hHo, hWo]; rfl, rfl⟩


/- loop.example/g00332/spec.UndoNeeds -/
def k_c_sUndoNeeds : XCode :=
 .seq (.ops [.op (some 1) (.box (.t 0)),
   .op (some 2) (.mov (.k (.int .i64 0))),
   .op (some 3) (.mov (.k (.int .i64 0)))])
 (.keep [1] (.seq (.seq (.ops [.op (some 4) (.loadN 14 (.t 1)),
   .call (some 5) 8 [.t 4],
   .op (some 6) (.not (.t 5))])
  (.keep [1, 6] (.cond (.t 6)
  (.seq (.ops [.op (some 2) (.mov (.k (.int .i64 0))),
    .op (some 3) (.mov (.k (.int .i64 1)))])
   (.keep [2, 3] (.ret)))
  (.skip))))
 (.keep [1] (.seq (.ops [.op (some 7) (.loadN 14 (.t 1)),
   .call (some 8) 40 [.t 7],
   .op (some 2) (.mov (.t 8)),
   .op (some 3) (.mov (.k (.int .i64 0)))])
 (.keep [2, 3] (.ret))))))
theorem k_c_sUndoNeeds_fits : fitsF Tryz.prog 12 ⟨9, k_c_sUndoNeeds, [.t 2, .t 3]⟩ = true := by kernel_rfl
theorem c_sUndoNeeds {e : GEngine} (hb : EnB e) : Con Tryz.prog noMv 12 [e.av] [] (fun r h => r = .tup [int (undoNeeds e).1, int (undoNeeds e).2] ∧ h = []) := by
 refine con_of2 k_c_sUndoNeeds_fits rfl fun C hP hmv => ?_
 unfold k_c_sUndoNeeds
 refine cx_seq (cx_ops ?_)
 refine ax_e (e_box rfl rfl (by decide) rfl rfl rfl) ?_
 refine ax_q (q_mov rfl) ?_
 refine ax_q (q_mov rfl) ?_
 refine ax_nil (cx_keep rfl rfl (cx_seq (cx_seq (cx_ops ?_))))
 refine ax_q (q_ldN rfl rfl rfl) ?_
 refine ax_call rfl (vc_pure0 (c_sEngineOK (e := e) ?_) hP rfl rfl ?_)
 ·
  assumption
 refine ax_q (q_not rfl) ?_
 refine ax_nil (cx_keep rfl rfl ?_)
 refine cx_cond rfl (fun h0 => ?_) (fun h0 => ?_)
 ·
  have h0 : engineOK e = false := by simpa using h0
  refine cx_seq (cx_ops ?_)
  refine ax_q (q_mov rfl) ?_
  refine ax_q (q_mov rfl) ?_
  refine ax_nil (cx_keep rfl rfl ?_)
  refine cx_ret (ret0 rfl rfl ?_)
  exact ⟨by rw [undoN_1 h0]; rfl, rfl⟩
 ·
  have h0 : engineOK e = true := by simpa using h0
  obtain ⟨HD, hg, hlast, ht10⟩ := engineOK_store h0
  refine cx_skip ?_
  refine cx_keep rfl rfl (cx_seq (cx_ops ?_))
  refine ax_q (q_ldN rfl rfl rfl) ?_
  refine ax_call rfl (vc_pure0 (c_l07Reserve (e := e) ?_ ?_ ?_ ?_) hP rfl rfl ?_)
  ·
   exact HD.lo
  ·
   assumption
  ·
   assumption
  ·
   assumption
  refine ax_q (q_mov rfl) ?_
  refine ax_q (q_mov rfl) ?_
  refine ax_nil (cx_keep rfl rfl ?_)
  refine cx_ret (ret0 rfl rfl ?_)
  exact ⟨by rw [undoN_2 h0]; rfl, rfl⟩


/- loop.example/g00332/impl.inRange -/
def k_c_inRange : XCode :=
 .seq (.ops [.op (some 6) (.mov (.k (.bool false)))])
 (.keep [0, 1, 2] (.seq (.ops [.op (some 7) (.mov (.t 1)),
   .op (some 8) (.mov (.t 0)),
   .op (some 9) (.bin .leq (.t 7) (.t 8)),
   .op (some 10) (.mov (.t 9)),
   .andor 14 true 3 10 [.op (some 11) (.mov (.t 0)), .op (some 12) (.mov (.t 2)), .op (some 13) (.bin .leq (.t 11) (.t 12))] (.t 13),
   .op (some 6) (.mov (.t 14))])
 (.keep [6] (.ret))))
theorem k_c_inRange_fits : fitsF Tryz.prog 63 ⟨15, k_c_inRange, [.t 6]⟩ = true := by kernel_rfl
theorem c_inRange {n lo hi : Int} : Con Tryz.prog noMv 63 [int n, int lo, int hi] [] (fun r h => r = bool (inR n lo hi) ∧ h = []) := by
 refine con_of2 k_c_inRange_fits rfl fun C hP hmv => ?_
 unfold k_c_inRange
 refine cx_seq (cx_ops ?_)
 refine ax_q (q_mov rfl) ?_
 refine ax_nil (cx_keep rfl rfl (cx_seq (cx_ops ?_)))
 refine ax_q (q_mov rfl) ?_
 refine ax_q (q_mov rfl) ?_
 refine ax_q (q_ibin rfl rfl rfl) ?_
 refine ax_q (q_mov rfl) ?_
 apply ax_and rfl rfl
 ·
  intro g
  have g := dT g
  refine ax_q (q_mov rfl) ?_
  refine ax_q (q_mov rfl) ?_
  refine ax_q (q_ibin rfl rfl rfl) ?_
  exact ax_nil ⟨rfl, by repeat constructor⟩
 refine ax_q (q_mov rfl) ?_
 refine ax_nil (cx_keep rfl rfl ?_)
 refine cx_ret (ret0 rfl rfl ?_)
 exact ⟨rfl, rfl⟩


/- slices.IndexFunc[[]string,string] -/
def k_c_IndexFunc_Str : XCode :=
 .seq (.ops [.op (some 4) (.mov (.k (.int .i64 0)))])
 (.keep [0, 1] (.seq (.seq (.ops [.op (some 6) (.mov (.t 0)),
   .op (some 7) (.lenS (.t 6)),
   .op (some 8) (.mov (.k (.int .i64 0)))])
  (.keep [0, 1, 7, 8] (.block 0 (.loop (.seq (.ops [.op (some 9) (.bin .lss (.t 8) (.t 7))])
   (.keep [0, 1, 7, 8, 9] (.seq (.cond (.t 9)
    (.skip)
    (.exit 0))
   (.keep [0, 1, 7, 8] (.seq (.block 1 (.seq (.ops [.op (some 10) (.mov (.t 8)),
     .op (some 5) (.mov (.t 10))])
    (.keep [0, 1, 5, 7, 8] (.seq (.ops [.op (some 11) (.mov (.t 1)),
     .op (some 12) (.mov (.t 0)),
     .op (some 13) (.mov (.t 5)),
     .op (some 14) (.iadr 1 (.t 12) (.t 13)),
     .op (some 15) (.load1 (.t 14)),
     .callv (some 16) (.t 11) [.t 15]])
    (.keep [0, 1, 5, 7, 8, 16] (.cond (.t 16)
    (.seq (.ops [.op (some 17) (.mov (.t 5)),
      .op (some 4) (.mov (.t 17))])
     (.keep [4] (.ret)))
    (.skip)))))))
   (.keep [0, 1, 7, 8] (.ops [.op (some 18) (.bin .add (.t 8) (.k (.int .i64 1))),
    .op (some 8) (.mov (.t 18))])))))))))))
 (.keep [] (.seq (.ops [.op (some 4) (.mov (.k (.int .i64 (-1))))])
 (.keep [4] (.ret))))))
theorem k_c_IndexFunc_Str_fits : fitsF Tryz.prog 206 ⟨19, k_c_IndexFunc_Str, [.t 4]⟩ = true := by kernel_rfl
theorem c_IndexFunc_Str {xs : List Str} {f : Nat} {ds : List D} (p : Str → Bool) (hw : xs.length ≤ 9223372036854775807) (hb : hasBody Tryz.prog f = true) (hf : ∀ s ∈ xs, Con Tryz.prog noMv f (str s :: ds.map AV.d) [] (fun r h => r = bool (p s) ∧ h = [])) : Con Tryz.prog noMv 206 [.d (.sl 1 (xs.map strRow)), .d (.fn (.func f) ds)] [] (fun r h => r = int (idxOf p xs 0) ∧ h = []) := by
 refine con_of2 k_c_IndexFunc_Str_fits rfl fun C hP hmv => ?_
 unfold k_c_IndexFunc_Str
 refine cx_seq (cx_ops ?_)
 refine ax_q (q_mov rfl) ?_
 refine ax_nil (cx_keep rfl rfl (cx_seq (cx_seq (cx_ops ?_))))
 refine ax_q (q_mov rfl) ?_
 refine ax_q (q_lenS_map rfl) ?_
 refine ax_q (q_mov rfl) ?_
 refine ax_nil (cx_keep rfl rfl (cx_block ?_))
 refine cx_loopU (fun n k => k ≤ xs.length ∧ n = xs.length - k ∧ ∀ i, i < k → ∀ x, xs[i]? = some x → p x = false) (fun k : Nat => [(8, int k)]) (fun _ => []) ⟨_, 0, ⟨by omega, rfl, fun i hi => by omega⟩, by repeat constructor⟩ ?_
 rintro n k ⟨hk, rfl, ht⟩
 refine cx_seq (cx_ops ?_)
 refine ax_q (q_ibin rfl rfl rfl) ?_
 refine ax_nil (cx_keep rfl rfl (cx_seq ?_))
 refine cx_cond rfl (fun h0 => ?_) (fun h0 => ?_)
 ·
  have h0 := dT h0
  have h0x : k < xs.length := by omega
  refine cx_skip ?_
  refine cx_keep rfl rfl (cx_seq (cx_block (cx_seq (cx_ops ?_))))
  refine ax_q (q_mov rfl) ?_
  refine ax_q (q_mov rfl) ?_
  refine ax_nil (cx_keep rfl rfl (cx_seq (cx_ops ?_)))
  refine ax_q (q_mov rfl) ?_
  refine ax_q (q_mov rfl) ?_
  refine ax_q (q_mov rfl) ?_
  refine ax_q (q_ix rfl rfl (mapAt h0x)) ?_
  first | refine ax_q (q_load1_ptr rfl rfl rfl) ?_ | refine ax_q (q_load1_ip rfl) ?_
  refine ax_callvD rfl (by rw [hP]; exact hb) rfl (vc_pure0 (hf _ (List.getElem_mem h0x)) hP (refs_cons rfl ds) rfl ?_)
  refine ax_nil (cx_keep rfl rfl ?_)
  refine cx_cond rfl (fun h1 => ?_) (fun h1 => ?_)
  ·
   skip
   refine cx_seq (cx_ops ?_)
   refine ax_q (q_mov rfl) ?_
   refine ax_q (q_mov rfl) ?_
   refine ax_nil (cx_keep rfl rfl ?_)
   refine cx_ret (ret0 rfl rfl ?_)
   exact ⟨by rw [idxOf_hit h0x ht h1]; rfl, rfl⟩
  ·
   skip
   refine cx_skip ?_
   refine cx_keep rfl rfl (cx_ops ?_)
   refine ax_qe (r' := int ((k + 1 : Nat) : Int)) (q_ibin rfl rfl rfl) (by rw [wi (by omega) (by omega)]; rfl) ?_
   refine ax_q (q_mov rfl) ?_
   refine ax_nil ?_
   exact ⟨_, k + 1, by omega, ⟨by omega, rfl, before_step h0x ht h1⟩, by repeat constructor⟩
 ·
  have h0 := dF h0
  have h0x : k = xs.length := by omega
  refine cx_exit rfl ?_
  refine cx_keep rfl rfl (cx_seq (cx_ops ?_))
  refine ax_q (q_mov rfl) ?_
  refine ax_nil (cx_keep rfl rfl ?_)
  refine cx_ret (ret0 rfl rfl ?_)
  exact ⟨by rw [idxOf_none (fun i hi => ht i (by omega))]; rfl, rfl⟩


/- slices.ContainsFunc[[]string,string] -/
def k_c_ContainsFunc_Str : XCode :=
 .seq (.ops [.op (some 4) (.mov (.k (.bool false)))])
 (.keep [0, 1] (.seq (.ops [.op (some 5) (.mov (.t 0)),
   .op (some 6) (.mov (.t 1)),
   .call (some 7) 206 [.t 5, .t 6],
   .op (some 8) (.bin .geq (.t 7) (.k (.int .i64 0))),
   .op (some 4) (.mov (.t 8))])
 (.keep [4] (.ret))))
theorem k_c_ContainsFunc_Str_fits : fitsF Tryz.prog 142 ⟨9, k_c_ContainsFunc_Str, [.t 4]⟩ = true := by kernel_rfl
theorem c_ContainsFunc_Str {xs : List Str} {f : Nat} {ds : List D} (p : Str → Bool) (hw : xs.length ≤ 9223372036854775807) (hb : hasBody Tryz.prog f = true) (hf : ∀ s ∈ xs, Con Tryz.prog noMv f (str s :: ds.map AV.d) [] (fun r h => r = bool (p s) ∧ h = [])) : Con Tryz.prog noMv 142 [.d (.sl 1 (xs.map strRow)), .d (.fn (.func f) ds)] [] (fun r h => r = bool (xs.any p) ∧ h = []) := by
 refine con_of2 k_c_ContainsFunc_Str_fits rfl fun C hP hmv => ?_
 unfold k_c_ContainsFunc_Str
 refine cx_seq (cx_ops ?_)
 refine ax_q (q_mov rfl) ?_
 refine ax_nil (cx_keep rfl rfl (cx_seq (cx_ops ?_)))
 refine ax_q (q_mov rfl) ?_
 refine ax_q (q_mov rfl) ?_
 refine ax_call rfl (vc_pure0 (c_IndexFunc_Str p hw hb hf) hP rfl rfl ?_)
 refine ax_qe (r' := bool (xs.any p)) (q_ibin rfl rfl rfl) (congrArg AM.bool any_idxOf) ?_
 refine ax_q (q_mov rfl) ?_
 refine ax_nil (cx_keep rfl rfl ?_)
 refine cx_ret (ret0 rfl rfl ?_)
 exact ⟨rfl, rfl⟩


/- loop.example/g00332/impl.DiskOK$1 -/
def k_c_DiskOK1 : XCode :=
 .seq (.ops [.op (some 2) (.mov (.k (.bool false)))])
 (.keep [0] (.seq (.ops [.op (some 3) (.mov (.t 0)),
   .op (some 4) (.lenT (.t 3)),
   .op (some 5) (.bin .gtr (.t 4) (.k (.int .i64 160))),
   .op (some 2) (.mov (.t 5))])
 (.keep [2] (.ret))))
theorem k_c_DiskOK1_fits : fitsF Tryz.prog 143 ⟨6, k_c_DiskOK1, [.t 2]⟩ = true := by kernel_rfl
theorem c_DiskOK1 {s : Str} : Con Tryz.prog noMv 143 [str s] [] (fun r h => r = bool (long160 s) ∧ h = []) := by
 refine con_of2 k_c_DiskOK1_fits rfl fun C hP hmv => ?_
 unfold k_c_DiskOK1
 refine cx_seq (cx_ops ?_)
 refine ax_q (q_mov rfl) ?_
 refine ax_nil (cx_keep rfl rfl (cx_seq (cx_ops ?_)))
 refine ax_q (q_mov rfl) ?_
 refine ax_q (q_lenT rfl) ?_
 refine ax_q (q_ibin rfl rfl rfl) ?_
 refine ax_q (q_mov rfl) ?_
 refine ax_nil (cx_keep rfl rfl ?_)
 refine cx_ret (ret0 rfl rfl ?_)
 exact ⟨rfl, rfl⟩


/- slices.IndexFunc[[]loop.example/g00332/impl.Pending,loop.example/g00332/impl.Pending] -/
def k_c_IndexFunc_Pending : XCode :=
 .seq (.ops [.op (some 4) (.mov (.k (.int .i64 0)))])
 (.keep [0, 1] (.seq (.seq (.ops [.op (some 6) (.mov (.t 0)),
   .op (some 7) (.lenS (.t 6)),
   .op (some 8) (.mov (.k (.int .i64 0)))])
  (.keep [0, 1, 7, 8] (.block 0 (.loop (.seq (.ops [.op (some 9) (.bin .lss (.t 8) (.t 7))])
   (.keep [0, 1, 7, 8, 9] (.seq (.cond (.t 9)
    (.skip)
    (.exit 0))
   (.keep [0, 1, 7, 8] (.seq (.block 1 (.seq (.ops [.op (some 10) (.mov (.t 8)),
     .op (some 5) (.mov (.t 10))])
    (.keep [0, 1, 5, 7, 8] (.seq (.ops [.op (some 11) (.mov (.t 1)),
     .op (some 12) (.mov (.t 0)),
     .op (some 13) (.mov (.t 5)),
     .op (some 14) (.iadr 2 (.t 12) (.t 13)),
     .op (some 15) (.loadN 2 (.t 14)),
     .callv (some 16) (.t 11) [.t 15]])
    (.keep [0, 1, 5, 7, 8, 16] (.cond (.t 16)
    (.seq (.ops [.op (some 17) (.mov (.t 5)),
      .op (some 4) (.mov (.t 17))])
     (.keep [4] (.ret)))
    (.skip)))))))
   (.keep [0, 1, 7, 8] (.ops [.op (some 18) (.bin .add (.t 8) (.k (.int .i64 1))),
    .op (some 8) (.mov (.t 18))])))))))))))
 (.keep [] (.seq (.ops [.op (some 4) (.mov (.k (.int .i64 (-1))))])
 (.keep [4] (.ret))))))
theorem k_c_IndexFunc_Pending_fits : fitsF Tryz.prog 207 ⟨19, k_c_IndexFunc_Pending, [.t 4]⟩ = true := by kernel_rfl
theorem c_IndexFunc_Pending {xs : List GPending} {f : Nat} {ds : List D} (p : GPending → Bool) (hw : xs.length ≤ 9223372036854775807) (hb : hasBody Tryz.prog f = true) (hf : ∀ s ∈ xs, Con Tryz.prog noMv f (s.av :: ds.map AV.d) [] (fun r h => r = bool (p s) ∧ h = [])) : Con Tryz.prog noMv 207 [.d (.sl 2 (xs.map GPending.row)), .d (.fn (.func f) ds)] [] (fun r h => r = int (idxOf p xs 0) ∧ h = []) := by
 refine con_of2 k_c_IndexFunc_Pending_fits rfl fun C hP hmv => ?_
 unfold k_c_IndexFunc_Pending
 refine cx_seq (cx_ops ?_)
 refine ax_q (q_mov rfl) ?_
 refine ax_nil (cx_keep rfl rfl (cx_seq (cx_seq (cx_ops ?_))))
 refine ax_q (q_mov rfl) ?_
 refine ax_q (q_lenS_map rfl) ?_
 refine ax_q (q_mov rfl) ?_
 refine ax_nil (cx_keep rfl rfl (cx_block ?_))
 refine cx_loopU (fun n k => k ≤ xs.length ∧ n = xs.length - k ∧ ∀ i, i < k → ∀ x, xs[i]? = some x → p x = false) (fun k : Nat => [(8, int k)]) (fun _ => []) ⟨_, 0, ⟨by omega, rfl, fun i hi => by omega⟩, by repeat constructor⟩ ?_
 rintro n k ⟨hk, rfl, ht⟩
 refine cx_seq (cx_ops ?_)
 refine ax_q (q_ibin rfl rfl rfl) ?_
 refine ax_nil (cx_keep rfl rfl (cx_seq ?_))
 refine cx_cond rfl (fun h0 => ?_) (fun h0 => ?_)
 ·
  have h0 := dT h0
  have h0x : k < xs.length := by omega
  refine cx_skip ?_
  refine cx_keep rfl rfl (cx_seq (cx_block (cx_seq (cx_ops ?_))))
  refine ax_q (q_mov rfl) ?_
  refine ax_q (q_mov rfl) ?_
  refine ax_nil (cx_keep rfl rfl (cx_seq (cx_ops ?_)))
  refine ax_q (q_mov rfl) ?_
  refine ax_q (q_mov rfl) ?_
  refine ax_q (q_mov rfl) ?_
  refine ax_q (q_ix rfl rfl (mapAt h0x)) ?_
  first | refine ax_q (q_ldN rfl rfl rfl) ?_ | refine ax_q (q_loadN_ip rfl (Nat.le_refl _)) ?_
  refine ax_callvD rfl (by rw [hP]; exact hb) rfl (vc_pure0 (hf _ (List.getElem_mem h0x)) hP (refs_cons rfl ds) rfl ?_)
  refine ax_nil (cx_keep rfl rfl ?_)
  refine cx_cond rfl (fun h1 => ?_) (fun h1 => ?_)
  ·
   skip
   refine cx_seq (cx_ops ?_)
   refine ax_q (q_mov rfl) ?_
   refine ax_q (q_mov rfl) ?_
   refine ax_nil (cx_keep rfl rfl ?_)
   refine cx_ret (ret0 rfl rfl ?_)
   exact ⟨by rw [idxOf_hit h0x ht h1]; rfl, rfl⟩
  ·
   skip
   refine cx_skip ?_
   refine cx_keep rfl rfl (cx_ops ?_)
   refine ax_qe (r' := int ((k + 1 : Nat) : Int)) (q_ibin rfl rfl rfl) (by rw [wi (by omega) (by omega)]; rfl) ?_
   refine ax_q (q_mov rfl) ?_
   refine ax_nil ?_
   exact ⟨_, k + 1, by omega, ⟨by omega, rfl, before_step h0x ht h1⟩, by repeat constructor⟩
 ·
  have h0 := dF h0
  have h0x : k = xs.length := by omega
  refine cx_exit rfl ?_
  refine cx_keep rfl rfl (cx_seq (cx_ops ?_))
  refine ax_q (q_mov rfl) ?_
  refine ax_nil (cx_keep rfl rfl ?_)
  refine cx_ret (ret0 rfl rfl ?_)
  exact ⟨by rw [idxOf_none (fun i hi => ht i (by omega))]; rfl, rfl⟩


/- slices.ContainsFunc[[]loop.example/g00332/impl.Pending,loop.example/g00332/impl.Pending] -/
def k_c_ContainsFunc_Pending : XCode :=
 .seq (.ops [.op (some 4) (.mov (.k (.bool false)))])
 (.keep [0, 1] (.seq (.ops [.op (some 5) (.mov (.t 0)),
   .op (some 6) (.mov (.t 1)),
   .call (some 7) 207 [.t 5, .t 6],
   .op (some 8) (.bin .geq (.t 7) (.k (.int .i64 0))),
   .op (some 4) (.mov (.t 8))])
 (.keep [4] (.ret))))
theorem k_c_ContainsFunc_Pending_fits : fitsF Tryz.prog 144 ⟨9, k_c_ContainsFunc_Pending, [.t 4]⟩ = true := by kernel_rfl
theorem c_ContainsFunc_Pending {xs : List GPending} {f : Nat} {ds : List D} (p : GPending → Bool) (hw : xs.length ≤ 9223372036854775807) (hb : hasBody Tryz.prog f = true) (hf : ∀ s ∈ xs, Con Tryz.prog noMv f (s.av :: ds.map AV.d) [] (fun r h => r = bool (p s) ∧ h = [])) : Con Tryz.prog noMv 144 [.d (.sl 2 (xs.map GPending.row)), .d (.fn (.func f) ds)] [] (fun r h => r = bool (xs.any p) ∧ h = []) := by
 refine con_of2 k_c_ContainsFunc_Pending_fits rfl fun C hP hmv => ?_
 unfold k_c_ContainsFunc_Pending
 refine cx_seq (cx_ops ?_)
 refine ax_q (q_mov rfl) ?_
 refine ax_nil (cx_keep rfl rfl (cx_seq (cx_ops ?_)))
 refine ax_q (q_mov rfl) ?_
 refine ax_q (q_mov rfl) ?_
 refine ax_call rfl (vc_pure0 (c_IndexFunc_Pending p hw hb hf) hP rfl rfl ?_)
 refine ax_qe (r' := bool (xs.any p)) (q_ibin rfl rfl rfl) (congrArg AM.bool any_idxOf) ?_
 refine ax_q (q_mov rfl) ?_
 refine ax_nil (cx_keep rfl rfl ?_)
 refine cx_ret (ret0 rfl rfl ?_)
 exact ⟨rfl, rfl⟩


/- loop.example/g00332/impl.isPlace -/
def k_c_isPlace : XCode :=
 .seq (.ops [.op (some 4) (.mov (.k (.bool false)))])
 (.keep [0, 1] (.seq (.ops [.op (some 5) (.mov (.t 0)),
   .op (some 6) (.mov (.t 1)),
   .op (some 7) (.bin .sub (.t 6) (.k (.int .i64 1))),
   .call (some 8) 63 [.t 5, .k (.int .i64 0), .t 7],
   .op (some 4) (.mov (.t 8))])
 (.keep [4] (.ret))))
theorem k_c_isPlace_fits : fitsF Tryz.prog 75 ⟨9, k_c_isPlace, [.t 4]⟩ = true := by kernel_rfl
theorem c_isPlace {n k : Int} (hk : 0 ≤ k ∧ k ≤ 1048576) : Con Tryz.prog noMv 75 [int n, int k] [] (fun r h => r = bool (inR n 0 (k - 1)) ∧ h = []) := by
 refine con_of2 k_c_isPlace_fits rfl fun C hP hmv => ?_
 unfold k_c_isPlace
 refine cx_seq (cx_ops ?_)
 refine ax_q (q_mov rfl) ?_
 refine ax_nil (cx_keep rfl rfl (cx_seq (cx_ops ?_)))
 refine ax_q (q_mov rfl) ?_
 refine ax_q (q_mov rfl) ?_
 refine ax_q (q_sub rfl rfl (by omega)) ?_
 refine ax_call rfl (vc_pure0 (c_inRange  ) hP rfl rfl ?_)
 refine ax_q (q_mov rfl) ?_
 refine ax_nil (cx_keep rfl rfl ?_)
 refine cx_ret (ret0 rfl rfl ?_)
 exact ⟨rfl, rfl⟩


/- loop.example/g00332/impl.DiskOK$2 -/
def k_c_DiskOK2 : XCode :=
 .seq (.ops [.op (some 2) (.box (.t 0)),
   .op (some 3) (.mov (.k (.bool false)))])
 (.keep [1, 2] (.seq (.ops [.op (some 4) (.fadr (.t 2) 0),
   .op (some 5) (.load1 (.t 4)),
   .op (some 6) (.fadr (.t 1) 0),
   .op (some 7) (.load1 (.t 6)),
   .op (some 8) (.lenS (.t 7)),
   .call (some 9) 75 [.t 5, .t 8],
   .op (some 10) (.not (.t 9)),
   .op (some 11) (.mov (.t 10)),
   .andor 16 false 7 11 [.op (some 12) (.fadr (.t 2) 1), .op (some 13) (.load1 (.t 12)), .op (some 14) (.lenT (.t 13)), .op (some 15) (.bin .gtr (.t 14) (.k (.int .i64 160)))] (.t 15),
   .op (some 3) (.mov (.t 16))])
 (.keep [3] (.ret))))
theorem k_c_DiskOK2_fits : fitsF Tryz.prog 145 ⟨17, k_c_DiskOK2, [.t 3]⟩ = true := by kernel_rfl
theorem c_DiskOK2 {a : GPending} {d : GDisk} (hw0 : d.Sectors.length ≤ 1048576) : Con Tryz.prog noMv 145 [a.av, .d (.ip d.row)] [] (fun r h => r = bool (badAt d.Sectors.length a) ∧ h = []) := by
 refine con_of2 k_c_DiskOK2_fits rfl fun C hP hmv => ?_
 unfold k_c_DiskOK2
 refine cx_seq (cx_ops ?_)
 refine ax_e (e_box rfl rfl (by decide) rfl rfl rfl) ?_
 refine ax_q (q_mov rfl) ?_
 refine ax_nil (cx_keep rfl rfl (cx_seq (cx_ops ?_)))
 refine ax_q (q_fadr_ptr rfl) ?_
 refine ax_q (q_load1_ptr rfl rfl rfl) ?_
 first | refine ax_q (q_fadr_ptr rfl) ?_ | refine ax_q (q_fadr_rptr rfl) ?_ | refine ax_q (q_fadr_ip rfl) ?_
 first | refine ax_q (q_load1_ptr rfl rfl rfl) ?_ | refine ax_q (q_load1_ip rfl) ?_
 refine ax_q (q_lenS_map rfl) ?_
 refine ax_call rfl (vc_pure0 (c_isPlace  ?_) hP rfl rfl ?_)
 ·
  first | assumption | omega
 refine ax_q (q_not rfl) ?_
 refine ax_q (q_mov rfl) ?_
 apply ax_or rfl rfl
 ·
  intro g
  have g := bF g
  refine ax_q (q_fadr_ptr rfl) ?_
  refine ax_q (q_load1_ptr rfl rfl rfl) ?_
  refine ax_q (q_lenT rfl) ?_
  refine ax_q (q_ibin rfl rfl rfl) ?_
  exact ax_nil ⟨rfl, by repeat constructor⟩
 refine ax_q (q_mov rfl) ?_
 refine ax_nil (cx_keep rfl rfl ?_)
 refine cx_ret (ret0 rfl rfl ?_)
 exact ⟨rfl, rfl⟩


/- loop.example/g00332/impl.DiskOK -/
def k_c_DiskOK : XCode :=
 .seq (.ops [.op (some 1) (.box (.t 0)),
   .op (some 2) (.mov (.k (.bool false)))])
 (.keep [1] (.seq (.seq (.ops [.op (some 3) (.fadr (.t 1) 0),
   .op (some 4) (.load1 (.t 3)),
   .op (some 5) (.lenS (.t 4)),
   .call (some 6) 63 [.t 5, .k (.int .i64 1), .k (.int .i64 100)],
   .op (some 7) (.not (.t 6)),
   .op (some 8) (.mov (.t 7)),
   .andor 13 false 5 8 [.op (some 9) (.fadr (.t 1) 1), .op (some 10) (.load1 (.t 9)), .op (some 11) (.lenS (.t 10)), .op (some 12) (.bin .gtr (.t 11) (.k (.int .i64 500)))] (.t 12),
   .op (some 14) (.mov (.t 13)),
   .andor 19 false 11 14 [.op (some 15) (.fadr (.t 1) 3), .op (some 16) (.load1 (.t 15)), .op (some 17) (.lenS (.t 16)), .op (some 18) (.bin .gtr (.t 17) (.k (.int .i64 500)))] (.t 18),
   .op (some 20) (.mov (.t 19)),
   .andor 30 false 17 20 [.op (some 21) (.fadr (.t 1) 2), .op (some 22) (.load1 (.t 21)), .op (some 23) (.not (.t 22)), .op (some 24) (.mov (.t 23)), .andor 29 true 21 24 [.op (some 25) (.fadr (.t 1) 3), .op (some 26) (.load1 (.t 25)), .op (some 27) (.lenS (.t 26)), .op (some 28) (.bin .gtr (.t 27) (.k (.int .i64 0)))] (.t 28)] (.t 29)])
  (.keep [1, 30] (.cond (.t 30)
  (.seq (.ops [.op (some 2) (.mov (.k (.bool false)))])
   (.keep [2] (.ret)))
  (.skip))))
 (.keep [1] (.seq (.ops [.op (some 31) (.fadr (.t 1) 0),
   .op (some 32) (.load1 (.t 31)),
   .call (some 33) 142 [.t 32, .f 143],
   .op (some 34) (.not (.t 33)),
   .op (some 35) (.mov (.t 34)),
   .andor 41 true 4 35 [.op (some 36) (.fadr (.t 1) 1), .op (some 37) (.load1 (.t 36)), .op (some 38) (.mkfn 145 [.t 1]), .call (some 39) 144 [.t 37, .t 38], .op (some 40) (.not (.t 39))] (.t 40),
   .op (some 2) (.mov (.t 41))])
 (.keep [2] (.ret))))))
theorem k_c_DiskOK_fits : fitsF Tryz.prog 71 ⟨42, k_c_DiskOK, [.t 2]⟩ = true := by kernel_rfl
theorem c_DiskOK {d : GDisk} (hw0 : d.Sectors.length ≤ 1048576) (hw1 : d.Cache.length ≤ 1048576) (hw2 : d.Keep.length ≤ 1048576) : Con Tryz.prog noMv 71 [d.av] [] (fun r h => r = bool (diskOK d) ∧ h = []) := by
 refine con_of2 k_c_DiskOK_fits rfl fun C hP hmv => ?_
 unfold k_c_DiskOK
 refine cx_seq (cx_ops ?_)
 refine ax_e (e_box rfl rfl (by decide) rfl rfl rfl) ?_
 refine ax_q (q_mov rfl) ?_
 refine ax_nil (cx_keep rfl rfl (cx_seq (cx_seq (cx_ops ?_))))
 refine ax_q (q_fadr_ptr rfl) ?_
 refine ax_q (q_load1_ptr rfl rfl rfl) ?_
 refine ax_q (q_lenS_map rfl) ?_
 refine ax_call rfl (vc_pure0 (c_inRange  ) hP rfl rfl ?_)
 refine ax_q (q_not rfl) ?_
 refine ax_q (q_mov rfl) ?_
 apply ax_or rfl rfl
 ·
  intro g
  have g := bF g
  refine ax_q (q_fadr_ptr rfl) ?_
  refine ax_q (q_load1_ptr rfl rfl rfl) ?_
  refine ax_q (q_lenS_map rfl) ?_
  refine ax_q (q_ibin rfl rfl rfl) ?_
  exact ax_nil ⟨rfl, by repeat constructor⟩
 refine ax_q (q_mov rfl) ?_
 apply ax_or rfl rfl
 ·
  intro g
  have g := (fun h => And.intro (bF (or_F h).1) (dF (or_F h).2)) g
  refine ax_q (q_fadr_ptr rfl) ?_
  refine ax_q (q_load1_ptr rfl rfl rfl) ?_
  refine ax_q (q_lenS_map rfl) ?_
  refine ax_q (q_ibin rfl rfl rfl) ?_
  exact ax_nil ⟨rfl, by repeat constructor⟩
 refine ax_q (q_mov rfl) ?_
 apply ax_or rfl rfl
 ·
  intro g
  have g := (fun h => And.intro ((fun h => And.intro (bF (or_F h).1) (dF (or_F h).2)) (or_F h).1) (dF (or_F h).2)) g
  refine ax_q (q_fadr_ptr rfl) ?_
  refine ax_q (q_load1_ptr rfl rfl rfl) ?_
  refine ax_q (q_not rfl) ?_
  refine ax_q (q_mov rfl) ?_
  apply ax_and rfl rfl
  ·
   intro g
   have g := bT g
   refine ax_q (q_fadr_ptr rfl) ?_
   refine ax_q (q_load1_ptr rfl rfl rfl) ?_
   refine ax_q (q_lenS_map rfl) ?_
   refine ax_q (q_ibin rfl rfl rfl) ?_
   exact ax_nil ⟨rfl, by repeat constructor⟩
  exact ax_nil ⟨rfl, by repeat constructor⟩
 refine ax_nil (cx_keep rfl rfl ?_)
 refine cx_cond rfl (fun h0 => ?_) (fun h0 => ?_)
 ·
  have h0 : badHead d = true := h0
  refine cx_seq (cx_ops ?_)
  refine ax_q (q_mov rfl) ?_
  refine ax_nil (cx_keep rfl rfl ?_)
  refine cx_ret (ret0 rfl rfl ?_)
  exact ⟨by unfold diskOK; rw [h0]; rfl, rfl⟩
 ·
  have h0 : badHead d = false := h0
  refine cx_skip ?_
  refine cx_keep rfl rfl (cx_seq (cx_ops ?_))
  refine ax_q (q_fadr_ptr rfl) ?_
  refine ax_q (q_load1_ptr rfl rfl rfl) ?_
  refine ax_call rfl (vc_lend0 (c_ContainsFunc_Str (xs := d.Sectors) (ds := []) long160 (by omega) (by kernel_rfl) (fun s _ => c_DiskOK1)) hP (by repeat (first | exact lal_id _ rfl | exact LAL.nil | refine LAL.cons ?_ ?_ | exact la_id _ rfl | exact LA.lend (lend_whole rfl (by first | (simp; done) | (rw [List.length_map]; rfl))) | refine LA.agg ?_ | refine LA.fn ?_ | refine LA.lend ?_ | exact Lend.d _ | exact Lend.zs _ | exact lend_whole rfl (by first | (simp; done) | (rw [List.length_map]; rfl)) | refine Lend.ptr rfl ?_ | refine Lend.fn ?_ | exact LendL.nil | refine LendL.cons ?_ ?_)) rfl rfl ?_)
  refine ax_q (q_not rfl) ?_
  refine ax_q (q_mov rfl) ?_
  apply ax_and rfl rfl
  ·
   intro g
   have g := bT g
   refine ax_q (q_fadr_ptr rfl) ?_
   refine ax_q (q_load1_ptr rfl rfl rfl) ?_
   refine ax_q (q_mkfn rfl) ?_
   refine ax_call rfl (vc_lend0 (c_ContainsFunc_Pending (xs := d.Cache) (ds := [.ip d.row]) (badAt d.Sectors.length) (by omega) (by kernel_rfl) (fun s _ => c_DiskOK2 hw0)) hP (by repeat (first | exact lal_id _ rfl | exact LAL.nil | refine LAL.cons ?_ ?_ | exact la_id _ rfl | exact LA.lend (lend_whole rfl (by first | (simp; done) | (rw [List.length_map]; rfl))) | refine LA.agg ?_ | refine LA.fn ?_ | refine LA.lend ?_ | exact Lend.d _ | exact Lend.zs _ | exact lend_whole rfl (by first | (simp; done) | (rw [List.length_map]; rfl)) | refine Lend.ptr rfl ?_ | refine Lend.fn ?_ | exact LendL.nil | refine LendL.cons ?_ ?_)) rfl rfl ?_)
   refine ax_q (q_not rfl) ?_
   exact ax_nil ⟨rfl, by repeat constructor⟩
  refine ax_q (q_mov rfl) ?_
  refine ax_nil (cx_keep rfl rfl ?_)
  refine cx_ret (ret0 rfl rfl ?_)
  exact ⟨by unfold diskOK; rw [h0]; rfl, rfl⟩


/- (ptr loop.example/g00332/impl.byteReader).isDone -/
def k_c_isDone : XCode :=
 .seq (.ops [.op (some 2) (.mov (.k (.bool false)))])
 (.keep [0] (.seq (.ops [.op (some 3) (.mov (.t 0)),
   .op (some 4) (.nilck (.t 3)),
   .op (some 5) (.fadr (.t 4) 1),
   .op (some 6) (.load1 (.t 5)),
   .op (some 7) (.not (.t 6)),
   .op (some 8) (.mov (.t 7)),
   .andor 15 true 5 8 [.op (some 9) (.mov (.t 0)), .op (some 10) (.nilck (.t 9)), .op (some 11) (.fadr (.t 10) 0), .op (some 12) (.load1 (.t 11)), .op (some 13) (.lenS (.t 12)), .op (some 14) (.bin .eql (.t 13) (.k (.int .i64 0)))] (.t 14),
   .op (some 2) (.mov (.t 15))])
 (.keep [2] (.ret))))
theorem k_c_isDone_fits : fitsF Tryz.prog 215 ⟨16, k_c_isDone, [.t 2]⟩ = true := by kernel_rfl
theorem c_isDone {r0 : Rd}  : Con Tryz.prog noMv 215 [.ptr 1000 0] [(1000, r0.box)] (fun r h => r = bool (doneF r0) ∧ h = [(1000, (r0).box)]) := by
 refine con_of2 k_c_isDone_fits rfl fun C hP hmv => ?_
 unfold k_c_isDone
 refine cx_seq (cx_ops ?_)
 refine ax_q (q_mov rfl) ?_
 refine ax_nil (cx_keep rfl rfl (cx_seq (cx_ops ?_)))
 refine ax_q (q_mov rfl) ?_
 refine ax_q (q_nilck_ptr rfl) ?_
 refine ax_q (q_fadr_ptr rfl) ?_
 refine ax_q (q_load1_ptr rfl rfl rfl) ?_
 refine ax_q (q_not rfl) ?_
 refine ax_q (q_mov rfl) ?_
 apply ax_and rfl rfl
 ·
  intro g
  have g := bT g
  refine ax_q (q_mov rfl) ?_
  refine ax_q (q_nilck_ptr rfl) ?_
  refine ax_q (q_fadr_ptr rfl) ?_
  refine ax_q (q_load1_ptr rfl rfl rfl) ?_
  refine ax_q (q_lenS_map rfl) ?_
  refine ax_q (q_ibin rfl rfl rfl) ?_
  exact ax_nil ⟨rfl, by repeat constructor⟩
 refine ax_q (q_mov rfl) ?_
 refine ax_nil (cx_keep rfl rfl ?_)
 refine cx_ret (retN id [1000] rfl rfl rfl rfl rfl ?_)
 exact ⟨rfl, rfl⟩


/- (ptr loop.example/g00332/impl.byteReader).take -/
def k_c_take : XCode :=
 .seq (.ops [.op (some 4) (.mov (.k (.nils 1)))])
 (.keep [0, 1] (.seq (.seq (.ops [.op (some 6) (.mov (.t 1)),
   .op (some 7) (.mov (.t 0)),
   .op (some 8) (.nilck (.t 7)),
   .op (some 9) (.fadr (.t 8) 0),
   .op (some 10) (.load1 (.t 9)),
   .op (some 11) (.lenS (.t 10)),
   .op (some 12) (.bin .gtr (.t 6) (.t 11))])
  (.keep [0, 1, 12] (.cond (.t 12)
  (.seq (.ops [.op (some 13) (.mov (.t 0)),
    .op (some 14) (.nilck (.t 13)),
    .op (some 15) (.fadr (.t 14) 1),
    .op none (.store 1 (.t 15) (.k (.bool true)))])
   (.keep [1] (.seq (.ops [.op (some 16) (.mov (.t 1)),
    .op (some 17) (.mkslice 1 1 [.int .u8 0] (.t 16) (.t 16)),
    .op (some 4) (.mov (.t 17))])
   (.keep [4] (.ret)))))
  (.skip))))
 (.keep [0, 1] (.seq (.ops [.op (some 18) (.mov (.t 0)),
   .op (some 19) (.nilck (.t 18)),
   .op (some 20) (.fadr (.t 19) 0),
   .op (some 21) (.load1 (.t 20)),
   .op (some 22) (.mov (.t 1)),
   .op (some 23) (.slc 1 (.t 21) none (some (.t 22)) none),
   .op (some 5) (.mov (.t 23))])
 (.keep [0, 1, 5] (.seq (.ops [.op (some 24) (.mov (.t 0)),
   .op (some 25) (.mov (.t 0)),
   .op (some 26) (.nilck (.t 25)),
   .op (some 27) (.fadr (.t 26) 0),
   .op (some 28) (.load1 (.t 27)),
   .op (some 29) (.mov (.t 1)),
   .op (some 30) (.slc 1 (.t 28) (some (.t 29)) none none),
   .op (some 31) (.nilck (.t 24)),
   .op (some 32) (.fadr (.t 31) 0),
   .op none (.store 1 (.t 32) (.t 30))])
 (.keep [5] (.seq (.ops [.op (some 33) (.mov (.t 5)),
   .op (some 4) (.mov (.t 33))])
 (.keep [4] (.ret))))))))))
theorem k_c_take_fits : fitsF Tryz.prog 212 ⟨34, k_c_take, [.t 4]⟩ = true := by kernel_rfl
theorem c_take {r0 : Rd} {n : Nat} (hn : n ≤ 1048576) (hl : r0.rest.length ≤ 1048576) : Con Tryz.prog noMv 212 [.ptr 1000 0, int n] [(1000, r0.box)] (fun r h => r = .d (.sl 1 ((takeF r0 n).1.map byteRow)) ∧ h = [(1000, ((takeF r0 n).2).box)]) := by
 refine con_of2 k_c_take_fits rfl fun C hP hmv => ?_
 unfold k_c_take
 refine cx_seq (cx_ops ?_)
 refine ax_q (q_mov rfl) ?_
 refine ax_nil (cx_keep rfl rfl (cx_seq (cx_seq (cx_ops ?_))))
 refine ax_q (q_mov rfl) ?_
 refine ax_q (q_mov rfl) ?_
 refine ax_q (q_nilck_ptr rfl) ?_
 refine ax_q (q_fadr_ptr rfl) ?_
 refine ax_q (q_load1_ptr rfl rfl rfl) ?_
 refine ax_q (q_lenS_map rfl) ?_
 refine ax_q (q_ibin rfl rfl rfl) ?_
 refine ax_nil (cx_keep rfl rfl ?_)
 refine cx_cond rfl (fun h0 => ?_) (fun h0 => ?_)
 ·
  have h0 := dT h0
  refine cx_seq (cx_ops ?_)
  refine ax_q (q_mov rfl) ?_
  refine ax_q (q_nilck_ptr rfl) ?_
  refine ax_q (q_fadr_ptr rfl) ?_
  refine ax_e (e_st rfl rfl rfl rfl rfl rfl rfl) ?_
  refine ax_nil (cx_keep rfl rfl (cx_seq (cx_ops ?_)))
  refine ax_q (q_mov rfl) ?_
  refine ax_ee (st'' := ⟨(17, .osl 17 1 0 n) :: _, (17, .rows 1 ((List.replicate n (0 : UInt8)).map byteRow)) :: _⟩) (e_mkslice rfl rfl rfl (by omega) (by omega) (by omega) (by decide) rfl rfl) (by rw [Int.toNat_natCast, List.map_replicate]; rfl) ?_
  refine ax_q (q_mov rfl) ?_
  refine ax_nil (cx_keep rfl rfl ?_)
  refine cx_wk (wk_frz 4 17 rfl rfl (.whole (by simp)) rfl) ?_
  refine cx_ret (retN id [1000] rfl rfl rfl rfl rfl ?_)
  rw [takeF_1 h0]; exact ⟨rfl, rfl⟩
 ·
  have h0 := dF h0
  refine cx_skip ?_
  refine cx_keep rfl rfl (cx_seq (cx_ops ?_))
  refine ax_q (q_mov rfl) ?_
  refine ax_q (q_nilck_ptr rfl) ?_
  refine ax_q (q_fadr_ptr rfl) ?_
  refine ax_q (q_load1_ptr rfl rfl rfl) ?_
  refine ax_q (q_mov rfl) ?_
  refine ax_qe (r' := .d (.sl 1 ((r0.rest.take n).map byteRow))) (q_slc rfl rfl rfl (by omega) (by omega) (by simp; omega)) (by simp [List.map_take]) ?_
  refine ax_q (q_mov rfl) ?_
  refine ax_nil (cx_keep rfl rfl (cx_seq (cx_ops ?_)))
  refine ax_q (q_mov rfl) ?_
  refine ax_q (q_mov rfl) ?_
  refine ax_q (q_nilck_ptr rfl) ?_
  refine ax_q (q_fadr_ptr rfl) ?_
  refine ax_q (q_load1_ptr rfl rfl rfl) ?_
  refine ax_q (q_mov rfl) ?_
  refine ax_qe (r' := .d (.sl 1 ((r0.rest.drop n).map byteRow))) (q_slc rfl rfl rfl (by omega) (by simp; omega) (by simp)) (slc_drop) ?_
  refine ax_q (q_nilck_ptr rfl) ?_
  refine ax_q (q_fadr_ptr rfl) ?_
  refine ax_e (e_st rfl rfl rfl rfl rfl rfl rfl) ?_
  refine ax_nil (cx_keep rfl rfl (cx_seq (cx_ops ?_)))
  refine ax_q (q_mov rfl) ?_
  refine ax_q (q_mov rfl) ?_
  refine ax_nil (cx_keep rfl rfl ?_)
  refine cx_ret (retN id [1000] rfl rfl rfl rfl rfl ?_)
  rw [takeF_2 h0]; exact ⟨rfl, rfl⟩


/- (ptr loop.example/g00332/impl.byteReader).num -/
def k_c_num : XCode :=
 .seq (.ops [.op (some 2) (.mov (.k (.int .i64 0)))])
 (.keep [0] (.seq (.ops [.op (some 3) (.mov (.t 0)),
   .call (some 4) 212 [.t 3, .k (.int .i64 1)],
   .op (some 5) (.iadr 1 (.t 4) (.k (.int .i64 0))),
   .op (some 6) (.load1 (.t 5)),
   .op (some 7) (.conv .i64 (.t 6)),
   .op (some 2) (.mov (.t 7))])
 (.keep [2] (.ret))))
theorem k_c_num_fits : fitsF Tryz.prog 219 ⟨8, k_c_num, [.t 2]⟩ = true := by kernel_rfl
theorem c_num {r0 : Rd} (hl : r0.rest.length ≤ 1048576) : Con Tryz.prog noMv 219 [.ptr 1000 0] [(1000, r0.box)] (fun r h => r = int (numF r0).1 ∧ h = [(1000, ((numF r0).2).box)]) := by
 refine con_of2 k_c_num_fits rfl fun C hP hmv => ?_
 unfold k_c_num
 refine cx_seq (cx_ops ?_)
 refine ax_q (q_mov rfl) ?_
 refine ax_nil (cx_keep rfl rfl (cx_seq (cx_ops ?_)))
 refine ax_q (q_mov rfl) ?_
 refine ax_call rfl (vcall_own (c_take (n := 1) ?_ ?_) hP hmv false (fun _ => 1000) [1000] ⟨rfl, rfl, rfl, rfl, ⟨rfl, trivial⟩, rfl, rfl, rfl⟩ (.pass rfl rfl (.pass rfl rfl .nil)) ?_)
 ·
  first | assumption | omega
 ·
  assumption
 rintro r h ⟨rfl, rfl⟩
 refine ⟨fun _ => 1000, [], ⟨rfl, rfl, rfl, rfl, mem1 rfl, rfl, rfl, fun h => absurd h Bool.false_ne_true⟩, ?_⟩
 have ht1 : (takeF r0 1).1.length = 1 := takeF_len.1
 refine ax_q (q_ixI rfl rfl (by omega) (mapAt (by omega))) ?_
 first | refine ax_q (q_load1_ptr rfl rfl rfl) ?_ | refine ax_q (q_load1_ip rfl) ?_
 refine ax_q (q_convB rfl) ?_
 refine ax_q (q_mov rfl) ?_
 refine ax_nil (cx_keep rfl rfl ?_)
 refine cx_ret (retN id [1000] rfl rfl rfl rfl rfl ?_)
 unfold numF; rw [getD_at (by omega)]; exact ⟨rfl, rfl⟩


/- (ptr loop.example/g00332/impl.byteReader).checkList -/
def k_c_checkList : XCode :=
 .seq (.ops [.op (some 10) (.mov (.k (.bool false)))])
 (.keep [0, 1, 2, 3, 4] (.seq (.ops [.op (some 16) (.mov (.t 0)),
   .call (some 17) 219 [.t 16],
   .op (some 11) (.mov (.t 17))])
 (.keep [0, 1, 2, 3, 4, 11] (.seq (.ops [.op (some 18) (.mov (.t 11)),
   .op (some 19) (.mov (.t 1)),
   .op (some 20) (.bin .leq (.t 18) (.t 19)),
   .op (some 21) (.mov (.t 2)),
   .op (some 22) (.bin .sub (.t 21) (.k (.int .i64 1))),
   .op (some 12) (.mov (.t 20)),
   .op (some 13) (.mov (.t 22))])
 (.keep [0, 3, 4, 11, 12, 13] (.seq (.seq (.ops [.op (some 23) (.mov (.t 11)),
   .op (some 24) (.mov (.k (.int .i64 0)))])
  (.keep [0, 3, 4, 12, 13, 23, 24] (.block 0 (.loop (.seq (.ops [.op (some 25) (.bin .lss (.t 24) (.t 23))])
   (.keep [0, 3, 4, 12, 13, 23, 24, 25] (.seq (.cond (.t 25)
    (.skip)
    (.exit 0))
   (.keep [0, 3, 4, 12, 13, 23, 24] (.seq (.block 1 (.seq (.ops [.op (some 26) (.mov (.t 0)),
     .call (some 27) 219 [.t 26],
     .op (some 28) (.mov (.t 0)),
     .call (some 29) 219 [.t 28],
     .op (some 14) (.mov (.t 27)),
     .op (some 15) (.mov (.t 29))])
    (.keep [0, 3, 4, 12, 13, 14, 15, 23, 24] (.seq (.ops [.op (some 30) (.mov (.t 12)),
     .op (some 31) (.mov (.t 30)),
     .andor 37 true 1 31 [.op (some 32) (.mov (.t 14)), .op (some 33) (.mov (.t 13)), .op (some 34) (.bin .add (.t 33) (.k (.int .i64 1))), .op (some 35) (.mov (.t 3)), .call (some 36) 63 [.t 32, .t 34, .t 35]] (.t 36),
     .op (some 38) (.mov (.t 37)),
     .andor 43 true 8 38 [.op (some 39) (.mov (.t 15)), .op (some 40) (.mov (.t 4)), .op (some 41) (.bin .sub (.t 40) (.k (.int .i64 1))), .call (some 42) 63 [.t 39, .k (.int .i64 1), .t 41]] (.t 42),
     .op (some 12) (.mov (.t 43))])
    (.keep [0, 3, 4, 12, 14, 23, 24] (.ops [.op (some 44) (.mov (.t 14)),
     .op (some 13) (.mov (.t 44))]))))))
   (.keep [0, 3, 4, 12, 13, 23, 24] (.ops [.op (some 45) (.bin .add (.t 24) (.k (.int .i64 1))),
    .op (some 24) (.mov (.t 45))])))))))))))
 (.keep [0, 12] (.seq (.ops [.op (some 46) (.mov (.t 12)),
   .op (some 47) (.mov (.t 46)),
   .andor 53 true 1 47 [.op (some 48) (.mov (.t 0)), .op (some 49) (.nilck (.t 48)), .op (some 50) (.fadr (.t 49) 1), .op (some 51) (.load1 (.t 50)), .op (some 52) (.not (.t 51))] (.t 52),
   .op (some 10) (.mov (.t 53))])
 (.keep [10] (.ret))))))))))
theorem k_c_checkList_fits : fitsF Tryz.prog 238 ⟨54, k_c_checkList, [.t 10]⟩ = true := by kernel_rfl
theorem c_checkList {r0 : Rd} {most low high lsn : Int} (hl : r0.rest.length ≤ 1048576) (hlo : 0 ≤ low ∧ low ≤ 1) (hhi : 0 ≤ high ∧ high ≤ 100) (hm : 1 ≤ lsn ∧ lsn ≤ 60) : Con Tryz.prog noMv 238 [.ptr 1000 0, int most, int low, int high, int lsn] [(1000, r0.box)] (fun r h => r = bool (chkF most low high lsn r0).1 ∧ h = [(1000, ((chkF most low high lsn r0).2).box)]) := by
 refine con_of2 k_c_checkList_fits rfl fun C hP hmv => ?_
 unfold k_c_checkList
 refine cx_seq (cx_ops ?_)
 refine ax_q (q_mov rfl) ?_
 refine ax_nil (cx_keep rfl rfl (cx_seq (cx_ops ?_)))
 refine ax_q (q_mov rfl) ?_
 refine ax_call rfl (vcall_own (c_num  ?_) hP hmv false (fun _ => 1000) [1000] ⟨rfl, rfl, rfl, rfl, ⟨rfl, trivial⟩, rfl, rfl, rfl⟩ (.pass rfl rfl .nil) ?_)
 ·
  assumption
 rintro r h ⟨rfl, rfl⟩
 refine ⟨fun _ => 1000, [], ⟨rfl, rfl, rfl, rfl, mem1 rfl, rfl, rfl, fun h => absurd h Bool.false_ne_true⟩, ?_⟩
 obtain ⟨q1, q2⟩ := @numF_lt r0
 obtain ⟨T, hT⟩ : ∃ T, chkL high lsn (numF r0).1 (numF r0).2 (decide (((numF r0).1 : Int) ≤ most)) (low - 1) = T := ⟨_, rfl⟩
 refine ax_q (q_mov rfl) ?_
 refine ax_nil (cx_keep rfl rfl (cx_seq (cx_ops ?_)))
 refine ax_q (q_mov rfl) ?_
 refine ax_q (q_mov rfl) ?_
 refine ax_q (q_ibin rfl rfl rfl) ?_
 refine ax_q (q_mov rfl) ?_
 refine ax_qe (r' := int (low - 1)) (q_ibin rfl rfl rfl) (by rw [wi (by omega) (by omega)]) ?_
 refine ax_q (q_mov rfl) ?_
 refine ax_q (q_mov rfl) ?_
 refine ax_nil (cx_keep rfl rfl (cx_seq (cx_seq (cx_ops ?_))))
 refine ax_q (q_mov rfl) ?_
 refine ax_q (q_mov rfl) ?_
 refine ax_nil (cx_keep rfl rfl (cx_block ?_))
 refine cx_loopU (fun m (p : Nat × Rd × Bool × Int) => p.1 ≤ (numF r0).1 ∧ m = p.1 ∧ p.2.1.rest.length ≤ 1048576 ∧ -1 ≤ p.2.2.2 ∧ p.2.2.2 ≤ 256 ∧ chkL high lsn p.1 p.2.1 p.2.2.1 p.2.2.2 = T) (fun p => [(24, int (((numF r0).1 - p.1 : Nat) : Int)), (12, bool p.2.2.1), (13, int p.2.2.2)]) (fun p => [(1000, p.2.1.box)])
  ⟨_, ((numF r0).1, (numF r0).2, decide (((numF r0).1 : Int) ≤ most), low - 1), ⟨Nat.le_refl _, rfl, by simp only; omega, by simp only; omega, by simp only; omega, hT⟩, by simp only [Nat.sub_self]; exact (by repeat constructor)⟩ ?_
 rintro m ⟨n, u, ok, b⟩ ⟨hn, hmn, hu, hb0, hb1, hc⟩
 simp only at hn hmn hu hb0 hb1 hc ⊢
 refine cx_seq (cx_ops ?_)
 refine ax_q (q_ibin rfl rfl rfl) ?_
 refine ax_nil (cx_keep rfl rfl (cx_seq ?_))
 refine cx_cond rfl (fun h0 => ?_) (fun h0 => ?_)
 ·
  have h0 := dT h0
  obtain ⟨n, rfl⟩ : ∃ n2, n = n2 + 1 := ⟨n - 1, by omega⟩
  rw [chkL] at hc
  obtain ⟨k1, k2⟩ := @numF_lt u
  obtain ⟨k3, k4⟩ := @numF_lt (numF u).2
  refine cx_skip ?_
  refine cx_keep rfl rfl (cx_seq (cx_block (cx_seq (cx_ops ?_))))
  refine ax_q (q_mov rfl) ?_
  refine ax_call rfl (vcall_own (c_num  ?_) hP hmv false (fun _ => 1000) [1000] ⟨rfl, rfl, rfl, rfl, ⟨rfl, trivial⟩, rfl, rfl, rfl⟩ (.pass rfl rfl .nil) ?_)
  ·
   assumption
  rintro r h ⟨rfl, rfl⟩
  refine ⟨fun _ => 1000, [], ⟨rfl, rfl, rfl, rfl, mem1 rfl, rfl, rfl, fun h => absurd h Bool.false_ne_true⟩, ?_⟩
  refine ax_q (q_mov rfl) ?_
  refine ax_call rfl (vcall_own (c_num  ?_) hP hmv false (fun _ => 1000) [1000] ⟨rfl, rfl, rfl, rfl, ⟨rfl, trivial⟩, rfl, rfl, rfl⟩ (.pass rfl rfl .nil) ?_)
  ·
   first | assumption | omega
  rintro r h ⟨rfl, rfl⟩
  refine ⟨fun _ => 1000, [], ⟨rfl, rfl, rfl, rfl, mem1 rfl, rfl, rfl, fun h => absurd h Bool.false_ne_true⟩, ?_⟩
  refine ax_q (q_mov rfl) ?_
  refine ax_q (q_mov rfl) ?_
  refine ax_nil (cx_keep rfl rfl (cx_seq (cx_ops ?_)))
  refine ax_q (q_mov rfl) ?_
  refine ax_q (q_mov rfl) ?_
  apply ax_and rfl rfl
  ·
   intro g
   refine ax_q (q_mov rfl) ?_
   refine ax_q (q_mov rfl) ?_
   refine ax_q (q_add rfl rfl (by omega)) ?_
   refine ax_q (q_mov rfl) ?_
   refine ax_call rfl (vc_pure0 (c_inRange  ) hP rfl rfl ?_)
   exact ax_nil ⟨rfl, by repeat constructor⟩
  refine ax_q (q_mov rfl) ?_
  apply ax_and rfl rfl
  ·
   intro g
   have g := (fun h => And.intro (id (and_T h).1) (id (and_T h).2)) g
   refine ax_q (q_mov rfl) ?_
   refine ax_q (q_mov rfl) ?_
   refine ax_q (q_sub rfl rfl (by omega)) ?_
   refine ax_call rfl (vc_pure0 (c_inRange  ) hP rfl rfl ?_)
   exact ax_nil ⟨rfl, by repeat constructor⟩
  refine ax_q (q_mov rfl) ?_
  refine ax_nil (cx_keep rfl rfl (cx_ops ?_))
  refine ax_q (q_mov rfl) ?_
  refine ax_q (q_mov rfl) ?_
  refine ax_nil (cx_keep rfl rfl (cx_ops ?_))
  refine ax_qe (r' := int (((numF r0).1 - n : Nat) : Int)) (q_ibin rfl rfl rfl) (by rw [wi (by omega) (by omega)]; exact congrArg AM.int (by omega)) ?_
  refine ax_q (q_mov rfl) ?_
  refine ax_nil ?_
  exact ⟨_, (n, (numF (numF u).2).2, (ok && inR (numF u).1 (b + 1) high) && inR (numF (numF u).2).1 1 (lsn - 1), ((numF u).1 : Int)), by omega, ⟨by simp only; omega, rfl, by simp only; omega, by simp only; omega, by simp only; omega, hc⟩, by simp only; exact (by repeat constructor)⟩
 ·
  have h0 := dF h0
  obtain rfl : n = 0 := by omega
  subst hc
  refine cx_exit rfl ?_
  refine cx_keep rfl rfl (cx_seq (cx_ops ?_))
  refine ax_q (q_mov rfl) ?_
  refine ax_q (q_mov rfl) ?_
  apply ax_and rfl rfl
  ·
   intro g
   refine ax_q (q_mov rfl) ?_
   refine ax_q (q_nilck_ptr rfl) ?_
   refine ax_q (q_fadr_ptr rfl) ?_
   refine ax_q (q_load1_ptr rfl rfl rfl) ?_
   refine ax_q (q_not rfl) ?_
   exact ax_nil ⟨rfl, by repeat constructor⟩
  refine ax_q (q_mov rfl) ?_
  refine ax_nil (cx_keep rfl rfl ?_)
  refine cx_ret (retN id [1000] rfl rfl rfl rfl rfl ?_)
  have e : chkF most low high lsn r0 = (ok && !u.fail, u) := by unfold chkF; simp only; rw [hT]; rfl
  rw [e]; exact ⟨rfl, rfl⟩


/- loop.example/g00332/impl.isCheck -/
def k_c_isCheck : XCode :=
 .seq (.ops [.op (some 4) (.mov (.k (.bool false)))])
 (.keep [0, 1] (.seq (.ops [.op (some 8) (.mov (.t 0)),
   .op (some 9) (.s2b (.t 8)),
   .op (some 10) (.build [.nils 1, .bool false] [(0, 1, .t 9)]),
   .op (some 11) (.box (.t 10)),
   .op (some 5) (.mov (.t 11))])
 (.keep [1, 5] (.seq (.ops [.op (some 12) (.mov (.t 5)),
   .op (some 13) (.mov (.t 1)),
   .call (some 14) 238 [.t 12, .k (.int .i64 8), .k (.int .i64 0), .k (.int .i64 7), .t 13],
   .op (some 6) (.mov (.t 14))])
 (.keep [1, 5, 6] (.seq (.ops [.op (some 15) (.mov (.t 5)),
   .op (some 16) (.mov (.t 1)),
   .call (some 17) 238 [.t 15, .k (.int .i64 10), .k (.int .i64 1), .k (.int .i64 60), .t 16],
   .op (some 7) (.mov (.t 17))])
 (.keep [5, 6, 7] (.seq (.ops [.op (some 18) (.mov (.t 6)),
   .op (some 19) (.mov (.t 18)),
   .andor 21 true 1 19 [.op (some 20) (.mov (.t 7))] (.t 20),
   .op (some 22) (.mov (.t 21)),
   .andor 25 true 4 22 [.op (some 23) (.mov (.t 5)), .call (some 24) 215 [.t 23]] (.t 24),
   .op (some 4) (.mov (.t 25))])
 (.keep [4] (.ret))))))))))
theorem k_c_isCheck_fits : fitsF Tryz.prog 208 ⟨26, k_c_isCheck, [.t 4]⟩ = true := by kernel_rfl
theorem c_isCheck {t : Str} {lsn : Int} (hl : t.length ≤ 1048576) (hm : 1 ≤ lsn ∧ lsn ≤ 60) : Con Tryz.prog noMv 208 [str t, int lsn] [] (fun r h => r = bool (isCheckF t lsn) ∧ h = []) := by
 refine con_of2 k_c_isCheck_fits rfl fun C hP hmv => ?_
 unfold k_c_isCheck
 refine cx_seq (cx_ops ?_)
 refine ax_q (q_mov rfl) ?_
 refine ax_nil (cx_keep rfl rfl (cx_seq (cx_ops ?_)))
 refine ax_q (q_mov rfl) ?_
 refine ax_e (e_s2b rfl (by decide) rfl rfl) ?_
 refine ax_wk (wk_frz 9 9 rfl rfl (.whole (by simp)) rfl) ?_
 refine ax_q (q_build rfl) ?_
 refine ax_e (e_box rfl rfl (by decide) rfl rfl rfl) ?_
 refine ax_q (q_mov rfl) ?_
 refine ax_nil (cx_keep rfl rfl (cx_seq (cx_ops ?_)))
 refine ax_q (q_mov rfl) ?_
 refine ax_q (q_mov rfl) ?_
 refine ax_call rfl (vcall_own (c_checkList (r0 := ⟨t, false⟩) (most := 8) (low := 0) (high := 7) (lsn := lsn) hl (by omega) (by omega) hm) hP hmv false (fun _ => 11) [1000] ⟨rfl, rfl, rfl, rfl, ⟨rfl, trivial⟩, rfl, rfl, rfl⟩ (.pass rfl rfl (.pass rfl rfl (.pass rfl rfl (.pass rfl rfl (.pass rfl rfl .nil))))) ?_)
 rintro r h ⟨rfl, rfl⟩
 refine ⟨fun _ => 11, [], ⟨rfl, rfl, rfl, rfl, mem1 rfl, rfl, rfl, fun h => absurd h Bool.false_ne_true⟩, ?_⟩
 have hl2 := @chkF_len 8 0 7 lsn ⟨t, false⟩
 simp only at hl2
 refine ax_q (q_mov rfl) ?_
 refine ax_nil (cx_keep rfl rfl (cx_seq (cx_ops ?_)))
 refine ax_q (q_mov rfl) ?_
 refine ax_q (q_mov rfl) ?_
 refine ax_call rfl (vcall_own (c_checkList (r0 := (chkF 8 0 7 lsn ⟨t, false⟩).2) (most := 10) (low := 1) (high := 60) (lsn := lsn) (by omega) (by omega) (by omega) hm) hP hmv false (fun _ => 11) [1000] ⟨rfl, rfl, rfl, rfl, ⟨rfl, trivial⟩, rfl, rfl, rfl⟩ (.pass rfl rfl (.pass rfl rfl (.pass rfl rfl (.pass rfl rfl (.pass rfl rfl .nil))))) ?_)
 rintro r h ⟨rfl, rfl⟩
 refine ⟨fun _ => 11, [], ⟨rfl, rfl, rfl, rfl, mem1 rfl, rfl, rfl, fun h => absurd h Bool.false_ne_true⟩, ?_⟩
 refine ax_q (q_mov rfl) ?_
 refine ax_nil (cx_keep rfl rfl (cx_seq (cx_ops ?_)))
 refine ax_q (q_mov rfl) ?_
 refine ax_q (q_mov rfl) ?_
 apply ax_and rfl rfl
 ·
  intro g
  refine ax_q (q_mov rfl) ?_
  exact ax_nil ⟨rfl, by repeat constructor⟩
 refine ax_q (q_mov rfl) ?_
 apply ax_and rfl rfl
 ·
  intro g
  have g := (fun h => And.intro (id (and_T h).1) (id (and_T h).2)) g
  refine ax_q (q_mov rfl) ?_
  refine ax_call rfl (vcall_own (c_isDone (r0 := (chkF 10 1 60 lsn (chkF 8 0 7 lsn ⟨t, false⟩).2).2)) hP hmv false (fun _ => 11) [1000] ⟨rfl, rfl, rfl, rfl, ⟨rfl, trivial⟩, rfl, rfl, rfl⟩ (.pass rfl rfl .nil) ?_)
  rintro r h ⟨rfl, rfl⟩
  refine ⟨fun _ => 11, [], ⟨rfl, rfl, rfl, rfl, mem1 rfl, rfl, rfl, fun h => absurd h Bool.false_ne_true⟩, ?_⟩
  exact ax_nil ⟨rfl, by repeat constructor⟩
 refine ax_q (q_mov rfl) ?_
 refine ax_nil (cx_keep rfl rfl ?_)
 refine cx_ret (ret0 rfl rfl ?_)
 exact ⟨rfl, rfl⟩


/- loop.example/g00332/impl.RecordOK -/
def k_c_RecordOK : XCode :=
 .seq (.ops [.op (some 1) (.box (.t 0)),
   .op (some 2) (.mov (.k (.bool false)))])
 (.keep [1] (.seq (.seq (.ops [.op (some 5) (.fadr (.t 1) 0),
   .op (some 6) (.load1 (.t 5)),
   .call (some 7) 63 [.t 6, .k (.int .i64 1), .k (.int .i64 60)],
   .op (some 8) (.not (.t 7)),
   .op (some 9) (.mov (.t 8)),
   .andor 14 false 4 9 [.op (some 10) (.fadr (.t 1) 1), .op (some 11) (.load1 (.t 10)), .call (some 12) 63 [.t 11, .k (.int .i64 1), .k (.int .i64 60)], .op (some 13) (.not (.t 12))] (.t 13)])
  (.keep [1, 14] (.cond (.t 14)
  (.seq (.ops [.op (some 2) (.mov (.k (.bool false)))])
   (.keep [2] (.ret)))
  (.skip))))
 (.keep [1] (.seq (.ops [.op (some 15) (.loadN 10 (.t 1)),
   .op (some 3) (.alloc [.int .i64 0, .int .i64 0, .int .i64 0, .int .i64 0, .int .i64 0, .int .i64 0, .int .i64 0, .int .i64 0, .str [], .str []]),
   .op none (.store 10 (.t 3) (.t 15))])
 (.keep [1, 3] (.seq (.ops [.op (some 16) (.fadr (.t 3) 0),
   .op none (.store 1 (.t 16) (.k (.int .i64 0))),
   .op (some 17) (.fadr (.t 3) 1),
   .op none (.store 1 (.t 17) (.k (.int .i64 0))),
   .op (some 18) (.fadr (.t 3) 2),
   .op none (.store 1 (.t 18) (.k (.int .i64 0))),
   .op (some 19) (.fadr (.t 3) 3),
   .op none (.store 1 (.t 19) (.k (.int .i64 0))),
   .op (some 20) (.fadr (.t 3) 4),
   .op none (.store 1 (.t 20) (.k (.int .i64 0)))])
 (.keep [1, 3] (.seq (.seq (.ops [.op (some 21) (.fadr (.t 1) 3),
   .op (some 22) (.load1 (.t 21))])
  (.keep [1, 3, 22] (.block 0 (.seq (.ops [.op (some 24) (.bin .eql (.t 22) (.k (.int .i64 6))),
    .op (some 23) (.mov (.t 24))])
  (.keep [1, 3, 22, 23] (.cond (.t 23)
   (.seq (.ops [.op (some 25) (.fadr (.t 3) 9),
     .op none (.store 1 (.t 25) (.k (.str [])))])
   (.keep [1, 3] (.seq (.ops [.op (some 26) (.fadr (.t 1) 2),
     .op (some 27) (.load1 (.t 26)),
     .op (some 28) (.bin .eql (.t 27) (.k (.int .i64 0))),
     .op (some 29) (.mov (.t 28)),
     .andor 33 true 3 29 [.op (some 30) (.fadr (.t 1) 4), .op (some 31) (.load1 (.t 30)), .op (some 32) (.bin .eql (.t 31) (.k (.int .i64 0)))] (.t 32),
     .op (some 34) (.mov (.t 33)),
     .andor 38 true 8 34 [.op (some 35) (.loadN 10 (.t 3)), .op (some 36) (.build [.int .i64 0, .int .i64 0, .int .i64 0, .int .i64 0, .int .i64 0, .int .i64 0, .int .i64 0, .int .i64 0, .str [], .str []] []), .op (some 37) (.eqs false [0, 0, 0, 0, 0, 0, 0, 0, 2, 2] (.t 35) (.t 36))] (.t 37),
     .op (some 39) (.mov (.t 38)),
     .andor 45 true 13 39 [.op (some 40) (.fadr (.t 1) 9), .op (some 41) (.load1 (.t 40)), .op (some 42) (.fadr (.t 1) 1), .op (some 43) (.load1 (.t 42)), .call (some 44) 208 [.t 41, .t 43]] (.t 44),
     .op (some 2) (.mov (.t 45))])
   (.keep [2] (.ret)))))
   (.seq (.seq (.ops [.op (some 47) (.bin .eql (.t 22) (.k (.int .i64 2))),
     .op (some 46) (.mov (.t 47))])
    (.keep [1, 3, 22, 46] (.cond (.t 46)
    (.skip)
    (.ops [.op (some 48) (.bin .eql (.t 22) (.k (.int .i64 3))),
      .op (some 46) (.mov (.t 48))]))))
   (.keep [1, 3, 46] (.cond (.t 46)
    (.seq (.ops [.op (some 49) (.fadr (.t 1) 6),
      .op (some 50) (.load1 (.t 49)),
      .call (some 51) 75 [.t 50, .k (.int .i64 8)],
      .op (some 52) (.mov (.t 51)),
      .andor 56 true 3 52 [.op (some 53) (.fadr (.t 1) 7), .op (some 54) (.load1 (.t 53)), .call (some 55) 75 [.t 54, .k (.int .i64 4)]] (.t 55),
      .op (some 4) (.mov (.t 56))])
    (.keep [1, 3, 4] (.seq (.seq (.ops [.op (some 57) (.mov (.t 4)),
      .op (some 58) (.not (.t 57)),
      .op (some 59) (.mov (.t 58)),
      .andor 64 false 2 59 [.op (some 60) (.fadr (.t 1) 8), .op (some 61) (.load1 (.t 60)), .op (some 62) (.lenT (.t 61)), .op (some 63) (.bin .gtr (.t 62) (.k (.int .i64 30)))] (.t 63),
      .op (some 65) (.mov (.t 64)),
      .andor 70 false 8 65 [.op (some 66) (.fadr (.t 1) 9), .op (some 67) (.load1 (.t 66)), .op (some 68) (.lenT (.t 67)), .op (some 69) (.bin .gtr (.t 68) (.k (.int .i64 30)))] (.t 69),
      .op (some 71) (.mov (.t 70)),
      .andor 84 false 14 71 [.op (some 72) (.fadr (.t 1) 3), .op (some 73) (.load1 (.t 72)), .op (some 74) (.bin .eql (.t 73) (.k (.int .i64 3))), .op (some 75) (.mov (.t 74)), .andor 83 true 18 75 [.op (some 76) (.fadr (.t 1) 5), .op (some 77) (.load1 (.t 76)), .op (some 78) (.fadr (.t 1) 1), .op (some 79) (.load1 (.t 78)), .op (some 80) (.bin .sub (.t 79) (.k (.int .i64 1))), .call (some 81) 63 [.t 77, .k (.int .i64 0), .t 80], .op (some 82) (.not (.t 81))] (.t 82)] (.t 83)])
     (.keep [1, 3, 84] (.cond (.t 84)
     (.seq (.ops [.op (some 2) (.mov (.k (.bool false)))])
      (.keep [2] (.ret)))
     (.skip))))
    (.keep [1, 3] (.seq (.ops [.op (some 85) (.fadr (.t 3) 6),
      .op none (.store 1 (.t 85) (.k (.int .i64 0))),
      .op (some 86) (.fadr (.t 3) 7),
      .op none (.store 1 (.t 86) (.k (.int .i64 0))),
      .op (some 87) (.fadr (.t 3) 9),
      .op none (.store 1 (.t 87) (.k (.str [])))])
    (.keep [1, 3] (.seq (.ops [.op (some 88) (.fadr (.t 1) 3),
      .op (some 89) (.load1 (.t 88)),
      .op (some 90) (.bin .eql (.t 89) (.k (.int .i64 2)))])
    (.keep [1, 3, 90] (.cond (.t 90)
     (.ops [.op (some 91) (.fadr (.t 3) 8),
      .op none (.store 1 (.t 91) (.k (.str [])))])
     (.ops [.op (some 92) (.fadr (.t 3) 5),
      .op none (.store 1 (.t 92) (.k (.int .i64 0)))]))))))))))
    (.skip))))))))))
 (.keep [1, 3] (.seq (.ops [.op (some 93) (.fadr (.t 1) 3),
   .op (some 94) (.load1 (.t 93)),
   .call (some 95) 63 [.t 94, .k (.int .i64 1), .k (.int .i64 5)],
   .op (some 96) (.mov (.t 95)),
   .andor 100 true 3 96 [.op (some 97) (.loadN 10 (.t 3)), .op (some 98) (.build [.int .i64 0, .int .i64 0, .int .i64 0, .int .i64 0, .int .i64 0, .int .i64 0, .int .i64 0, .int .i64 0, .str [], .str []] []), .op (some 99) (.eqs false [0, 0, 0, 0, 0, 0, 0, 0, 2, 2] (.t 97) (.t 98))] (.t 99),
   .op (some 101) (.mov (.t 100)),
   .andor 105 true 8 101 [.op (some 102) (.fadr (.t 1) 2), .op (some 103) (.load1 (.t 102)), .call (some 104) 63 [.t 103, .k (.int .i64 1), .k (.int .i64 60)]] (.t 104),
   .op (some 106) (.mov (.t 105)),
   .andor 113 true 13 106 [.op (some 107) (.fadr (.t 1) 4), .op (some 108) (.load1 (.t 107)), .op (some 109) (.fadr (.t 1) 1), .op (some 110) (.load1 (.t 109)), .op (some 111) (.bin .sub (.t 110) (.k (.int .i64 1))), .call (some 112) 63 [.t 108, .k (.int .i64 0), .t 111]] (.t 112),
   .op (some 114) (.mov (.t 113)),
   .andor 122 true 21 114 [.op (some 115) (.fadr (.t 1) 4), .op (some 116) (.load1 (.t 115)), .op (some 117) (.bin .eql (.t 116) (.k (.int .i64 0))), .op (some 118) (.fadr (.t 1) 3), .op (some 119) (.load1 (.t 118)), .op (some 120) (.bin .eql (.t 119) (.k (.int .i64 1))), .op (some 121) (.eqb false (.t 117) (.t 120))] (.t 121),
   .op (some 2) (.mov (.t 122))])
 (.keep [2] (.ret))))))))))))
theorem k_c_RecordOK_fits : fitsF Tryz.prog 146 ⟨123, k_c_RecordOK, [.t 2]⟩ = true := by kernel_rfl
set_option maxHeartbeats 4000000 in
theorem c_RecordOK {x : GLogRecord} (hl : x.After.length ≤ 1048576) : Con Tryz.prog noMv 146 [x.av] [] (fun r h => r = bool (recOK x) ∧ h = []) := by
 refine con_of2 k_c_RecordOK_fits rfl fun C hP hmv => ?_
 unfold k_c_RecordOK
 refine cx_seq (cx_ops ?_)
 refine ax_e (e_box rfl rfl (by decide) rfl rfl rfl) ?_
 refine ax_q (q_mov rfl) ?_
 refine ax_nil (cx_keep rfl rfl (cx_seq (cx_seq (cx_ops ?_))))
 refine ax_q (q_fadr_ptr rfl) ?_
 refine ax_q (q_load1_ptr rfl rfl rfl) ?_
 refine ax_call rfl (vc_pure0 (c_inRange  ) hP rfl rfl ?_)
 refine ax_q (q_not rfl) ?_
 refine ax_q (q_mov rfl) ?_
 apply ax_or rfl rfl
 ·
  intro g
  have g := bF g
  refine ax_q (q_fadr_ptr rfl) ?_
  refine ax_q (q_load1_ptr rfl rfl rfl) ?_
  refine ax_call rfl (vc_pure0 (c_inRange  ) hP rfl rfl ?_)
  refine ax_q (q_not rfl) ?_
  exact ax_nil ⟨rfl, by repeat constructor⟩
 refine ax_nil (cx_keep rfl rfl ?_)
 refine cx_cond rfl (fun h0 => ?_) (fun h0 => ?_)
 ·
  have h0 : (!inR x.Epoch 1 60 || !inR x.Lsn 1 60) = true := h0
  have e0 : recOK x = false := hd_in (by
   rw [Bool.or_eq_true, Bool.not_eq_true', Bool.not_eq_true'] at h0
   exact h0.imp (fun q => fun c => by rw [inR_iff.2 c] at q; cases q) (fun q => fun c => by rw [inR_iff.2 c] at q; cases q))
  refine cx_seq (cx_ops ?_)
  refine ax_q (q_mov rfl) ?_
  refine ax_nil (cx_keep rfl rfl ?_)
  refine cx_ret (ret0 rfl rfl ?_)
  exact ⟨by rw [e0]; rfl, rfl⟩
 ·
  have h0 : (!inR x.Epoch 1 60 || !inR x.Lsn 1 60) = false := h0
  have hi : (1 ≤ x.Epoch ∧ x.Epoch ≤ 60) ∧ (1 ≤ x.Lsn ∧ x.Lsn ≤ 60) := by
   rw [Bool.or_eq_false_iff, Bool.not_eq_false', Bool.not_eq_false', inR_iff, inR_iff] at h0
   exact h0
  refine cx_skip ?_
  refine cx_keep rfl rfl (cx_seq (cx_ops ?_))
  refine ax_q (q_ldN rfl rfl rfl) ?_
  refine ax_e (e_alloc (by decide) rfl rfl) ?_
  refine ax_e (e_st rfl rfl rfl rfl rfl rfl rfl) ?_
  refine ax_nil (cx_keep rfl rfl (cx_seq (cx_ops ?_)))
  refine ax_q (q_fadr_ptr rfl) ?_
  refine ax_e (e_st rfl rfl rfl rfl rfl rfl rfl) ?_
  refine ax_q (q_fadr_ptr rfl) ?_
  refine ax_e (e_st rfl rfl rfl rfl rfl rfl rfl) ?_
  refine ax_q (q_fadr_ptr rfl) ?_
  refine ax_e (e_st rfl rfl rfl rfl rfl rfl rfl) ?_
  refine ax_q (q_fadr_ptr rfl) ?_
  refine ax_e (e_st rfl rfl rfl rfl rfl rfl rfl) ?_
  refine ax_q (q_fadr_ptr rfl) ?_
  refine ax_e (e_st rfl rfl rfl rfl rfl rfl rfl) ?_
  refine ax_nil (cx_keep rfl rfl (cx_seq (cx_seq (cx_ops ?_))))
  refine ax_q (q_fadr_ptr rfl) ?_
  refine ax_q (q_load1_ptr rfl rfl rfl) ?_
  refine ax_nil (cx_keep rfl rfl (cx_block (cx_seq (cx_ops ?_))))
  refine ax_q (q_ibin rfl rfl rfl) ?_
  refine ax_q (q_mov rfl) ?_
  refine ax_nil (cx_keep rfl rfl ?_)
  refine cx_cond rfl (fun h1 => ?_) (fun h1 => ?_)
  ·
   have h1 := dT h1
   refine cx_seq (cx_ops ?_)
   refine ax_q (q_fadr_ptr rfl) ?_
   refine ax_e (e_st rfl rfl rfl rfl rfl rfl rfl) ?_
   refine ax_nil (cx_keep rfl rfl (cx_seq (cx_ops ?_)))
   refine ax_q (q_fadr_ptr rfl) ?_
   refine ax_q (q_load1_ptr rfl rfl rfl) ?_
   refine ax_q (q_ibin rfl rfl rfl) ?_
   refine ax_q (q_mov rfl) ?_
   apply ax_and rfl rfl
   ·
    intro g
    have g := dT g
    refine ax_q (q_fadr_ptr rfl) ?_
    refine ax_q (q_load1_ptr rfl rfl rfl) ?_
    refine ax_q (q_ibin rfl rfl rfl) ?_
    exact ax_nil ⟨rfl, by repeat constructor⟩
   refine ax_q (q_mov rfl) ?_
   apply ax_and rfl rfl
   ·
    intro g
    have g := (fun h => And.intro (dT (and_T h).1) (dT (and_T h).2)) g
    refine ax_q (q_ldN rfl rfl rfl) ?_
    refine ax_q (q_build rfl) ?_
    refine ax_q (GLogRecord.q_eqs (a := rest6 x) (b := .zero) rfl rfl) ?_
    exact ax_nil ⟨rfl, by repeat constructor⟩
   refine ax_q (q_mov rfl) ?_
   apply ax_and rfl rfl
   ·
    intro g
    have g := (fun h => And.intro ((fun h => And.intro (dT (and_T h).1) (dT (and_T h).2)) (and_T h).1) (id (and_T h).2)) g
    refine ax_q (q_fadr_ptr rfl) ?_
    refine ax_q (q_load1_ptr rfl rfl rfl) ?_
    refine ax_q (q_fadr_ptr rfl) ?_
    refine ax_q (q_load1_ptr rfl rfl rfl) ?_
    refine ax_call rfl (vc_pure0 (c_isCheck (t := x.After) (lsn := x.Lsn) ?_ ?_) hP rfl rfl ?_)
    ·
     assumption
    ·
     first | assumption | omega
    exact ax_nil ⟨rfl, by repeat constructor⟩
   refine ax_q (q_mov rfl) ?_
   refine ax_nil (cx_keep rfl rfl ?_)
   refine cx_ret (ret0 rfl rfl ?_)
   exact ⟨congrArg AM.bool (recI_6 hi h1), rfl⟩
  ·
   have h1 := dF h1
   refine cx_seq (cx_seq (cx_ops ?_))
   refine ax_q (q_ibin rfl rfl rfl) ?_
   refine ax_q (q_mov rfl) ?_
   refine ax_nil (cx_keep rfl rfl ?_)
   refine cx_cond rfl (fun h2 => ?_) (fun h2 => ?_)
   ·
    have h2 := dT h2
    refine cx_skip ?_
    refine cx_keep rfl rfl ?_
    refine cx_cond rfl (fun h3 => ?_) (fun h3 => ?_)
    ·
     have h3 := dT h3
     skip
     refine cx_seq (cx_ops ?_)
     refine ax_q (q_fadr_ptr rfl) ?_
     refine ax_q (q_load1_ptr rfl rfl rfl) ?_
     refine ax_call rfl (vc_pure0 (c_isPlace (n := x.Page) (k := 8) ?_) hP rfl rfl ?_)
     ·
      first | assumption | omega
     refine ax_q (q_mov rfl) ?_
     apply ax_and rfl rfl
     ·
      intro g
      refine ax_q (q_fadr_ptr rfl) ?_
      refine ax_q (q_load1_ptr rfl rfl rfl) ?_
      refine ax_call rfl (vc_pure0 (c_isPlace (n := x.Slot) (k := 4) ?_) hP rfl rfl ?_)
      ·
       first | assumption | omega
      exact ax_nil ⟨rfl, by repeat constructor⟩
     refine ax_q (q_mov rfl) ?_
     refine ax_nil (cx_keep rfl rfl (cx_seq (cx_seq (cx_ops ?_))))
     refine ax_q (q_mov rfl) ?_
     refine ax_q (q_not rfl) ?_
     refine ax_q (q_mov rfl) ?_
     apply ax_or rfl rfl
     ·
      intro g
      have g := (fun h => (fun h => And.intro (id (and_T h).1) (id (and_T h).2)) (bF h)) g
      refine ax_q (q_fadr_ptr rfl) ?_
      refine ax_q (q_load1_ptr rfl rfl rfl) ?_
      refine ax_q (q_lenT rfl) ?_
      refine ax_q (q_ibin rfl rfl rfl) ?_
      exact ax_nil ⟨rfl, by repeat constructor⟩
     refine ax_q (q_mov rfl) ?_
     apply ax_or rfl rfl
     ·
      intro g
      have g := (fun h => And.intro ((fun h => (fun h => And.intro (id (and_T h).1) (id (and_T h).2)) (bF h)) (or_F h).1) (dF (or_F h).2)) g
      refine ax_q (q_fadr_ptr rfl) ?_
      refine ax_q (q_load1_ptr rfl rfl rfl) ?_
      refine ax_q (q_lenT rfl) ?_
      refine ax_q (q_ibin rfl rfl rfl) ?_
      exact ax_nil ⟨rfl, by repeat constructor⟩
     refine ax_q (q_mov rfl) ?_
     apply ax_or rfl rfl
     ·
      intro g
      have g := (fun h => And.intro ((fun h => And.intro ((fun h => (fun h => And.intro (id (and_T h).1) (id (and_T h).2)) (bF h)) (or_F h).1) (dF (or_F h).2)) (or_F h).1) (dF (or_F h).2)) g
      refine ax_q (q_fadr_ptr rfl) ?_
      refine ax_q (q_load1_ptr rfl rfl rfl) ?_
      refine ax_q (q_ibin rfl rfl rfl) ?_
      refine ax_q (q_mov rfl) ?_
      apply ax_and rfl rfl
      ·
       intro g
       have g := dT g
       refine ax_q (q_fadr_ptr rfl) ?_
       refine ax_q (q_load1_ptr rfl rfl rfl) ?_
       refine ax_q (q_fadr_ptr rfl) ?_
       refine ax_q (q_load1_ptr rfl rfl rfl) ?_
       refine ax_q (q_sub rfl rfl (by omega)) ?_
       refine ax_call rfl (vc_pure0 (c_inRange  ) hP rfl rfl ?_)
       refine ax_q (q_not rfl) ?_
       exact ax_nil ⟨rfl, by repeat constructor⟩
      exact ax_nil ⟨rfl, by repeat constructor⟩
     refine ax_nil (cx_keep rfl rfl ?_)
     refine cx_cond rfl (fun h4 => ?_) (fun h4 => ?_)
     ·
      have h4 : badU x = true := h4
      refine cx_seq (cx_ops ?_)
      refine ax_q (q_mov rfl) ?_
      refine ax_nil (cx_keep rfl rfl ?_)
      refine cx_ret (ret0 rfl rfl ?_)
      exact ⟨by rw [recI_bad (.inl h2) h4]; rfl, rfl⟩
     ·
      have h4 : badU x = false := h4
      refine cx_skip ?_
      refine cx_keep rfl rfl (cx_seq (cx_ops ?_))
      refine ax_q (q_fadr_ptr rfl) ?_
      refine ax_e (e_st rfl rfl rfl rfl rfl rfl rfl) ?_
      refine ax_q (q_fadr_ptr rfl) ?_
      refine ax_e (e_st rfl rfl rfl rfl rfl rfl rfl) ?_
      refine ax_q (q_fadr_ptr rfl) ?_
      refine ax_e (e_st rfl rfl rfl rfl rfl rfl rfl) ?_
      refine ax_nil (cx_keep rfl rfl (cx_seq (cx_ops ?_)))
      refine ax_q (q_fadr_ptr rfl) ?_
      refine ax_q (q_load1_ptr rfl rfl rfl) ?_
      refine ax_q (q_ibin rfl rfl rfl) ?_
      refine ax_nil (cx_keep rfl rfl ?_)
      refine cx_cond rfl (fun h5 => ?_) (fun h5 => ?_)
      ·
       have h5 := dT h5
       refine cx_ops ?_
       refine ax_q (q_fadr_ptr rfl) ?_
       refine ax_e (e_st rfl rfl rfl rfl rfl rfl rfl) ?_
       refine ax_nil (cx_keep rfl rfl (cx_seq (cx_ops ?_)))
       refine ax_q (q_fadr_ptr rfl) ?_
       refine ax_q (q_load1_ptr rfl rfl rfl) ?_
       refine ax_call rfl (vc_pure0 (c_inRange  ) hP rfl rfl ?_)
       refine ax_q (q_mov rfl) ?_
       apply ax_and rfl rfl
       ·
        intro g
        refine ax_q (q_ldN rfl rfl rfl) ?_
        refine ax_q (q_build rfl) ?_
        refine ax_q (GLogRecord.q_eqs (a := rest2 x) (b := .zero) rfl rfl) ?_
        exact ax_nil ⟨rfl, by repeat constructor⟩
       refine ax_q (q_mov rfl) ?_
       apply ax_and rfl rfl
       ·
        intro g
        have g := (fun h => And.intro (id (and_T h).1) (id (and_T h).2)) g
        refine ax_q (q_fadr_ptr rfl) ?_
        refine ax_q (q_load1_ptr rfl rfl rfl) ?_
        refine ax_call rfl (vc_pure0 (c_inRange  ) hP rfl rfl ?_)
        exact ax_nil ⟨rfl, by repeat constructor⟩
       refine ax_q (q_mov rfl) ?_
       apply ax_and rfl rfl
       ·
        intro g
        have g := (fun h => And.intro ((fun h => And.intro (id (and_T h).1) (id (and_T h).2)) (and_T h).1) (id (and_T h).2)) g
        refine ax_q (q_fadr_ptr rfl) ?_
        refine ax_q (q_load1_ptr rfl rfl rfl) ?_
        refine ax_q (q_fadr_ptr rfl) ?_
        refine ax_q (q_load1_ptr rfl rfl rfl) ?_
        refine ax_q (q_sub rfl rfl (by omega)) ?_
        refine ax_call rfl (vc_pure0 (c_inRange  ) hP rfl rfl ?_)
        exact ax_nil ⟨rfl, by repeat constructor⟩
       refine ax_q (q_mov rfl) ?_
       apply ax_and rfl rfl
       ·
        intro g
        have g := (fun h => And.intro ((fun h => And.intro ((fun h => And.intro (id (and_T h).1) (id (and_T h).2)) (and_T h).1) (id (and_T h).2)) (and_T h).1) (id (and_T h).2)) g
        refine ax_q (q_fadr_ptr rfl) ?_
        refine ax_q (q_load1_ptr rfl rfl rfl) ?_
        refine ax_q (q_ibin rfl rfl rfl) ?_
        refine ax_q (q_fadr_ptr rfl) ?_
        refine ax_q (q_load1_ptr rfl rfl rfl) ?_
        refine ax_q (q_ibin rfl rfl rfl) ?_
        refine ax_q (q_eqb rfl rfl) ?_
        exact ax_nil ⟨rfl, by repeat constructor⟩
       refine ax_q (q_mov rfl) ?_
       refine ax_nil (cx_keep rfl rfl ?_)
       refine cx_ret (ret0 rfl rfl ?_)
       exact ⟨congrArg AM.bool (recI_2 hi h2 h4), rfl⟩
      ·
       have h5 := dF h5
       exact absurd h2 h5
    ·
     have h3 := dF h3
     exact absurd h2 h3
   ·
    have h2 := dF h2
    refine cx_ops ?_
    refine ax_q (q_ibin rfl rfl rfl) ?_
    refine ax_q (q_mov rfl) ?_
    refine ax_nil (cx_keep rfl rfl ?_)
    refine cx_cond rfl (fun h3 => ?_) (fun h3 => ?_)
    ·
     have h3 := dT h3
     refine cx_seq (cx_ops ?_)
     refine ax_q (q_fadr_ptr rfl) ?_
     refine ax_q (q_load1_ptr rfl rfl rfl) ?_
     refine ax_call rfl (vc_pure0 (c_isPlace (n := x.Page) (k := 8) ?_) hP rfl rfl ?_)
     ·
      first | assumption | omega
     refine ax_q (q_mov rfl) ?_
     apply ax_and rfl rfl
     ·
      intro g
      refine ax_q (q_fadr_ptr rfl) ?_
      refine ax_q (q_load1_ptr rfl rfl rfl) ?_
      refine ax_call rfl (vc_pure0 (c_isPlace (n := x.Slot) (k := 4) ?_) hP rfl rfl ?_)
      ·
       first | assumption | omega
      exact ax_nil ⟨rfl, by repeat constructor⟩
     refine ax_q (q_mov rfl) ?_
     refine ax_nil (cx_keep rfl rfl (cx_seq (cx_seq (cx_ops ?_))))
     refine ax_q (q_mov rfl) ?_
     refine ax_q (q_not rfl) ?_
     refine ax_q (q_mov rfl) ?_
     apply ax_or rfl rfl
     ·
      intro g
      have g := (fun h => (fun h => And.intro (id (and_T h).1) (id (and_T h).2)) (bF h)) g
      refine ax_q (q_fadr_ptr rfl) ?_
      refine ax_q (q_load1_ptr rfl rfl rfl) ?_
      refine ax_q (q_lenT rfl) ?_
      refine ax_q (q_ibin rfl rfl rfl) ?_
      exact ax_nil ⟨rfl, by repeat constructor⟩
     refine ax_q (q_mov rfl) ?_
     apply ax_or rfl rfl
     ·
      intro g
      have g := (fun h => And.intro ((fun h => (fun h => And.intro (id (and_T h).1) (id (and_T h).2)) (bF h)) (or_F h).1) (dF (or_F h).2)) g
      refine ax_q (q_fadr_ptr rfl) ?_
      refine ax_q (q_load1_ptr rfl rfl rfl) ?_
      refine ax_q (q_lenT rfl) ?_
      refine ax_q (q_ibin rfl rfl rfl) ?_
      exact ax_nil ⟨rfl, by repeat constructor⟩
     refine ax_q (q_mov rfl) ?_
     apply ax_or rfl rfl
     ·
      intro g
      have g := (fun h => And.intro ((fun h => And.intro ((fun h => (fun h => And.intro (id (and_T h).1) (id (and_T h).2)) (bF h)) (or_F h).1) (dF (or_F h).2)) (or_F h).1) (dF (or_F h).2)) g
      refine ax_q (q_fadr_ptr rfl) ?_
      refine ax_q (q_load1_ptr rfl rfl rfl) ?_
      refine ax_q (q_ibin rfl rfl rfl) ?_
      refine ax_q (q_mov rfl) ?_
      apply ax_and rfl rfl
      ·
       intro g
       have g := dT g
       refine ax_q (q_fadr_ptr rfl) ?_
       refine ax_q (q_load1_ptr rfl rfl rfl) ?_
       refine ax_q (q_fadr_ptr rfl) ?_
       refine ax_q (q_load1_ptr rfl rfl rfl) ?_
       refine ax_q (q_sub rfl rfl (by omega)) ?_
       refine ax_call rfl (vc_pure0 (c_inRange  ) hP rfl rfl ?_)
       refine ax_q (q_not rfl) ?_
       exact ax_nil ⟨rfl, by repeat constructor⟩
      exact ax_nil ⟨rfl, by repeat constructor⟩
     refine ax_nil (cx_keep rfl rfl ?_)
     refine cx_cond rfl (fun h4 => ?_) (fun h4 => ?_)
     ·
      have h4 : badU x = true := h4
      refine cx_seq (cx_ops ?_)
      refine ax_q (q_mov rfl) ?_
      refine ax_nil (cx_keep rfl rfl ?_)
      refine cx_ret (ret0 rfl rfl ?_)
      exact ⟨by rw [recI_bad (.inr h3) h4]; rfl, rfl⟩
     ·
      have h4 : badU x = false := h4
      refine cx_skip ?_
      refine cx_keep rfl rfl (cx_seq (cx_ops ?_))
      refine ax_q (q_fadr_ptr rfl) ?_
      refine ax_e (e_st rfl rfl rfl rfl rfl rfl rfl) ?_
      refine ax_q (q_fadr_ptr rfl) ?_
      refine ax_e (e_st rfl rfl rfl rfl rfl rfl rfl) ?_
      refine ax_q (q_fadr_ptr rfl) ?_
      refine ax_e (e_st rfl rfl rfl rfl rfl rfl rfl) ?_
      refine ax_nil (cx_keep rfl rfl (cx_seq (cx_ops ?_)))
      refine ax_q (q_fadr_ptr rfl) ?_
      refine ax_q (q_load1_ptr rfl rfl rfl) ?_
      refine ax_q (q_ibin rfl rfl rfl) ?_
      refine ax_nil (cx_keep rfl rfl ?_)
      refine cx_cond rfl (fun h5 => ?_) (fun h5 => ?_)
      ·
       have h5 := dT h5
       exact absurd h5 h2
      ·
       have h5 := dF h5
       refine cx_ops ?_
       refine ax_q (q_fadr_ptr rfl) ?_
       refine ax_e (e_st rfl rfl rfl rfl rfl rfl rfl) ?_
       refine ax_nil (cx_keep rfl rfl (cx_seq (cx_ops ?_)))
       refine ax_q (q_fadr_ptr rfl) ?_
       refine ax_q (q_load1_ptr rfl rfl rfl) ?_
       refine ax_call rfl (vc_pure0 (c_inRange  ) hP rfl rfl ?_)
       refine ax_q (q_mov rfl) ?_
       apply ax_and rfl rfl
       ·
        intro g
        refine ax_q (q_ldN rfl rfl rfl) ?_
        refine ax_q (q_build rfl) ?_
        refine ax_q (GLogRecord.q_eqs (a := rest3 x) (b := .zero) rfl rfl) ?_
        exact ax_nil ⟨rfl, by repeat constructor⟩
       refine ax_q (q_mov rfl) ?_
       apply ax_and rfl rfl
       ·
        intro g
        have g := (fun h => And.intro (id (and_T h).1) (id (and_T h).2)) g
        refine ax_q (q_fadr_ptr rfl) ?_
        refine ax_q (q_load1_ptr rfl rfl rfl) ?_
        refine ax_call rfl (vc_pure0 (c_inRange  ) hP rfl rfl ?_)
        exact ax_nil ⟨rfl, by repeat constructor⟩
       refine ax_q (q_mov rfl) ?_
       apply ax_and rfl rfl
       ·
        intro g
        have g := (fun h => And.intro ((fun h => And.intro (id (and_T h).1) (id (and_T h).2)) (and_T h).1) (id (and_T h).2)) g
        refine ax_q (q_fadr_ptr rfl) ?_
        refine ax_q (q_load1_ptr rfl rfl rfl) ?_
        refine ax_q (q_fadr_ptr rfl) ?_
        refine ax_q (q_load1_ptr rfl rfl rfl) ?_
        refine ax_q (q_sub rfl rfl (by omega)) ?_
        refine ax_call rfl (vc_pure0 (c_inRange  ) hP rfl rfl ?_)
        exact ax_nil ⟨rfl, by repeat constructor⟩
       refine ax_q (q_mov rfl) ?_
       apply ax_and rfl rfl
       ·
        intro g
        have g := (fun h => And.intro ((fun h => And.intro ((fun h => And.intro (id (and_T h).1) (id (and_T h).2)) (and_T h).1) (id (and_T h).2)) (and_T h).1) (id (and_T h).2)) g
        refine ax_q (q_fadr_ptr rfl) ?_
        refine ax_q (q_load1_ptr rfl rfl rfl) ?_
        refine ax_q (q_ibin rfl rfl rfl) ?_
        refine ax_q (q_fadr_ptr rfl) ?_
        refine ax_q (q_load1_ptr rfl rfl rfl) ?_
        refine ax_q (q_ibin rfl rfl rfl) ?_
        refine ax_q (q_eqb rfl rfl) ?_
        exact ax_nil ⟨rfl, by repeat constructor⟩
       refine ax_q (q_mov rfl) ?_
       refine ax_nil (cx_keep rfl rfl ?_)
       refine cx_ret (ret0 rfl rfl ?_)
       exact ⟨congrArg AM.bool (recI_3 hi h3 h4), rfl⟩
    ·
     have h3 := dF h3
     refine cx_skip ?_
     refine cx_keep rfl rfl (cx_seq (cx_ops ?_))
     refine ax_q (q_fadr_ptr rfl) ?_
     refine ax_q (q_load1_ptr rfl rfl rfl) ?_
     refine ax_call rfl (vc_pure0 (c_inRange  ) hP rfl rfl ?_)
     refine ax_q (q_mov rfl) ?_
     apply ax_and rfl rfl
     ·
      intro g
      refine ax_q (q_ldN rfl rfl rfl) ?_
      refine ax_q (q_build rfl) ?_
      refine ax_q (GLogRecord.q_eqs (a := restO x) (b := .zero) rfl rfl) ?_
      exact ax_nil ⟨rfl, by repeat constructor⟩
     refine ax_q (q_mov rfl) ?_
     apply ax_and rfl rfl
     ·
      intro g
      have g := (fun h => And.intro (id (and_T h).1) (id (and_T h).2)) g
      refine ax_q (q_fadr_ptr rfl) ?_
      refine ax_q (q_load1_ptr rfl rfl rfl) ?_
      refine ax_call rfl (vc_pure0 (c_inRange  ) hP rfl rfl ?_)
      exact ax_nil ⟨rfl, by repeat constructor⟩
     refine ax_q (q_mov rfl) ?_
     apply ax_and rfl rfl
     ·
      intro g
      have g := (fun h => And.intro ((fun h => And.intro (id (and_T h).1) (id (and_T h).2)) (and_T h).1) (id (and_T h).2)) g
      refine ax_q (q_fadr_ptr rfl) ?_
      refine ax_q (q_load1_ptr rfl rfl rfl) ?_
      refine ax_q (q_fadr_ptr rfl) ?_
      refine ax_q (q_load1_ptr rfl rfl rfl) ?_
      refine ax_q (q_sub rfl rfl (by omega)) ?_
      refine ax_call rfl (vc_pure0 (c_inRange  ) hP rfl rfl ?_)
      exact ax_nil ⟨rfl, by repeat constructor⟩
     refine ax_q (q_mov rfl) ?_
     apply ax_and rfl rfl
     ·
      intro g
      have g := (fun h => And.intro ((fun h => And.intro ((fun h => And.intro (id (and_T h).1) (id (and_T h).2)) (and_T h).1) (id (and_T h).2)) (and_T h).1) (id (and_T h).2)) g
      refine ax_q (q_fadr_ptr rfl) ?_
      refine ax_q (q_load1_ptr rfl rfl rfl) ?_
      refine ax_q (q_ibin rfl rfl rfl) ?_
      refine ax_q (q_fadr_ptr rfl) ?_
      refine ax_q (q_load1_ptr rfl rfl rfl) ?_
      refine ax_q (q_ibin rfl rfl rfl) ?_
      refine ax_q (q_eqb rfl rfl) ?_
      exact ax_nil ⟨rfl, by repeat constructor⟩
     refine ax_q (q_mov rfl) ?_
     refine ax_nil (cx_keep rfl rfl ?_)
     refine cx_ret (ret0 rfl rfl ?_)
     exact ⟨congrArg AM.bool (recI_o hi h1 h2 h3), rfl⟩


/- slices.IndexFunc[[]loop.example/g00332/impl.LogRecord,loop.example/g00332/impl.LogRecord] -/
def k_c_IndexFunc_LogRecord : XCode :=
 .seq (.ops [.op (some 4) (.mov (.k (.int .i64 0)))])
 (.keep [0, 1] (.seq (.seq (.ops [.op (some 6) (.mov (.t 0)),
   .op (some 7) (.lenS (.t 6)),
   .op (some 8) (.mov (.k (.int .i64 0)))])
  (.keep [0, 1, 7, 8] (.block 0 (.loop (.seq (.ops [.op (some 9) (.bin .lss (.t 8) (.t 7))])
   (.keep [0, 1, 7, 8, 9] (.seq (.cond (.t 9)
    (.skip)
    (.exit 0))
   (.keep [0, 1, 7, 8] (.seq (.block 1 (.seq (.ops [.op (some 10) (.mov (.t 8)),
     .op (some 5) (.mov (.t 10))])
    (.keep [0, 1, 5, 7, 8] (.seq (.ops [.op (some 11) (.mov (.t 1)),
     .op (some 12) (.mov (.t 0)),
     .op (some 13) (.mov (.t 5)),
     .op (some 14) (.iadr 10 (.t 12) (.t 13)),
     .op (some 15) (.loadN 10 (.t 14)),
     .callv (some 16) (.t 11) [.t 15]])
    (.keep [0, 1, 5, 7, 8, 16] (.cond (.t 16)
    (.seq (.ops [.op (some 17) (.mov (.t 5)),
      .op (some 4) (.mov (.t 17))])
     (.keep [4] (.ret)))
    (.skip)))))))
   (.keep [0, 1, 7, 8] (.ops [.op (some 18) (.bin .add (.t 8) (.k (.int .i64 1))),
    .op (some 8) (.mov (.t 18))])))))))))))
 (.keep [] (.seq (.ops [.op (some 4) (.mov (.k (.int .i64 (-1))))])
 (.keep [4] (.ret))))))
theorem k_c_IndexFunc_LogRecord_fits : fitsF Tryz.prog 209 ⟨19, k_c_IndexFunc_LogRecord, [.t 4]⟩ = true := by kernel_rfl
theorem c_IndexFunc_LogRecord {xs : List GLogRecord} {f : Nat} {ds : List D} (p : GLogRecord → Bool) (hw : xs.length ≤ 9223372036854775807) (hb : hasBody Tryz.prog f = true) (hf : ∀ s ∈ xs, Con Tryz.prog noMv f (s.av :: ds.map AV.d) [] (fun r h => r = bool (p s) ∧ h = [])) : Con Tryz.prog noMv 209 [.d (.sl 10 (xs.map GLogRecord.row)), .d (.fn (.func f) ds)] [] (fun r h => r = int (idxOf p xs 0) ∧ h = []) := by
 refine con_of2 k_c_IndexFunc_LogRecord_fits rfl fun C hP hmv => ?_
 unfold k_c_IndexFunc_LogRecord
 refine cx_seq (cx_ops ?_)
 refine ax_q (q_mov rfl) ?_
 refine ax_nil (cx_keep rfl rfl (cx_seq (cx_seq (cx_ops ?_))))
 refine ax_q (q_mov rfl) ?_
 refine ax_q (q_lenS_map rfl) ?_
 refine ax_q (q_mov rfl) ?_
 refine ax_nil (cx_keep rfl rfl (cx_block ?_))
 refine cx_loopU (fun n k => k ≤ xs.length ∧ n = xs.length - k ∧ ∀ i, i < k → ∀ x, xs[i]? = some x → p x = false) (fun k : Nat => [(8, int k)]) (fun _ => []) ⟨_, 0, ⟨by omega, rfl, fun i hi => by omega⟩, by repeat constructor⟩ ?_
 rintro n k ⟨hk, rfl, ht⟩
 refine cx_seq (cx_ops ?_)
 refine ax_q (q_ibin rfl rfl rfl) ?_
 refine ax_nil (cx_keep rfl rfl (cx_seq ?_))
 refine cx_cond rfl (fun h0 => ?_) (fun h0 => ?_)
 ·
  have h0 := dT h0
  have h0x : k < xs.length := by omega
  refine cx_skip ?_
  refine cx_keep rfl rfl (cx_seq (cx_block (cx_seq (cx_ops ?_))))
  refine ax_q (q_mov rfl) ?_
  refine ax_q (q_mov rfl) ?_
  refine ax_nil (cx_keep rfl rfl (cx_seq (cx_ops ?_)))
  refine ax_q (q_mov rfl) ?_
  refine ax_q (q_mov rfl) ?_
  refine ax_q (q_mov rfl) ?_
  refine ax_q (q_ix rfl rfl (mapAt h0x)) ?_
  first | refine ax_q (q_ldN rfl rfl rfl) ?_ | refine ax_q (q_loadN_ip rfl (Nat.le_refl _)) ?_
  refine ax_callvD rfl (by rw [hP]; exact hb) rfl (vc_pure0 (hf _ (List.getElem_mem h0x)) hP (refs_cons rfl ds) rfl ?_)
  refine ax_nil (cx_keep rfl rfl ?_)
  refine cx_cond rfl (fun h1 => ?_) (fun h1 => ?_)
  ·
   skip
   refine cx_seq (cx_ops ?_)
   refine ax_q (q_mov rfl) ?_
   refine ax_q (q_mov rfl) ?_
   refine ax_nil (cx_keep rfl rfl ?_)
   refine cx_ret (ret0 rfl rfl ?_)
   exact ⟨by rw [idxOf_hit h0x ht h1]; rfl, rfl⟩
  ·
   skip
   refine cx_skip ?_
   refine cx_keep rfl rfl (cx_ops ?_)
   refine ax_qe (r' := int ((k + 1 : Nat) : Int)) (q_ibin rfl rfl rfl) (by rw [wi (by omega) (by omega)]; rfl) ?_
   refine ax_q (q_mov rfl) ?_
   refine ax_nil ?_
   exact ⟨_, k + 1, by omega, ⟨by omega, rfl, before_step h0x ht h1⟩, by repeat constructor⟩
 ·
  have h0 := dF h0
  have h0x : k = xs.length := by omega
  refine cx_exit rfl ?_
  refine cx_keep rfl rfl (cx_seq (cx_ops ?_))
  refine ax_q (q_mov rfl) ?_
  refine ax_nil (cx_keep rfl rfl ?_)
  refine cx_ret (ret0 rfl rfl ?_)
  exact ⟨by rw [idxOf_none (fun i hi => ht i (by omega))]; rfl, rfl⟩


/- slices.ContainsFunc[[]loop.example/g00332/impl.LogRecord,loop.example/g00332/impl.LogRecord] -/
def k_c_ContainsFunc_LogRecord : XCode :=
 .seq (.ops [.op (some 4) (.mov (.k (.bool false)))])
 (.keep [0, 1] (.seq (.ops [.op (some 5) (.mov (.t 0)),
   .op (some 6) (.mov (.t 1)),
   .call (some 7) 209 [.t 5, .t 6],
   .op (some 8) (.bin .geq (.t 7) (.k (.int .i64 0))),
   .op (some 4) (.mov (.t 8))])
 (.keep [4] (.ret))))
theorem k_c_ContainsFunc_LogRecord_fits : fitsF Tryz.prog 147 ⟨9, k_c_ContainsFunc_LogRecord, [.t 4]⟩ = true := by kernel_rfl
theorem c_ContainsFunc_LogRecord {xs : List GLogRecord} {f : Nat} {ds : List D} (p : GLogRecord → Bool) (hw : xs.length ≤ 9223372036854775807) (hb : hasBody Tryz.prog f = true) (hf : ∀ s ∈ xs, Con Tryz.prog noMv f (s.av :: ds.map AV.d) [] (fun r h => r = bool (p s) ∧ h = [])) : Con Tryz.prog noMv 147 [.d (.sl 10 (xs.map GLogRecord.row)), .d (.fn (.func f) ds)] [] (fun r h => r = bool (xs.any p) ∧ h = []) := by
 refine con_of2 k_c_ContainsFunc_LogRecord_fits rfl fun C hP hmv => ?_
 unfold k_c_ContainsFunc_LogRecord
 refine cx_seq (cx_ops ?_)
 refine ax_q (q_mov rfl) ?_
 refine ax_nil (cx_keep rfl rfl (cx_seq (cx_ops ?_)))
 refine ax_q (q_mov rfl) ?_
 refine ax_q (q_mov rfl) ?_
 refine ax_call rfl (vc_pure0 (c_IndexFunc_LogRecord p hw hb hf) hP rfl rfl ?_)
 refine ax_qe (r' := bool (xs.any p)) (q_ibin rfl rfl rfl) (congrArg AM.bool any_idxOf) ?_
 refine ax_q (q_mov rfl) ?_
 refine ax_nil (cx_keep rfl rfl ?_)
 refine cx_ret (ret0 rfl rfl ?_)
 exact ⟨rfl, rfl⟩


/- loop.example/g00332/impl.areRecords$1 -/
def k_c_areRecords1 : XCode :=
 .seq (.ops [.op (some 1) (.box (.t 0)),
   .op (some 2) (.mov (.k (.bool false)))])
 (.keep [1] (.seq (.ops [.op (some 3) (.fadr (.t 1) 1),
   .op (some 4) (.load1 (.t 3)),
   .op (some 5) (.bin .gtr (.t 4) (.k (.int .i64 60))),
   .op (some 2) (.mov (.t 5))])
 (.keep [2] (.ret))))
theorem k_c_areRecords1_fits : fitsF Tryz.prog 148 ⟨6, k_c_areRecords1, [.t 2]⟩ = true := by kernel_rfl
theorem c_areRecords1 {a : GLogRecord} : Con Tryz.prog noMv 148 [a.av] [] (fun r h => r = bool (decide ((60 : Int) < a.Lsn)) ∧ h = []) := by
 refine con_of2 k_c_areRecords1_fits rfl fun C hP hmv => ?_
 unfold k_c_areRecords1
 refine cx_seq (cx_ops ?_)
 refine ax_e (e_box rfl rfl (by decide) rfl rfl rfl) ?_
 refine ax_q (q_mov rfl) ?_
 refine ax_nil (cx_keep rfl rfl (cx_seq (cx_ops ?_)))
 refine ax_q (q_fadr_ptr rfl) ?_
 refine ax_q (q_load1_ptr rfl rfl rfl) ?_
 refine ax_q (q_ibin rfl rfl rfl) ?_
 refine ax_q (q_mov rfl) ?_
 refine ax_nil (cx_keep rfl rfl ?_)
 refine cx_ret (ret0 rfl rfl ?_)
 exact ⟨rfl, rfl⟩

end Go.Proofs.YtbanegjijhmojaaGreat
