/- The walks: what each function computes, as a contract without a world (part 1). -/
import Derived.Test.YtbanegjijhmojaaGreatProg
import Derived.Test.YtbanegjijhmojaaGreatW0
namespace Go.Proofs.YtbanegjijhmojaaGreat
open Go Go.AM
set_option maxRecDepth 10000
set_option linter.unusedVariables false
set_option linter.unusedSimpArgs false
/- loop.example/g00332/spec.EngineOK -/
def k_c_sEngineOK : XCode :=
 .seq (.ops [.op (some 1) (.box (.t 0)),
   .op (some 2) (.mov (.k (.bool false)))])
 (.keep [1] (.seq (.seq (.ops [.op (some 9) (.fadr (.t 1) 0),
   .op (some 10) (.loadN 9 (.t 9)),
   .call (some 11) 35 [.t 10],
   .op (some 12) (.not (.t 11)),
   .op (some 13) (.mov (.t 12)),
   .andor 18 false 4 13 [.op (some 14) (.fadr (.t 1) 10), .op (some 15) (.load1 (.t 14)), .op (some 16) (.lenS (.t 15)), .op (some 17) (.bin .gtr (.t 16) (.k (.int .i64 10)))] (.t 17),
   .op (some 19) (.mov (.t 18)),
   .andor 24 false 10 19 [.op (some 20) (.fadr (.t 1) 11), .op (some 21) (.loadN 2 (.t 20)), .call (some 22) 36 [.t 21], .op (some 23) (.not (.t 22))] (.t 23),
   .op (some 25) (.mov (.t 24)),
   .andor 30 false 16 25 [.op (some 26) (.fadr (.t 1) 13), .op (some 27) (.load1 (.t 26)), .call (some 28) 37 [.t 27, .k (.int .i64 1), .k (.int .i64 61)], .op (some 29) (.not (.t 28))] (.t 29)])
  (.keep [1, 30] (.cond (.t 30)
  (.seq (.ops [.op (some 2) (.mov (.k (.bool false)))])
   (.keep [2] (.ret)))
  (.skip))))
 (.keep [1] (.seq (.seq (.ops [.op (some 31) (.fadr (.t 1) 9),
   .op (some 32) (.load1 (.t 31)),
   .op (some 33) (.not (.t 32))])
  (.keep [1, 33] (.cond (.t 33)
  (.seq (.ops [.op (some 34) (.fadr (.t 1) 10),
    .op (some 35) (.load1 (.t 34)),
    .op (some 36) (.lenS (.t 35)),
    .op (some 37) (.bin .eql (.t 36) (.k (.int .i64 0))),
    .op (some 38) (.mov (.t 37)),
    .andor 44 true 4 38 [.op (some 39) (.fadr (.t 1) 11), .op (some 40) (.fadr (.t 39) 0), .op (some 41) (.load1 (.t 40)), .op (some 42) (.lenS (.t 41)), .op (some 43) (.bin .eql (.t 42) (.k (.int .i64 0)))] (.t 43),
    .op (some 45) (.mov (.t 44)),
    .andor 51 true 11 45 [.op (some 46) (.fadr (.t 1) 11), .op (some 47) (.fadr (.t 46) 1), .op (some 48) (.load1 (.t 47)), .op (some 49) (.lenS (.t 48)), .op (some 50) (.bin .eql (.t 49) (.k (.int .i64 0)))] (.t 50),
    .op (some 52) (.mov (.t 51)),
    .andor 58 true 18 52 [.op (some 53) (.fadr (.t 1) 0), .op (some 54) (.fadr (.t 53) 7), .op (some 55) (.load1 (.t 54)), .op (some 56) (.lenS (.t 55)), .op (some 57) (.bin .eql (.t 56) (.k (.int .i64 0)))] (.t 57),
    .op (some 2) (.mov (.t 58))])
   (.keep [2] (.ret)))
  (.skip))))
 (.keep [1] (.seq (.seq (.ops [.op (some 3) (.mov (.k (.int .i64 0)))])
  (.keep [1, 3] (.block 0 (.loop (.seq (.seq (.ops [.op (some 59) (.mov (.t 3)),
     .op (some 60) (.fadr (.t 1) 10),
     .op (some 61) (.load1 (.t 60)),
     .op (some 62) (.lenS (.t 61)),
     .op (some 63) (.bin .lss (.t 59) (.t 62))])
   (.keep [1, 3, 63] (.cond (.t 63)
    (.skip)
    (.exit 0))))
   (.keep [1, 3] (.seq (.block 1 (.seq (.ops [.op (some 66) (.fadr (.t 1) 10),
     .op (some 67) (.load1 (.t 66)),
     .op (some 68) (.mov (.t 3)),
     .op (some 69) (.iadr 2 (.t 67) (.t 68)),
     .op (some 70) (.loadN 2 (.t 69)),
     .op (some 4) (.alloc [.int .i64 0, .int .i64 0]),
     .op none (.store 2 (.t 4) (.t 70))])
    (.keep [1, 3, 4] (.seq (.seq (.draw [.op (some 71) (.fadr (.t 4) 0),
      .op (some 72) (.load1 (.t 71)),
      .op (some 73) (.fadr (.t 1) 13),
      .op (some 74) (.load1 (.t 73)),
      .op (some 75) (.bin .sub (.t 74) (.k (.int .i64 1))),
      .call (some 76) 37 [.t 72, .k (.int .i64 1), .t 75],
      .op (some 77) (.not (.t 76)),
      .op (some 78) (.mov (.t 77)),
      .andor 93 false 7 78 [.op (some 79) (.mov (.t 3)), .op (some 80) (.bin .gtr (.t 79) (.k (.int .i64 0))), .op (some 81) (.mov (.t 80)), .andor 92 true 10 81 [.op (some 82) (.fadr (.t 1) 10), .op (some 83) (.load1 (.t 82)), .op (some 84) (.mov (.t 3)), .op (some 85) (.bin .sub (.t 84) (.k (.int .i64 1))), .op (some 86) (.iadr 2 (.t 83) (.t 85)), .op (some 87) (.fadr (.t 86) 0), .op (some 88) (.load1 (.t 87)), .op (some 89) (.fadr (.t 4) 0), .op (some 90) (.load1 (.t 89)), .op (some 91) (.bin .geq (.t 88) (.t 90))] (.t 91)] (.t 92),
      .op (some 94) (.mov (.t 93)),
      .andor 103 false 23 94 [.op (some 95) (.fadr (.t 4) 1), .op (some 96) (.load1 (.t 95)), .op (some 97) (.fadr (.t 1) 0), .op (some 98) (.fadr (.t 97) 5), .op (some 99) (.load1 (.t 98)), .op (some 100) (.lenS (.t 99)), .call (some 101) 37 [.t 96, .k (.int .i64 1), .t 100], .op (some 102) (.not (.t 101))] (.t 102)])
    (.keep [1, 3, 4, 103] (.cond (.t 103)
     (.seq (.ops [.op (some 2) (.mov (.k (.bool false)))])
     (.keep [2] (.ret)))
     (.skip))))
    (.keep [1, 3, 4] (.seq (.ops [.op (some 104) (.fadr (.t 4) 1),
     .op (some 105) (.load1 (.t 104)),
     .op (some 5) (.mov (.t 105))])
    (.keep [1, 3, 4, 5] (.block 2 (.loop (.seq (.seq (.ops [.op (some 106) (.mov (.t 5)),
       .op (some 107) (.bin .gtr (.t 106) (.k (.int .i64 0)))])
     (.keep [1, 3, 4, 5, 107] (.cond (.t 107)
      (.skip)
      (.exit 2))))
     (.keep [1, 3, 4, 5] (.seq (.block 3 (.seq (.ops [.op (some 116) (.fadr (.t 1) 0),
       .op (some 117) (.fadr (.t 116) 5),
       .op (some 118) (.load1 (.t 117)),
       .op (some 119) (.mov (.t 5)),
       .op (some 120) (.bin .sub (.t 119) (.k (.int .i64 1))),
       .op (some 121) (.iadr 10 (.t 118) (.t 120)),
       .op (some 122) (.loadN 10 (.t 121)),
       .op (some 6) (.alloc [.int .i64 0, .int .i64 0, .int .i64 0, .int .i64 0, .int .i64 0, .int .i64 0, .int .i64 0, .int .i64 0, .str [], .str []]),
       .op none (.store 10 (.t 6) (.t 122))])
      (.keep [1, 3, 4, 5, 6] (.seq (.ops [.op (some 123) (.fadr (.t 6) 2),
       .op (some 124) (.load1 (.t 123)),
       .op (some 125) (.fadr (.t 4) 0),
       .op (some 126) (.load1 (.t 125)),
       .op (some 127) (.bin .neq (.t 124) (.t 126)),
       .op (some 128) (.mov (.t 127)),
       .andor 132 false 5 128 [.op (some 129) (.fadr (.t 6) 3), .op (some 130) (.load1 (.t 129)), .op (some 131) (.bin .eql (.t 130) (.k (.int .i64 4)))] (.t 131),
       .op (some 133) (.mov (.t 132)),
       .andor 137 false 10 133 [.op (some 134) (.fadr (.t 6) 3), .op (some 135) (.load1 (.t 134)), .op (some 136) (.bin .eql (.t 135) (.k (.int .i64 5)))] (.t 136),
       .op (some 138) (.mov (.t 137)),
       .andor 142 false 15 138 [.op (some 139) (.fadr (.t 6) 3), .op (some 140) (.load1 (.t 139)), .op (some 141) (.bin .eql (.t 140) (.k (.int .i64 6)))] (.t 141),
       .op (some 143) (.mov (.t 142)),
       .andor 154 false 20 143 [.op (some 144) (.fadr (.t 6) 3), .op (some 145) (.load1 (.t 144)), .op (some 146) (.bin .eql (.t 145) (.k (.int .i64 3))), .op (some 147) (.mov (.t 146)), .andor 153 true 24 147 [.op (some 148) (.fadr (.t 1) 0), .op (some 149) (.loadN 9 (.t 148)), .op (some 150) (.loadN 10 (.t 6)), .call (some 151) 38 [.t 149, .t 150], .op (some 152) (.not (.t 151))] (.t 152)] (.t 153)])
      (.keep [1, 3, 4, 5, 154] (.cond (.t 154)
      (.seq (.ops [.op (some 2) (.mov (.k (.bool false)))])
       (.keep [2] (.ret)))
      (.skip)))))))
     (.keep [1, 3, 4, 5] (.ops [.op (some 108) (.fadr (.t 1) 0),
      .op (some 109) (.fadr (.t 108) 5),
      .op (some 110) (.load1 (.t 109)),
      .op (some 111) (.mov (.t 5)),
      .op (some 112) (.bin .sub (.t 111) (.k (.int .i64 1))),
      .op (some 113) (.iadr 10 (.t 110) (.t 112)),
      .op (some 114) (.fadr (.t 113) 4),
      .op (some 115) (.load1 (.t 114)),
      .op (some 5) (.mov (.t 115))]))))))))))))))
   (.keep [1, 3] (.ops [.op (some 64) (.mov (.t 3)),
    .op (some 65) (.bin .add (.t 64) (.k (.int .i64 1))),
    .op (some 3) (.mov (.t 65))])))))))))
 (.keep [1] (.seq (.seq (.ops [.op (some 7) (.mov (.k (.int .i64 0)))])
  (.keep [1, 7] (.block 4 (.loop (.seq (.seq (.ops [.op (some 155) (.mov (.t 7)),
     .op (some 156) (.fadr (.t 1) 11),
     .op (some 157) (.fadr (.t 156) 0),
     .op (some 158) (.load1 (.t 157)),
     .op (some 159) (.lenS (.t 158)),
     .op (some 160) (.bin .lss (.t 155) (.t 159))])
   (.keep [1, 7, 160] (.cond (.t 160)
    (.skip)
    (.exit 4))))
   (.keep [1, 7] (.seq (.block 5 (.seq (.draw [.op (some 163) (.loadN 14 (.t 1)),
     .op (some 164) (.fadr (.t 1) 11),
     .op (some 165) (.fadr (.t 164) 0),
     .op (some 166) (.load1 (.t 165)),
     .op (some 167) (.mov (.t 7)),
     .op (some 168) (.iadr 4 (.t 166) (.t 167)),
     .op (some 169) (.fadr (.t 168) 0),
     .op (some 170) (.load1 (.t 169)),
     .call (some 171) 39 [.t 163, .t 170],
     .op (some 172) (.bin .lss (.t 171) (.k (.int .i64 0)))])
    (.keep [1, 7, 172] (.cond (.t 172)
    (.seq (.ops [.op (some 2) (.mov (.k (.bool false)))])
     (.keep [2] (.ret)))
    (.skip)))))
   (.keep [1, 7] (.ops [.op (some 161) (.mov (.t 7)),
    .op (some 162) (.bin .add (.t 161) (.k (.int .i64 1))),
    .op (some 7) (.mov (.t 162))])))))))))
 (.keep [1] (.seq (.seq (.ops [.op (some 8) (.mov (.k (.int .i64 0)))])
  (.keep [1, 8] (.block 6 (.loop (.seq (.seq (.ops [.op (some 173) (.mov (.t 8)),
     .op (some 174) (.fadr (.t 1) 11),
     .op (some 175) (.fadr (.t 174) 1),
     .op (some 176) (.load1 (.t 175)),
     .op (some 177) (.lenS (.t 176)),
     .op (some 178) (.bin .lss (.t 173) (.t 177))])
   (.keep [1, 8, 178] (.cond (.t 178)
    (.skip)
    (.exit 6))))
   (.keep [1, 8] (.seq (.block 7 (.seq (.draw [.op (some 181) (.loadN 14 (.t 1)),
     .op (some 182) (.fadr (.t 1) 11),
     .op (some 183) (.fadr (.t 182) 1),
     .op (some 184) (.load1 (.t 183)),
     .op (some 185) (.mov (.t 8)),
     .op (some 186) (.iadr 2 (.t 184) (.t 185)),
     .op (some 187) (.fadr (.t 186) 0),
     .op (some 188) (.load1 (.t 187)),
     .call (some 189) 39 [.t 181, .t 188],
     .op (some 190) (.bin .lss (.t 189) (.k (.int .i64 0))),
     .op (some 191) (.mov (.t 190)),
     .andor 202 false 10 191 [.op (some 192) (.loadN 14 (.t 1)), .op (some 193) (.fadr (.t 1) 11), .op (some 194) (.fadr (.t 193) 1), .op (some 195) (.load1 (.t 194)), .op (some 196) (.mov (.t 8)), .op (some 197) (.iadr 2 (.t 195) (.t 196)), .op (some 198) (.fadr (.t 197) 1), .op (some 199) (.load1 (.t 198)), .call (some 200) 39 [.t 192, .t 199], .op (some 201) (.bin .lss (.t 200) (.k (.int .i64 0)))] (.t 201)])
    (.keep [1, 8, 202] (.cond (.t 202)
    (.seq (.ops [.op (some 2) (.mov (.k (.bool false)))])
     (.keep [2] (.ret)))
    (.skip)))))
   (.keep [1, 8] (.ops [.op (some 179) (.mov (.t 8)),
    .op (some 180) (.bin .add (.t 179) (.k (.int .i64 1))),
    .op (some 8) (.mov (.t 180))])))))))))
 (.keep [1] (.seq (.draw [.op (some 203) (.fadr (.t 1) 0),
   .op (some 204) (.fadr (.t 203) 5),
   .op (some 205) (.load1 (.t 204)),
   .op (some 206) (.lenS (.t 205)),
   .op (some 207) (.loadN 14 (.t 1)),
   .call (some 208) 40 [.t 207],
   .op (some 209) (.bin .add (.t 206) (.t 208)),
   .op (some 210) (.bin .leq (.t 209) (.k (.int .i64 60))),
   .op (some 2) (.mov (.t 210))])
 (.keep [2] (.ret))))))))))))))
theorem k_c_sEngineOK_fits : fitsF Tryz.prog 8 ⟨211, k_c_sEngineOK, [.t 2]⟩ = true := by kernel_rfl
set_option maxHeartbeats 16000000 in
theorem c_sEngineOK {e : GEngine} (hb : EnB e) : Con Tryz.prog noMv 8 [e.av] [] (fun r h => r = bool (engineOK e) ∧ h = []) := by
 refine con_of2 k_c_sEngineOK_fits rfl fun C hP hmv => ?_
 unfold k_c_sEngineOK
 obtain ⟨hs, hw0, hw1, hw2, hw3⟩ := id hb
 refine cx_seq (cx_ops ?_)
 refine ax_e (e_box rfl rfl (by decide) rfl rfl rfl) ?_
 refine ax_q (q_mov rfl) ?_
 refine ax_nil (cx_keep rfl rfl (cx_seq (cx_seq (cx_ops ?_))))
 refine ax_q (q_fadr_ptr rfl) ?_
 refine ax_q (q_ldN rfl rfl rfl) ?_
 refine ax_call rfl (vc_pure0 (c_sStoreOK (s := e.Store) ?_) hP rfl rfl ?_)
 ·
  exact hs
 refine ax_q (q_not rfl) ?_
 refine ax_q (q_mov rfl) ?_
 apply ax_or rfl rfl
 ·
  intro g
  have g := bF g
  refine ax_q (q_fadr_ptr rfl) ?_
  refine ax_q (q_load1_ptr rfl rfl rfl) ?_
  refine ax_q (q_lenS_map rfl) ?_
  refine ax_q (q_ibin rfl rfl rfl) ?_
  exact ax_nil ⟨rfl, by repeat constructor⟩
 refine ax_q (q_mov rfl) ?_
 apply ax_or rfl rfl
 ·
  intro g
  have g := (fun h => And.intro (bF (or_F h).1) (dF (or_F h).2)) g
  refine ax_q (q_fadr_ptr rfl) ?_
  refine ax_q (q_ldN rfl rfl rfl) ?_
  refine ax_call rfl (vc_pure0 (c_sLocksOK (l := e.Locks) ?_ ?_ ?_) hP rfl rfl ?_)
  ·
   assumption
  ·
   assumption
  ·
   assumption
  refine ax_q (q_not rfl) ?_
  exact ax_nil ⟨rfl, by repeat constructor⟩
 refine ax_q (q_mov rfl) ?_
 apply ax_or rfl rfl
 ·
  intro g
  have g := (fun h => And.intro ((fun h => And.intro (bF (or_F h).1) (dF (or_F h).2)) (or_F h).1) (bF (or_F h).2)) g
  refine ax_q (q_fadr_ptr rfl) ?_
  refine ax_q (q_load1_ptr rfl rfl rfl) ?_
  refine ax_call rfl (vc_pure0 (c_l01In  ) hP rfl rfl ?_)
  refine ax_q (q_not rfl) ?_
  exact ax_nil ⟨rfl, by repeat constructor⟩
 refine ax_nil (cx_keep rfl rfl ?_)
 refine cx_cond rfl (fun h0 => ?_) (fun h0 => ?_)
 ·
  have h0 : badE2 e = true := h0
  refine cx_seq (cx_ops ?_)
  refine ax_q (q_mov rfl) ?_
  refine ax_nil (cx_keep rfl rfl ?_)
  refine cx_ret (ret0 rfl rfl ?_)
  exact ⟨by rw [badE2_t h0]; rfl, rfl⟩
 ·
  have h0 : badE2 e = false := h0
  obtain ⟨hso, hbe⟩ := badE2_f h0
  obtain ⟨ht10, hnx0, _⟩ := badE_f hbe
  obtain ⟨HD, hg⟩ := storeOK_good hso
  have hll := HD.lo
  have hfr := hs.fr
  have heo : engineOK e = engOK e := by unfold engineOK; rw [hso, Bool.true_and]
  rw [heo]
  refine cx_skip ?_
  refine cx_keep rfl rfl (cx_seq (cx_seq (cx_ops ?_)))
  refine ax_q (q_fadr_ptr rfl) ?_
  refine ax_q (q_load1_ptr rfl rfl rfl) ?_
  refine ax_q (q_not rfl) ?_
  refine ax_nil (cx_keep rfl rfl ?_)
  refine cx_cond rfl (fun h1 => ?_) (fun h1 => ?_)
  ·
   have h1 : e.Up = false := by simpa using h1
   refine cx_seq (cx_ops ?_)
   refine ax_q (q_fadr_ptr rfl) ?_
   refine ax_q (q_load1_ptr rfl rfl rfl) ?_
   refine ax_q (q_lenS_map rfl) ?_
   refine ax_q (q_ibin rfl rfl rfl) ?_
   refine ax_q (q_mov rfl) ?_
   apply ax_and rfl rfl
   ·
    intro g
    have g := dT g
    refine ax_q (q_fadr_ptr rfl) ?_
    refine ax_q (q_fadr_ptr rfl) ?_
    refine ax_q (q_load1_ptr rfl rfl rfl) ?_
    refine ax_q (q_lenS_map rfl) ?_
    refine ax_q (q_ibin rfl rfl rfl) ?_
    exact ax_nil ⟨rfl, by repeat constructor⟩
   refine ax_q (q_mov rfl) ?_
   apply ax_and rfl rfl
   ·
    intro g
    have g := (fun h => And.intro (dT (and_T h).1) (dT (and_T h).2)) g
    refine ax_q (q_fadr_ptr rfl) ?_
    refine ax_q (q_fadr_ptr rfl) ?_
    refine ax_q (q_load1_ptr rfl rfl rfl) ?_
    refine ax_q (q_lenS_map rfl) ?_
    refine ax_q (q_ibin rfl rfl rfl) ?_
    exact ax_nil ⟨rfl, by repeat constructor⟩
   refine ax_q (q_mov rfl) ?_
   apply ax_and rfl rfl
   ·
    intro g
    have g := (fun h => And.intro ((fun h => And.intro (dT (and_T h).1) (dT (and_T h).2)) (and_T h).1) (dT (and_T h).2)) g
    refine ax_q (q_fadr_ptr rfl) ?_
    refine ax_q (q_fadr_ptr rfl) ?_
    refine ax_q (q_load1_ptr rfl rfl rfl) ?_
    refine ax_q (q_lenS_map rfl) ?_
    refine ax_q (q_ibin rfl rfl rfl) ?_
    exact ax_nil ⟨rfl, by repeat constructor⟩
   refine ax_q (q_mov rfl) ?_
   refine ax_nil (cx_keep rfl rfl ?_)
   refine cx_ret (ret0 rfl rfl ?_)
   exact ⟨by rw [eng_d hbe h1, ← emptyE_bool]; rfl, rfl⟩
  ·
   have h1 : e.Up = true := by simpa using h1
   refine cx_skip ?_
   refine cx_keep rfl rfl (cx_seq (cx_seq (cx_ops ?_)))
   refine ax_q (q_mov rfl) ?_
   refine ax_nil (cx_keep rfl rfl (cx_block ?_))
   refine cx_loopU (fun m k => k ≤ e.Txs.length ∧ m = e.Txs.length - k ∧ ∀ j (hj : j < e.Txs.length), j < k → txBad e j e.Txs[j] (e.Txs.getD (j - 1) .zero).Id = false) (fun k : Nat => [(3, int k)]) (fun _ => [(1, .box (e.row.map .d))]) ⟨_, 0, ⟨Nat.zero_le _, rfl, fun j _ hj => by omega⟩, by repeat constructor⟩ ?_
   rintro m k ⟨hk, rfl, htx⟩
   refine cx_seq (cx_seq (cx_ops ?_))
   refine ax_q (q_mov rfl) ?_
   refine ax_q (q_fadr_ptr rfl) ?_
   refine ax_q (q_load1_ptr rfl rfl rfl) ?_
   refine ax_q (q_lenS_map rfl) ?_
   refine ax_q (q_ibin rfl rfl rfl) ?_
   refine ax_nil (cx_keep rfl rfl ?_)
   refine cx_cond rfl (fun h2 => ?_) (fun h2 => ?_)
   ·
    have h2 := dT h2
    have h0x : k < e.Txs.length := by omega
    refine cx_skip ?_
    refine cx_keep rfl rfl (cx_seq (cx_block (cx_seq (cx_ops ?_))))
    refine ax_q (q_fadr_ptr rfl) ?_
    refine ax_q (q_load1_ptr rfl rfl rfl) ?_
    refine ax_q (q_mov rfl) ?_
    refine ax_q (q_ix rfl rfl (mapAt h0x)) ?_
    first | refine ax_q (q_ldN rfl rfl rfl) ?_ | refine ax_q (q_loadN_ip rfl (Nat.le_refl _)) ?_
    refine ax_e (e_alloc (by decide) rfl rfl) ?_
    refine ax_e (e_st rfl rfl rfl rfl rfl rfl rfl) ?_
    refine ax_nil (cx_keep rfl rfl (cx_seq (cx_seq (cx_draw ?_))))
    refine ax_q (q_fadr_ptr rfl) ?_
    refine ax_q (q_load1_ptr rfl rfl rfl) ?_
    refine ax_q (q_fadr_ptr rfl) ?_
    refine ax_q (q_load1_ptr rfl rfl rfl) ?_
    refine ax_qe (r' := int (e.Next - 1)) (q_ibin rfl rfl rfl) (by rw [wi (by omega) (by omega)]) ?_
    refine ax_callq rfl (c_l01In  ) hP (lal_id _ rfl) rfl ?_
    refine ax_q (q_not rfl) ?_
    refine ax_q (q_mov rfl) ?_
    apply ax_or rfl rfl
    ·
     intro g
     have g := bF g
     refine ax_q (q_mov rfl) ?_
     refine ax_q (q_ibin rfl rfl rfl) ?_
     refine ax_q (q_mov rfl) ?_
     apply ax_and rfl rfl
     ·
      intro g
      have g := dT g
      refine ax_q (q_fadr_ptr rfl) ?_
      refine ax_q (q_load1_ptr rfl rfl rfl) ?_
      refine ax_q (q_mov rfl) ?_
      refine ax_qe (r' := int ((k - 1 : Nat) : Int)) (q_ibin rfl rfl rfl) (by rw [wi (by omega) (by omega)]; exact congrArg AM.int (by omega)) ?_
      refine ax_q (q_ix rfl rfl (mapAtZ (z := .zero) (by omega))) ?_
      first | refine ax_q (q_fadr_ptr rfl) ?_ | refine ax_q (q_fadr_rptr rfl) ?_ | refine ax_q (q_fadr_ip rfl) ?_
      first | refine ax_q (q_load1_ptr rfl rfl rfl) ?_ | refine ax_q (q_load1_ip rfl) ?_
      refine ax_q (q_fadr_ptr rfl) ?_
      refine ax_q (q_load1_ptr rfl rfl rfl) ?_
      refine ax_q (q_ibin rfl rfl rfl) ?_
      exact ax_nil ⟨rfl, by repeat constructor⟩
     exact ax_nil ⟨rfl, by repeat constructor⟩
    refine ax_q (q_mov rfl) ?_
    apply ax_or rfl rfl
    ·
     intro g
     have g := (fun h => And.intro (bF (or_F h).1) ((fun h => (and_F h).imp dF dF) (or_F h).2)) g
     refine ax_q (q_fadr_ptr rfl) ?_
     refine ax_q (q_load1_ptr rfl rfl rfl) ?_
     refine ax_q (q_fadr_ptr rfl) ?_
     refine ax_q (q_fadr_ptr rfl) ?_
     refine ax_q (q_load1_ptr rfl rfl rfl) ?_
     refine ax_q (q_lenS_map rfl) ?_
     refine ax_callq rfl (c_l01In  ) hP (lal_id _ rfl) rfl ?_
     refine ax_q (q_not rfl) ?_
     exact ax_nil ⟨rfl, by repeat constructor⟩
    refine ax_nil (cx_keep rfl rfl ?_)
    refine cx_cond rfl (fun h3 => ?_) (fun h3 => ?_)
    ·
     have h3 : txBad2 e k e.Txs[k] (e.Txs.getD (k - 1) .zero).Id = true := h3
     have h3 := txBad2_t h3
     refine cx_seq (cx_ops ?_)
     refine ax_q (q_mov rfl) ?_
     refine ax_nil (cx_keep rfl rfl ?_)
     refine cx_ret (ret0 rfl rfl ?_)
     exact ⟨by rw [eng_u hbe h1, txs_no h0x h3]; rfl, rfl⟩
    ·
     have h3 : txBad2 e k e.Txs[k] (e.Txs.getD (k - 1) .zero).Id = false := h3
     obtain ⟨hlk, hbk2⟩ := txBad2_f h3
     refine cx_skip ?_
     refine cx_keep rfl rfl (cx_seq (cx_ops ?_))
     refine ax_q (q_fadr_ptr rfl) ?_
     refine ax_q (q_load1_ptr rfl rfl rfl) ?_
     refine ax_q (q_mov rfl) ?_
     refine ax_nil (cx_keep rfl rfl (cx_block ?_))
     refine cx_loopU (fun m (p : Int × Nat) => m = p.2 ∧ 0 ≤ p.1 ∧ p.1 ≤ e.Store.Log.length ∧ p.1 < (p.2 : Int) ∧ (0 < p.1 → chainF e.Store.Log e.Txs[k].Id 61 e.Txs[k].Last = chainF e.Store.Log e.Txs[k].Id p.2 p.1) ∧ (p.1 = 0 → chainF e.Store.Log e.Txs[k].Id 61 e.Txs[k].Last = true)) (fun p => [(5, int p.1)]) (fun _ => [(1, .box (e.row.map .d)), (4, .box (e.Txs[k].row.map .d))]) ⟨_, (e.Txs[k].Last, 61), ⟨rfl, by simp only; omega, hlk.2, by simp only; omega, fun _ => rfl, fun h => absurd h (by simp only; omega)⟩, by repeat constructor⟩ ?_
     rintro m ⟨n, f⟩ ⟨rfl, hn1, hn2, hnf, hc1, hc0⟩
     simp only at hn1 hn2 hnf hc1 hc0 ⊢
     refine cx_seq (cx_seq (cx_ops ?_))
     refine ax_q (q_mov rfl) ?_
     refine ax_q (q_ibin rfl rfl rfl) ?_
     refine ax_nil (cx_keep rfl rfl ?_)
     refine cx_cond rfl (fun h4 => ?_) (fun h4 => ?_)
     ·
      have h4 := dT h4
      obtain ⟨f, rfl⟩ : ∃ f2, m = f2 + 1 := ⟨m - 1, by omega⟩
      have hn : 1 ≤ n ∧ n ≤ e.Store.Log.length := by omega
      obtain ⟨_, hln, hin⟩ := goodA_at hg hn
      have hpr := hin.p
      have hnx := hin.n
      refine cx_skip ?_
      refine cx_keep rfl rfl (cx_seq (cx_block (cx_seq (cx_ops ?_))))
      refine ax_q (q_fadr_ptr rfl) ?_
      refine ax_q (q_fadr_ptr rfl) ?_
      refine ax_q (q_load1_ptr rfl rfl rfl) ?_
      refine ax_q (q_mov rfl) ?_
      refine ax_qe (r' := int (n - 1)) (q_ibin rfl rfl rfl) (by rw [wi (by omega) (by omega)]) ?_
      refine ax_q (q_ixI rfl rfl (by omega) (recAt_get hn)) ?_
      first | refine ax_q (q_ldN rfl rfl rfl) ?_ | refine ax_q (q_loadN_ip rfl (Nat.le_refl _)) ?_
      refine ax_e (e_alloc (by decide) rfl rfl) ?_
      refine ax_e (e_st rfl rfl rfl rfl rfl rfl rfl) ?_
      refine ax_nil (cx_keep rfl rfl (cx_seq (cx_ops ?_)))
      refine ax_q (q_fadr_ptr rfl) ?_
      refine ax_q (q_load1_ptr rfl rfl rfl) ?_
      refine ax_q (q_fadr_ptr rfl) ?_
      refine ax_q (q_load1_ptr rfl rfl rfl) ?_
      refine ax_q (q_ibin rfl rfl rfl) ?_
      refine ax_q (q_mov rfl) ?_
      apply ax_or rfl rfl
      ·
       intro g
       have g := nF g
       refine ax_q (q_fadr_ptr rfl) ?_
       refine ax_q (q_load1_ptr rfl rfl rfl) ?_
       refine ax_q (q_ibin rfl rfl rfl) ?_
       exact ax_nil ⟨rfl, by repeat constructor⟩
      refine ax_q (q_mov rfl) ?_
      apply ax_or rfl rfl
      ·
       intro g
       have g := (fun h => And.intro (nF (or_F h).1) (dF (or_F h).2)) g
       refine ax_q (q_fadr_ptr rfl) ?_
       refine ax_q (q_load1_ptr rfl rfl rfl) ?_
       refine ax_q (q_ibin rfl rfl rfl) ?_
       exact ax_nil ⟨rfl, by repeat constructor⟩
      refine ax_q (q_mov rfl) ?_
      apply ax_or rfl rfl
      ·
       intro g
       have g := (fun h => And.intro ((fun h => And.intro (nF (or_F h).1) (dF (or_F h).2)) (or_F h).1) (dF (or_F h).2)) g
       refine ax_q (q_fadr_ptr rfl) ?_
       refine ax_q (q_load1_ptr rfl rfl rfl) ?_
       refine ax_q (q_ibin rfl rfl rfl) ?_
       exact ax_nil ⟨rfl, by repeat constructor⟩
      refine ax_q (q_mov rfl) ?_
      apply ax_or rfl rfl
      ·
       intro g
       have g := (fun h => And.intro ((fun h => And.intro ((fun h => And.intro (nF (or_F h).1) (dF (or_F h).2)) (or_F h).1) (dF (or_F h).2)) (or_F h).1) (dF (or_F h).2)) g
       refine ax_q (q_fadr_ptr rfl) ?_
       refine ax_q (q_load1_ptr rfl rfl rfl) ?_
       refine ax_q (q_ibin rfl rfl rfl) ?_
       refine ax_q (q_mov rfl) ?_
       apply ax_and rfl rfl
       ·
        intro g
        have g := dT g
        refine ax_q (q_fadr_ptr rfl) ?_
        refine ax_q (q_ldN rfl rfl rfl) ?_
        refine ax_q (q_ldN rfl rfl rfl) ?_
        refine ax_call rfl (vc_pure0 (c_l07Back (s := e.Store) (x := (recAt e.Store.Log n)) ?_ ?_) hP rfl rfl ?_)
        ·
         assumption
        ·
         first | assumption | omega
        refine ax_q (q_not rfl) ?_
        exact ax_nil ⟨rfl, by repeat constructor⟩
       exact ax_nil ⟨rfl, by repeat constructor⟩
      refine ax_nil (cx_keep rfl rfl ?_)
      refine cx_cond rfl (fun h5 => ?_) (fun h5 => ?_)
      ·
       have h5 : recBad e.Store.Log (recAt e.Store.Log n) e.Txs[k].Id = true := h5
       have h5 := recBad_t hg (f := f + 1) hn h5
       refine cx_seq (cx_ops ?_)
       refine ax_q (q_mov rfl) ?_
       refine ax_nil (cx_keep rfl rfl ?_)
       refine cx_ret (ret0 rfl rfl ?_)
       have hb3 : txBad e k e.Txs[k] (e.Txs.getD (k - 1) .zero).Id = true := by unfold txBad; rw [hc1 (by omega), h5]; simp
       exact ⟨by rw [eng_u hbe h1, txs_no h0x hb3]; rfl, rfl⟩
      ·
       have h5 : recBad e.Store.Log (recAt e.Store.Log n) e.Txs[k].Id = false := h5
       have hst := recBad_f hg hn h5
       refine cx_skip ?_
       refine cx_keep rfl rfl (cx_ops ?_)
       refine ax_q (q_fadr_ptr rfl) ?_
       refine ax_q (q_fadr_ptr rfl) ?_
       refine ax_q (q_load1_ptr rfl rfl rfl) ?_
       refine ax_q (q_mov rfl) ?_
       refine ax_qe (r' := int (n - 1)) (q_ibin rfl rfl rfl) (by rw [wi (by omega) (by omega)]) ?_
       refine ax_q (q_ixI rfl rfl (by omega) (recAt_get hn)) ?_
       first | refine ax_q (q_fadr_ptr rfl) ?_ | refine ax_q (q_fadr_rptr rfl) ?_ | refine ax_q (q_fadr_ip rfl) ?_
       first | refine ax_q (q_load1_ptr rfl rfl rfl) ?_ | refine ax_q (q_load1_ip rfl) ?_
       refine ax_q (q_mov rfl) ?_
       refine ax_nil ?_
       exact ⟨_, ((recAt e.Store.Log n).Prev, f), by simp only; omega, ⟨rfl, hpr.1, by simp only; omega, by simp only; omega, fun h => by rw [hc1 (by omega), chain_s hst.1 hst.2 (by simp only at h; omega)], fun h => by rw [hc1 (by omega), chain_0 hst.1 hst.2 h]⟩, by repeat constructor⟩
     ·
      have h4 := dF h4
      have htk := hbk2 (hc0 (by omega))
      refine cx_exit rfl ?_
      refine cx_keep rfl rfl (cx_ops ?_)
      refine ax_q (q_mov rfl) ?_
      refine ax_qe (r' := int ((k + 1 : Nat) : Int)) (q_ibin rfl rfl rfl) (by rw [wi (by omega) (by omega)]; rfl) ?_
      refine ax_q (q_mov rfl) ?_
      refine ax_nil ?_
      exact ⟨_, k + 1, by omega, ⟨by omega, rfl, fun j hj hjk => by
       rcases Nat.lt_succ_iff_lt_or_eq.1 hjk with q | rfl
       ·
        exact htx j hj q
       ·
        exact htk⟩, by repeat constructor⟩
   ·
    have h2 := dF h2
    have hto := txs_all (e := e) (fun j hj => htx j hj (by omega))
    have hlast : ∀ t ∈ e.Txs, 1 ≤ t.Last ∧ t.Last ≤ e.Store.Log.length := fun t ht => by
     obtain ⟨j, hj, rfl⟩ := List.getElem_of_mem ht
     exact txBad_last (htx j hj (by omega))
    refine cx_exit rfl ?_
    refine cx_keep rfl rfl (cx_seq (cx_seq (cx_ops ?_)))
    refine ax_q (q_mov rfl) ?_
    refine ax_nil (cx_keep rfl rfl (cx_block ?_))
    refine cx_loopU (fun m k => k ≤ e.Locks.Held.length ∧ m = e.Locks.Held.length - k ∧ ∀ j, j < k → ∀ x, e.Locks.Held[j]? = some x → (fun l => decide (txAt e l.Tx < 0)) x = false) (fun k : Nat => [(7, int k)]) (fun _ => [(1, .box (e.row.map .d))]) ⟨_, 0, ⟨Nat.zero_le _, rfl, fun j hj => by omega⟩, by repeat constructor⟩ ?_
    rintro m k ⟨hk, rfl, hH⟩
    refine cx_seq (cx_seq (cx_ops ?_))
    refine ax_q (q_mov rfl) ?_
    refine ax_q (q_fadr_ptr rfl) ?_
    refine ax_q (q_fadr_ptr rfl) ?_
    refine ax_q (q_load1_ptr rfl rfl rfl) ?_
    refine ax_q (q_lenS_map rfl) ?_
    refine ax_q (q_ibin rfl rfl rfl) ?_
    refine ax_nil (cx_keep rfl rfl ?_)
    refine cx_cond rfl (fun h6 => ?_) (fun h6 => ?_)
    ·
     have h6 := dT h6
     have h6x : k < e.Locks.Held.length := by omega
     refine cx_skip ?_
     refine cx_keep rfl rfl (cx_seq (cx_block (cx_seq (cx_draw ?_))))
     refine ax_q (q_ldN rfl rfl rfl) ?_
     refine ax_q (q_fadr_ptr rfl) ?_
     refine ax_q (q_fadr_ptr rfl) ?_
     refine ax_q (q_load1_ptr rfl rfl rfl) ?_
     refine ax_q (q_mov rfl) ?_
     refine ax_q (q_ix rfl rfl (mapAt h6x)) ?_
     first | refine ax_q (q_fadr_ptr rfl) ?_ | refine ax_q (q_fadr_rptr rfl) ?_ | refine ax_q (q_fadr_ip rfl) ?_
     first | refine ax_q (q_load1_ptr rfl rfl rfl) ?_ | refine ax_q (q_load1_ip rfl) ?_
     refine ax_callq rfl (c_l07Tx (e := e) ?_) hP (lal_id _ rfl) rfl ?_
     ·
      assumption
     refine ax_q (q_ibin rfl rfl rfl) ?_
     refine ax_nil (cx_keep rfl rfl ?_)
     refine cx_cond rfl (fun h7 => ?_) (fun h7 => ?_)
     ·
      have h7 : (fun l => decide (txAt e l.Tx < 0)) e.Locks.Held[k] = true := h7
      refine cx_seq (cx_ops ?_)
      refine ax_q (q_mov rfl) ?_
      refine ax_nil (cx_keep rfl rfl ?_)
      refine cx_ret (ret0 rfl rfl ?_)
      exact ⟨by rw [eng_u hbe h1, show badHeld e = true from any_hit h6x h7, Bool.not_true, Bool.false_and, Bool.false_and, Bool.and_false]; rfl, rfl⟩
     ·
      have hbk : (fun l => decide (txAt e l.Tx < 0)) e.Locks.Held[k] = false := h7
      refine cx_skip ?_
      refine cx_keep rfl rfl (cx_ops ?_)
      refine ax_q (q_mov rfl) ?_
      refine ax_qe (r' := int ((k + 1 : Nat) : Int)) (q_ibin rfl rfl rfl) (by rw [wi (by omega) (by omega)]; rfl) ?_
      refine ax_q (q_mov rfl) ?_
      refine ax_nil ?_
      exact ⟨_, k + 1, by omega, ⟨by omega, rfl, before_step h6x hH hbk⟩, by repeat constructor⟩
    ·
     have h6 := dF h6
     have hHo : badHeld e = false := any_all (fun i hi => hH i (by omega))
     refine cx_exit rfl ?_
     refine cx_keep rfl rfl (cx_seq (cx_seq (cx_ops ?_)))
     refine ax_q (q_mov rfl) ?_
     refine ax_nil (cx_keep rfl rfl (cx_block ?_))
     refine cx_loopU (fun m k => k ≤ e.Locks.Waits.length ∧ m = e.Locks.Waits.length - k ∧ ∀ j, j < k → ∀ x, e.Locks.Waits[j]? = some x → (fun w => decide (txAt e w.Tx < 0) || decide (txAt e w.For < 0)) x = false) (fun k : Nat => [(8, int k)]) (fun _ => [(1, .box (e.row.map .d))]) ⟨_, 0, ⟨Nat.zero_le _, rfl, fun j hj => by omega⟩, by repeat constructor⟩ ?_
     rintro m k ⟨hk, rfl, hW⟩
     refine cx_seq (cx_seq (cx_ops ?_))
     refine ax_q (q_mov rfl) ?_
     refine ax_q (q_fadr_ptr rfl) ?_
     refine ax_q (q_fadr_ptr rfl) ?_
     refine ax_q (q_load1_ptr rfl rfl rfl) ?_
     refine ax_q (q_lenS_map rfl) ?_
     refine ax_q (q_ibin rfl rfl rfl) ?_
     refine ax_nil (cx_keep rfl rfl ?_)
     refine cx_cond rfl (fun h8 => ?_) (fun h8 => ?_)
     ·
      have h8 := dT h8
      have h8x : k < e.Locks.Waits.length := by omega
      refine cx_skip ?_
      refine cx_keep rfl rfl (cx_seq (cx_block (cx_seq (cx_draw ?_))))
      refine ax_q (q_ldN rfl rfl rfl) ?_
      refine ax_q (q_fadr_ptr rfl) ?_
      refine ax_q (q_fadr_ptr rfl) ?_
      refine ax_q (q_load1_ptr rfl rfl rfl) ?_
      refine ax_q (q_mov rfl) ?_
      refine ax_q (q_ix rfl rfl (mapAt h8x)) ?_
      first | refine ax_q (q_fadr_ptr rfl) ?_ | refine ax_q (q_fadr_rptr rfl) ?_ | refine ax_q (q_fadr_ip rfl) ?_
      first | refine ax_q (q_load1_ptr rfl rfl rfl) ?_ | refine ax_q (q_load1_ip rfl) ?_
      refine ax_callq rfl (c_l07Tx (e := e) ?_) hP (lal_id _ rfl) rfl ?_
      ·
       assumption
      refine ax_q (q_ibin rfl rfl rfl) ?_
      refine ax_q (q_mov rfl) ?_
      apply ax_or rfl rfl
      ·
       intro g
       have g := dF g
       refine ax_q (q_ldN rfl rfl rfl) ?_
       refine ax_q (q_fadr_ptr rfl) ?_
       refine ax_q (q_fadr_ptr rfl) ?_
       refine ax_q (q_load1_ptr rfl rfl rfl) ?_
       refine ax_q (q_mov rfl) ?_
       refine ax_q (q_ix rfl rfl (mapAt h8x)) ?_
       first | refine ax_q (q_fadr_ptr rfl) ?_ | refine ax_q (q_fadr_rptr rfl) ?_ | refine ax_q (q_fadr_ip rfl) ?_
       first | refine ax_q (q_load1_ptr rfl rfl rfl) ?_ | refine ax_q (q_load1_ip rfl) ?_
       refine ax_callq rfl (c_l07Tx (e := e) ?_) hP (lal_id _ rfl) rfl ?_
       ·
        assumption
       refine ax_q (q_ibin rfl rfl rfl) ?_
       exact ax_nil ⟨rfl, by repeat constructor⟩
      refine ax_nil (cx_keep rfl rfl ?_)
      refine cx_cond rfl (fun h9 => ?_) (fun h9 => ?_)
      ·
       have h9 : (fun w => decide (txAt e w.Tx < 0) || decide (txAt e w.For < 0)) e.Locks.Waits[k] = true := h9
       refine cx_seq (cx_ops ?_)
       refine ax_q (q_mov rfl) ?_
       refine ax_nil (cx_keep rfl rfl ?_)
       refine cx_ret (ret0 rfl rfl ?_)
       exact ⟨by rw [eng_u hbe h1, show badWaits e = true from any_hit h8x h9, Bool.not_true, Bool.and_false, Bool.false_and, Bool.and_false]; rfl, rfl⟩
      ·
       have hbk : (fun w => decide (txAt e w.Tx < 0) || decide (txAt e w.For < 0)) e.Locks.Waits[k] = false := h9
       refine cx_skip ?_
       refine cx_keep rfl rfl (cx_ops ?_)
       refine ax_q (q_mov rfl) ?_
       refine ax_qe (r' := int ((k + 1 : Nat) : Int)) (q_ibin rfl rfl rfl) (by rw [wi (by omega) (by omega)]; rfl) ?_
       refine ax_q (q_mov rfl) ?_
       refine ax_nil ?_
       exact ⟨_, k + 1, by omega, ⟨by omega, rfl, before_step h8x hW hbk⟩, by repeat constructor⟩
     ·
      have h8 := dF h8
      have hWo : badWaits e = false := any_all (fun i hi => hW i (by omega))
      have hnl := @needsK_le e e.Txs.length
      rw [needsK_end] at hnl
      refine cx_exit rfl ?_
      refine cx_keep rfl rfl (cx_seq (cx_draw ?_))
      refine ax_q (q_fadr_ptr rfl) ?_
      refine ax_q (q_fadr_ptr rfl) ?_
      refine ax_q (q_load1_ptr rfl rfl rfl) ?_
      refine ax_q (q_lenS_map rfl) ?_
      refine ax_q (q_ldN rfl rfl rfl) ?_
      refine ax_callq rfl (c_l07Reserve (e := e) ?_ ?_ ?_ ?_) hP (lal_id _ rfl) rfl ?_
      ·
       assumption
      ·
       assumption
      ·
       assumption
      ·
       assumption
      refine ax_qe (r' := int ((e.Store.Log.length + needsF e : Nat) : Int)) (q_ibin rfl rfl rfl) (by rw [wi (by omega) (by omega)]; exact congrArg AM.int (by omega)) ?_
      refine ax_q (q_ibin rfl rfl rfl) ?_
      refine ax_q (q_mov rfl) ?_
      refine ax_nil (cx_keep rfl rfl ?_)
      refine cx_ret (ret0 rfl rfl ?_)
      exact ⟨by rw [eng_u hbe h1, hto, hHo, hWo]; rfl, rfl⟩


/- loop.example/g00332/laws.toStringS -/
def k_c_toStringS : XCode :=
 .seq (.ops [.op (some 2) (.mov (.k (.nils 1)))])
 (.keep [0] (.seq (.ops [.op (some 5) (.mov (.t 0)),
   .op (some 6) (.lenS (.t 5)),
   .op (some 7) (.mkslice 1 16 [.str []] (.t 6) (.t 6)),
   .op (some 3) (.mov (.t 7))])
 (.keep [0, 3] (.seq (.seq (.ops [.op (some 4) (.mov (.k (.int .i64 0)))])
  (.keep [0, 3, 4] (.block 0 (.loop (.seq (.seq (.ops [.op (some 8) (.mov (.t 4)),
     .op (some 9) (.mov (.t 0)),
     .op (some 10) (.lenS (.t 9)),
     .op (some 11) (.bin .lss (.t 8) (.t 10))])
   (.keep [0, 3, 4, 11] (.cond (.t 11)
    (.skip)
    (.exit 0))))
   (.keep [0, 3, 4] (.seq (.block 1 (.ops [.op (some 14) (.mov (.t 3)),
     .op (some 15) (.mov (.t 4)),
     .op (some 16) (.mov (.t 0)),
     .op (some 17) (.mov (.t 4)),
     .op (some 18) (.iadr 1 (.t 16) (.t 17)),
     .op (some 19) (.load1 (.t 18)),
     .op (some 20) (.iadr 1 (.t 14) (.t 15)),
     .op none (.store 1 (.t 20) (.t 19))]))
   (.keep [0, 3, 4] (.ops [.op (some 12) (.mov (.t 4)),
    .op (some 13) (.bin .add (.t 12) (.k (.int .i64 1))),
    .op (some 4) (.mov (.t 13))])))))))))
 (.keep [3] (.seq (.ops [.op (some 21) (.mov (.t 3)),
   .op (some 2) (.mov (.t 21))])
 (.keep [2] (.ret))))))))
theorem k_c_toStringS_fits : fitsF Tryz.prog 109 ⟨22, k_c_toStringS, [.t 2]⟩ = true := by kernel_rfl
theorem c_toStringS {xs : List Str} (hw : xs.length ≤ 1048576) : Con Tryz.prog noMv 109 [.d (.sl 1 (xs.map strRow))] [] (fun r h => r = .osl 0 1 0 xs.length ∧ h = [(0, .rows 1 (xs.map strRow))]) := by
 refine con_of2 k_c_toStringS_fits rfl fun C hP hmv => ?_
 unfold k_c_toStringS
 refine cx_seq (cx_ops ?_)
 refine ax_q (q_mov rfl) ?_
 refine ax_nil (cx_keep rfl rfl (cx_seq (cx_ops ?_)))
 refine ax_q (q_mov rfl) ?_
 refine ax_q (q_lenS_map rfl) ?_
 refine ax_ee (e_mkslice rfl rfl rfl (by omega) (by omega) (by omega) (by decide) rfl rfl) (by rw [Int.toNat_natCast]) ?_
 refine ax_q (q_mov rfl) ?_
 refine ax_nil (cx_keep rfl rfl (cx_seq (cx_seq (cx_ops ?_))))
 refine ax_q (q_mov rfl) ?_
 refine ax_nil (cx_keep rfl rfl (cx_block ?_))
 refine cx_loopU (fun n k => k ≤ xs.length ∧ n = xs.length - k) (fun k : Nat => [(4, int k)]) (fun k => [(7, .rows 1 ((xs.take k).map strRow ++ List.replicate (xs.length - k) [.str []]))]) ⟨_, 0, ⟨Nat.zero_le _, rfl⟩, by repeat constructor⟩ ?_
 rintro n k ⟨hk, rfl⟩
 refine cx_seq (cx_seq (cx_ops ?_))
 refine ax_q (q_mov rfl) ?_
 refine ax_q (q_mov rfl) ?_
 refine ax_q (q_lenS_map rfl) ?_
 refine ax_q (q_ibin rfl rfl rfl) ?_
 refine ax_nil (cx_keep rfl rfl ?_)
 refine cx_cond rfl (fun h0 => ?_) (fun h0 => ?_)
 ·
  have h0 := dT h0
  have h1x : k < xs.length := by omega
  refine cx_skip ?_
  refine cx_keep rfl rfl (cx_seq (cx_block (cx_ops ?_)))
  refine ax_q (q_mov rfl) ?_
  refine ax_q (q_mov rfl) ?_
  refine ax_q (q_mov rfl) ?_
  refine ax_q (q_mov rfl) ?_
  refine ax_q (q_ix rfl rfl (mapAt h1x)) ?_
  first | refine ax_q (q_load1_ptr rfl rfl rfl) ?_ | refine ax_q (q_load1_ip rfl) ?_
  refine ax_q (q_ixo rfl rfl h1x) ?_
  refine ax_e (e_str (q := strRow xs[k]) rfl rfl rfl rfl rfl rfl (fillAtL h1x) rfl rfl (fillSetL h1x)) ?_
  refine ax_nil (cx_keep rfl rfl (cx_ops ?_))
  refine ax_q (q_mov rfl) ?_
  refine ax_q (q_add rfl rfl (by omega)) ?_
  refine ax_q (q_mov rfl) ?_
  refine ax_nil ?_
  exact ⟨_, k + 1, by omega, ⟨by omega, rfl⟩, by repeat constructor⟩
 ·
  have h0 := dF h0
  refine cx_exit rfl ?_
  refine cx_keep rfl rfl (cx_seq (cx_ops ?_))
  refine ax_q (q_mov rfl) ?_
  refine ax_q (q_mov rfl) ?_
  refine ax_nil (cx_keep rfl rfl ?_)
  refine cx_ret (retN (fun _ => 0) [7] rfl rfl rfl rfl rfl ?_)
  exact ⟨rfl, by rw [show k = xs.length from by omega, List.take_length, Nat.sub_self, List.replicate_zero, List.append_nil]; rfl⟩


/- loop.example/g00332/laws.toPending -/
def k_c_toPending : XCode :=
 .seq (.ops [.op (some 1) (.box (.t 0)),
   .op (some 2) (.alloc [.int .i64 0, .str []])])
 (.keep [1, 2] (.seq (.ops [.op (some 3) (.alloc [.int .i64 0, .str []])])
 (.keep [1, 2, 3] (.seq (.ops [.op (some 4) (.fadr (.t 1) 0),
   .op (some 5) (.load1 (.t 4)),
   .op (some 6) (.fadr (.t 3) 0),
   .op none (.store 1 (.t 6) (.t 5))])
 (.keep [1, 2, 3] (.seq (.ops [.op (some 7) (.fadr (.t 1) 1),
   .op (some 8) (.load1 (.t 7)),
   .op (some 9) (.fadr (.t 3) 1),
   .op none (.store 1 (.t 9) (.t 8))])
 (.keep [2, 3] (.seq (.ops [.op (some 10) (.loadN 2 (.t 3)),
   .op none (.store 2 (.t 2) (.t 10))])
 (.keep [2] (.ret))))))))))
theorem k_c_toPending_fits : fitsF Tryz.prog 181 ⟨11, k_c_toPending, [.cN 2 2]⟩ = true := by kernel_rfl
theorem c_toPending {a : GPending} : Con Tryz.prog noMv 181 [a.av] [] (fun r h => r = a.av ∧ h = []) := by
 refine con_of2 k_c_toPending_fits rfl fun C hP hmv => ?_
 unfold k_c_toPending
 refine cx_seq (cx_ops ?_)
 refine ax_e (e_box rfl rfl (by decide) rfl rfl rfl) ?_
 refine ax_e (e_alloc (by decide) rfl rfl) ?_
 refine ax_nil (cx_keep rfl rfl (cx_seq (cx_ops ?_)))
 refine ax_e (e_alloc (by decide) rfl rfl) ?_
 refine ax_nil (cx_keep rfl rfl (cx_seq (cx_ops ?_)))
 refine ax_q (q_fadr_ptr rfl) ?_
 refine ax_q (q_load1_ptr rfl rfl rfl) ?_
 refine ax_q (q_fadr_ptr rfl) ?_
 refine ax_e (e_st rfl rfl rfl rfl rfl rfl rfl) ?_
 refine ax_nil (cx_keep rfl rfl (cx_seq (cx_ops ?_)))
 refine ax_q (q_fadr_ptr rfl) ?_
 refine ax_q (q_load1_ptr rfl rfl rfl) ?_
 refine ax_q (q_fadr_ptr rfl) ?_
 refine ax_e (e_st rfl rfl rfl rfl rfl rfl rfl) ?_
 refine ax_nil (cx_keep rfl rfl (cx_seq (cx_ops ?_)))
 refine ax_q (q_ldN rfl rfl rfl) ?_
 refine ax_e (e_st rfl rfl rfl rfl rfl rfl rfl) ?_
 refine ax_nil (cx_keep rfl rfl ?_)
 refine cx_ret (ret0 rfl rfl ?_)
 exact ⟨rfl, rfl⟩


/- loop.example/g00332/laws.toPendingS -/
def k_c_toPendingS : XCode :=
 .seq (.ops [.op (some 2) (.mov (.k (.nils 2)))])
 (.keep [0] (.seq (.ops [.op (some 5) (.mov (.t 0)),
   .op (some 6) (.lenS (.t 5)),
   .op (some 7) (.mkslice 2 24 [.int .i64 0, .str []] (.t 6) (.t 6)),
   .op (some 3) (.mov (.t 7))])
 (.keep [0, 3] (.seq (.seq (.ops [.op (some 4) (.mov (.k (.int .i64 0)))])
  (.keep [0, 3, 4] (.block 0 (.loop (.seq (.seq (.ops [.op (some 8) (.mov (.t 4)),
     .op (some 9) (.mov (.t 0)),
     .op (some 10) (.lenS (.t 9)),
     .op (some 11) (.bin .lss (.t 8) (.t 10))])
   (.keep [0, 3, 4, 11] (.cond (.t 11)
    (.skip)
    (.exit 0))))
   (.keep [0, 3, 4] (.seq (.block 1 (.ops [.op (some 14) (.mov (.t 3)),
     .op (some 15) (.mov (.t 4)),
     .op (some 16) (.mov (.t 0)),
     .op (some 17) (.mov (.t 4)),
     .op (some 18) (.iadr 2 (.t 16) (.t 17)),
     .op (some 19) (.loadN 2 (.t 18)),
     .call (some 20) 181 [.t 19],
     .op (some 21) (.iadr 2 (.t 14) (.t 15)),
     .op none (.store 2 (.t 21) (.t 20))]))
   (.keep [0, 3, 4] (.ops [.op (some 12) (.mov (.t 4)),
    .op (some 13) (.bin .add (.t 12) (.k (.int .i64 1))),
    .op (some 4) (.mov (.t 13))])))))))))
 (.keep [3] (.seq (.ops [.op (some 22) (.mov (.t 3)),
   .op (some 2) (.mov (.t 22))])
 (.keep [2] (.ret))))))))
theorem k_c_toPendingS_fits : fitsF Tryz.prog 110 ⟨23, k_c_toPendingS, [.t 2]⟩ = true := by kernel_rfl
theorem c_toPendingS {xs : List GPending} (hw : xs.length ≤ 1048576) : Con Tryz.prog noMv 110 [.d (.sl 2 (xs.map GPending.row))] [] (fun r h => r = .osl 0 2 0 xs.length ∧ h = [(0, .rows 2 (xs.map GPending.row))]) := by
 refine con_of2 k_c_toPendingS_fits rfl fun C hP hmv => ?_
 unfold k_c_toPendingS
 refine cx_seq (cx_ops ?_)
 refine ax_q (q_mov rfl) ?_
 refine ax_nil (cx_keep rfl rfl (cx_seq (cx_ops ?_)))
 refine ax_q (q_mov rfl) ?_
 refine ax_q (q_lenS_map rfl) ?_
 refine ax_ee (e_mkslice rfl rfl rfl (by omega) (by omega) (by omega) (by decide) rfl rfl) (by rw [Int.toNat_natCast]) ?_
 refine ax_q (q_mov rfl) ?_
 refine ax_nil (cx_keep rfl rfl (cx_seq (cx_seq (cx_ops ?_))))
 refine ax_q (q_mov rfl) ?_
 refine ax_nil (cx_keep rfl rfl (cx_block ?_))
 refine cx_loopU (fun n k => k ≤ xs.length ∧ n = xs.length - k) (fun k : Nat => [(4, int k)]) (fun k => [(7, .rows 2 ((xs.take k).map GPending.row ++ List.replicate (xs.length - k) [.int .i64 0, .str []]))]) ⟨_, 0, ⟨Nat.zero_le _, rfl⟩, by repeat constructor⟩ ?_
 rintro n k ⟨hk, rfl⟩
 refine cx_seq (cx_seq (cx_ops ?_))
 refine ax_q (q_mov rfl) ?_
 refine ax_q (q_mov rfl) ?_
 refine ax_q (q_lenS_map rfl) ?_
 refine ax_q (q_ibin rfl rfl rfl) ?_
 refine ax_nil (cx_keep rfl rfl ?_)
 refine cx_cond rfl (fun h0 => ?_) (fun h0 => ?_)
 ·
  have h0 := dT h0
  have h1x : k < xs.length := by omega
  refine cx_skip ?_
  refine cx_keep rfl rfl (cx_seq (cx_block (cx_ops ?_)))
  refine ax_q (q_mov rfl) ?_
  refine ax_q (q_mov rfl) ?_
  refine ax_q (q_mov rfl) ?_
  refine ax_q (q_mov rfl) ?_
  refine ax_q (q_ix rfl rfl (mapAt h1x)) ?_
  first | refine ax_q (q_ldN rfl rfl rfl) ?_ | refine ax_q (q_loadN_ip rfl (Nat.le_refl _)) ?_
  refine ax_call rfl (vc_pure0 (c_toPending  ) hP rfl rfl ?_)
  refine ax_q (q_ixo rfl rfl h1x) ?_
  refine ax_e (e_str (q := GPending.row xs[k]) rfl rfl rfl rfl rfl rfl (fillAtL h1x) rfl rfl (fillSetL h1x)) ?_
  refine ax_nil (cx_keep rfl rfl (cx_ops ?_))
  refine ax_q (q_mov rfl) ?_
  refine ax_q (q_add rfl rfl (by omega)) ?_
  refine ax_q (q_mov rfl) ?_
  refine ax_nil ?_
  exact ⟨_, k + 1, by omega, ⟨by omega, rfl⟩, by repeat constructor⟩
 ·
  have h0 := dF h0
  refine cx_exit rfl ?_
  refine cx_keep rfl rfl (cx_seq (cx_ops ?_))
  refine ax_q (q_mov rfl) ?_
  refine ax_q (q_mov rfl) ?_
  refine ax_nil (cx_keep rfl rfl ?_)
  refine cx_ret (retN (fun _ => 0) [7] rfl rfl rfl rfl rfl ?_)
  exact ⟨rfl, by rw [show k = xs.length from by omega, List.take_length, Nat.sub_self, List.replicate_zero, List.append_nil]; rfl⟩


/- loop.example/g00332/laws.toIntS -/
def k_c_toIntS : XCode :=
 .seq (.ops [.op (some 2) (.mov (.k (.nils 1)))])
 (.keep [0] (.seq (.ops [.op (some 5) (.mov (.t 0)),
   .op (some 6) (.lenS (.t 5)),
   .op (some 7) (.mkslice 1 8 [.int .i64 0] (.t 6) (.t 6)),
   .op (some 3) (.mov (.t 7))])
 (.keep [0, 3] (.seq (.seq (.ops [.op (some 4) (.mov (.k (.int .i64 0)))])
  (.keep [0, 3, 4] (.block 0 (.loop (.seq (.seq (.ops [.op (some 8) (.mov (.t 4)),
     .op (some 9) (.mov (.t 0)),
     .op (some 10) (.lenS (.t 9)),
     .op (some 11) (.bin .lss (.t 8) (.t 10))])
   (.keep [0, 3, 4, 11] (.cond (.t 11)
    (.skip)
    (.exit 0))))
   (.keep [0, 3, 4] (.seq (.block 1 (.ops [.op (some 14) (.mov (.t 3)),
     .op (some 15) (.mov (.t 4)),
     .op (some 16) (.mov (.t 0)),
     .op (some 17) (.mov (.t 4)),
     .op (some 18) (.iadr 1 (.t 16) (.t 17)),
     .op (some 19) (.load1 (.t 18)),
     .op (some 20) (.iadr 1 (.t 14) (.t 15)),
     .op none (.store 1 (.t 20) (.t 19))]))
   (.keep [0, 3, 4] (.ops [.op (some 12) (.mov (.t 4)),
    .op (some 13) (.bin .add (.t 12) (.k (.int .i64 1))),
    .op (some 4) (.mov (.t 13))])))))))))
 (.keep [3] (.seq (.ops [.op (some 21) (.mov (.t 3)),
   .op (some 2) (.mov (.t 21))])
 (.keep [2] (.ret))))))))
theorem k_c_toIntS_fits : fitsF Tryz.prog 111 ⟨22, k_c_toIntS, [.t 2]⟩ = true := by kernel_rfl
theorem c_toIntS {xs : List Int} (hw : xs.length ≤ 1048576) : Con Tryz.prog noMv 111 [.d (.sl 1 (xs.map intRow))] [] (fun r h => r = .osl 0 1 0 xs.length ∧ h = [(0, .rows 1 (xs.map intRow))]) := by
 refine con_of2 k_c_toIntS_fits rfl fun C hP hmv => ?_
 unfold k_c_toIntS
 refine cx_seq (cx_ops ?_)
 refine ax_q (q_mov rfl) ?_
 refine ax_nil (cx_keep rfl rfl (cx_seq (cx_ops ?_)))
 refine ax_q (q_mov rfl) ?_
 refine ax_q (q_lenS_map rfl) ?_
 refine ax_ee (e_mkslice rfl rfl rfl (by omega) (by omega) (by omega) (by decide) rfl rfl) (by rw [Int.toNat_natCast]) ?_
 refine ax_q (q_mov rfl) ?_
 refine ax_nil (cx_keep rfl rfl (cx_seq (cx_seq (cx_ops ?_))))
 refine ax_q (q_mov rfl) ?_
 refine ax_nil (cx_keep rfl rfl (cx_block ?_))
 refine cx_loopU (fun n k => k ≤ xs.length ∧ n = xs.length - k) (fun k : Nat => [(4, int k)]) (fun k => [(7, .rows 1 ((xs.take k).map intRow ++ List.replicate (xs.length - k) [.int .i64 0]))]) ⟨_, 0, ⟨Nat.zero_le _, rfl⟩, by repeat constructor⟩ ?_
 rintro n k ⟨hk, rfl⟩
 refine cx_seq (cx_seq (cx_ops ?_))
 refine ax_q (q_mov rfl) ?_
 refine ax_q (q_mov rfl) ?_
 refine ax_q (q_lenS_map rfl) ?_
 refine ax_q (q_ibin rfl rfl rfl) ?_
 refine ax_nil (cx_keep rfl rfl ?_)
 refine cx_cond rfl (fun h0 => ?_) (fun h0 => ?_)
 ·
  have h0 := dT h0
  have h1x : k < xs.length := by omega
  refine cx_skip ?_
  refine cx_keep rfl rfl (cx_seq (cx_block (cx_ops ?_)))
  refine ax_q (q_mov rfl) ?_
  refine ax_q (q_mov rfl) ?_
  refine ax_q (q_mov rfl) ?_
  refine ax_q (q_mov rfl) ?_
  refine ax_q (q_ix rfl rfl (mapAt h1x)) ?_
  first | refine ax_q (q_load1_ptr rfl rfl rfl) ?_ | refine ax_q (q_load1_ip rfl) ?_
  refine ax_q (q_ixo rfl rfl h1x) ?_
  refine ax_e (e_str (q := intRow xs[k]) rfl rfl rfl rfl rfl rfl (fillAtL h1x) rfl rfl (fillSetL h1x)) ?_
  refine ax_nil (cx_keep rfl rfl (cx_ops ?_))
  refine ax_q (q_mov rfl) ?_
  refine ax_q (q_add rfl rfl (by omega)) ?_
  refine ax_q (q_mov rfl) ?_
  refine ax_nil ?_
  exact ⟨_, k + 1, by omega, ⟨by omega, rfl⟩, by repeat constructor⟩
 ·
  have h0 := dF h0
  refine cx_exit rfl ?_
  refine cx_keep rfl rfl (cx_seq (cx_ops ?_))
  refine ax_q (q_mov rfl) ?_
  refine ax_q (q_mov rfl) ?_
  refine ax_nil (cx_keep rfl rfl ?_)
  refine cx_ret (retN (fun _ => 0) [7] rfl rfl rfl rfl rfl ?_)
  exact ⟨rfl, by rw [show k = xs.length from by omega, List.take_length, Nat.sub_self, List.replicate_zero, List.append_nil]; rfl⟩


/- loop.example/g00332/laws.toDisk -/
def k_c_toDisk : XCode :=
 .seq (.ops [.op (some 1) (.box (.t 0)),
   .op (some 2) (.alloc [.nils 1, .nils 2, .bool false, .nils 1])])
 (.keep [1, 2] (.seq (.ops [.op (some 3) (.alloc [.nils 1, .nils 2, .bool false, .nils 1])])
 (.keep [1, 2, 3] (.seq (.ops [.op (some 4) (.fadr (.t 1) 0),
   .op (some 5) (.load1 (.t 4)),
   .call (some 6) 109 [.t 5],
   .op (some 7) (.fadr (.t 3) 0),
   .op none (.store 1 (.t 7) (.t 6))])
 (.keep [1, 2, 3] (.seq (.ops [.op (some 8) (.fadr (.t 1) 1),
   .op (some 9) (.load1 (.t 8)),
   .call (some 10) 110 [.t 9],
   .op (some 11) (.fadr (.t 3) 1),
   .op none (.store 1 (.t 11) (.t 10))])
 (.keep [1, 2, 3] (.seq (.ops [.op (some 12) (.fadr (.t 1) 2),
   .op (some 13) (.load1 (.t 12)),
   .op (some 14) (.fadr (.t 3) 2),
   .op none (.store 1 (.t 14) (.t 13))])
 (.keep [1, 2, 3] (.seq (.ops [.op (some 15) (.fadr (.t 1) 3),
   .op (some 16) (.load1 (.t 15)),
   .call (some 17) 111 [.t 16],
   .op (some 18) (.fadr (.t 3) 3),
   .op none (.store 1 (.t 18) (.t 17))])
 (.keep [2, 3] (.seq (.ops [.op (some 19) (.loadN 4 (.t 3)),
   .op none (.store 4 (.t 2) (.t 19))])
 (.keep [2] (.ret))))))))))))))
theorem k_c_toDisk_fits : fitsF Tryz.prog 51 ⟨20, k_c_toDisk, [.cN 2 4]⟩ = true := by kernel_rfl
theorem c_toDisk {a : GDisk} (hw0 : a.Sectors.length ≤ 1048576) (hw1 : a.Cache.length ≤ 1048576) (hw2 : a.Keep.length ≤ 1048576) : Con Tryz.prog noMv 51 [a.av] [] (fun r h => r = a.avO 0 1 2 ∧ h = a.hO 0 1 2) := by
 refine con_of2 k_c_toDisk_fits rfl fun C hP hmv => ?_
 unfold k_c_toDisk
 refine cx_seq (cx_ops ?_)
 refine ax_e (e_box rfl rfl (by decide) rfl rfl rfl) ?_
 refine ax_e (e_alloc (by decide) rfl rfl) ?_
 refine ax_nil (cx_keep rfl rfl (cx_seq (cx_ops ?_)))
 refine ax_e (e_alloc (by decide) rfl rfl) ?_
 refine ax_nil (cx_keep rfl rfl (cx_seq (cx_ops ?_)))
 refine ax_q (q_fadr_ptr rfl) ?_
 refine ax_q (q_load1_ptr rfl rfl rfl) ?_
 refine ax_call rfl (vc_pure (c_toStringS  ?_) hP rfl ?_)
 ·
  assumption
 rintro r h ⟨rfl, rfl⟩
 refine ⟨fun i => 6 + 200 * i, [0], ⟨rfl, rfl, rfl, rfl, rfl, (by first | exact (fun h => absurd h Bool.false_ne_true) | exact (fun _ => ⟨rfl, (noisl_of (by repeat (first | exact trivial | refine ⟨noisl_map (fun _ => rfl), ?_⟩ | refine ⟨?_, ?_⟩)))⟩))⟩, ?_⟩
 skip
 refine ax_q (q_fadr_ptr rfl) ?_
 refine ax_e (e_st rfl rfl rfl rfl rfl rfl rfl) ?_
 refine ax_nil (cx_keep rfl rfl (cx_seq (cx_ops ?_)))
 refine ax_q (q_fadr_ptr rfl) ?_
 refine ax_q (q_load1_ptr rfl rfl rfl) ?_
 refine ax_call rfl (vc_pure (c_toPendingS  ?_) hP rfl ?_)
 ·
  assumption
 rintro r h ⟨rfl, rfl⟩
 refine ⟨fun i => 10 + 200 * i, [0], ⟨rfl, rfl, rfl, rfl, rfl, (by first | exact (fun h => absurd h Bool.false_ne_true) | exact (fun _ => ⟨rfl, (noisl_of (by repeat (first | exact trivial | refine ⟨noisl_map (fun _ => rfl), ?_⟩ | refine ⟨?_, ?_⟩)))⟩))⟩, ?_⟩
 skip
 refine ax_q (q_fadr_ptr rfl) ?_
 refine ax_e (e_st rfl rfl rfl rfl rfl rfl rfl) ?_
 refine ax_nil (cx_keep rfl rfl (cx_seq (cx_ops ?_)))
 refine ax_q (q_fadr_ptr rfl) ?_
 refine ax_q (q_load1_ptr rfl rfl rfl) ?_
 refine ax_q (q_fadr_ptr rfl) ?_
 refine ax_e (e_st rfl rfl rfl rfl rfl rfl rfl) ?_
 refine ax_nil (cx_keep rfl rfl (cx_seq (cx_ops ?_)))
 refine ax_q (q_fadr_ptr rfl) ?_
 refine ax_q (q_load1_ptr rfl rfl rfl) ?_
 refine ax_call rfl (vc_pure (c_toIntS  ?_) hP rfl ?_)
 ·
  assumption
 rintro r h ⟨rfl, rfl⟩
 refine ⟨fun i => 17 + 200 * i, [0], ⟨rfl, rfl, rfl, rfl, rfl, (by first | exact (fun h => absurd h Bool.false_ne_true) | exact (fun _ => ⟨rfl, (noisl_of (by repeat (first | exact trivial | refine ⟨noisl_map (fun _ => rfl), ?_⟩ | refine ⟨?_, ?_⟩)))⟩))⟩, ?_⟩
 skip
 refine ax_q (q_fadr_ptr rfl) ?_
 refine ax_e (e_st rfl rfl rfl rfl rfl rfl rfl) ?_
 refine ax_nil (cx_keep rfl rfl (cx_seq (cx_ops ?_)))
 refine ax_q (q_ldN rfl rfl rfl) ?_
 refine ax_e (e_st rfl rfl rfl rfl rfl rfl rfl) ?_
 refine ax_nil (cx_keep rfl rfl ?_)
 refine cx_ret (retN (fun e => bif Nat.beq e 10 then 1 else bif Nat.beq e 17 then 2 else 0) [6, 10, 17] rfl rfl rfl rfl rfl ?_)
 exact ⟨rfl, rfl⟩


/- loop.example/g00332/laws.toLogRecord -/
def k_c_toLogRecord : XCode :=
 .seq (.ops [.op (some 1) (.box (.t 0)),
   .op (some 2) (.alloc [.int .i64 0, .int .i64 0, .int .i64 0, .int .i64 0, .int .i64 0, .int .i64 0, .int .i64 0, .int .i64 0, .str [], .str []])])
 (.keep [1, 2] (.seq (.ops [.op (some 3) (.alloc [.int .i64 0, .int .i64 0, .int .i64 0, .int .i64 0, .int .i64 0, .int .i64 0, .int .i64 0, .int .i64 0, .str [], .str []])])
 (.keep [1, 2, 3] (.seq (.ops [.op (some 4) (.fadr (.t 1) 0),
   .op (some 5) (.load1 (.t 4)),
   .op (some 6) (.fadr (.t 3) 0),
   .op none (.store 1 (.t 6) (.t 5))])
 (.keep [1, 2, 3] (.seq (.ops [.op (some 7) (.fadr (.t 1) 1),
   .op (some 8) (.load1 (.t 7)),
   .op (some 9) (.fadr (.t 3) 1),
   .op none (.store 1 (.t 9) (.t 8))])
 (.keep [1, 2, 3] (.seq (.ops [.op (some 10) (.fadr (.t 1) 2),
   .op (some 11) (.load1 (.t 10)),
   .op (some 12) (.fadr (.t 3) 2),
   .op none (.store 1 (.t 12) (.t 11))])
 (.keep [1, 2, 3] (.seq (.ops [.op (some 13) (.fadr (.t 1) 3),
   .op (some 14) (.load1 (.t 13)),
   .op (some 15) (.fadr (.t 3) 3),
   .op none (.store 1 (.t 15) (.t 14))])
 (.keep [1, 2, 3] (.seq (.ops [.op (some 16) (.fadr (.t 1) 4),
   .op (some 17) (.load1 (.t 16)),
   .op (some 18) (.fadr (.t 3) 4),
   .op none (.store 1 (.t 18) (.t 17))])
 (.keep [1, 2, 3] (.seq (.ops [.op (some 19) (.fadr (.t 1) 5),
   .op (some 20) (.load1 (.t 19)),
   .op (some 21) (.fadr (.t 3) 5),
   .op none (.store 1 (.t 21) (.t 20))])
 (.keep [1, 2, 3] (.seq (.ops [.op (some 22) (.fadr (.t 1) 6),
   .op (some 23) (.load1 (.t 22)),
   .op (some 24) (.fadr (.t 3) 6),
   .op none (.store 1 (.t 24) (.t 23))])
 (.keep [1, 2, 3] (.seq (.ops [.op (some 25) (.fadr (.t 1) 7),
   .op (some 26) (.load1 (.t 25)),
   .op (some 27) (.fadr (.t 3) 7),
   .op none (.store 1 (.t 27) (.t 26))])
 (.keep [1, 2, 3] (.seq (.ops [.op (some 28) (.fadr (.t 1) 8),
   .op (some 29) (.load1 (.t 28)),
   .op (some 30) (.fadr (.t 3) 8),
   .op none (.store 1 (.t 30) (.t 29))])
 (.keep [1, 2, 3] (.seq (.ops [.op (some 31) (.fadr (.t 1) 9),
   .op (some 32) (.load1 (.t 31)),
   .op (some 33) (.fadr (.t 3) 9),
   .op none (.store 1 (.t 33) (.t 32))])
 (.keep [2, 3] (.seq (.ops [.op (some 34) (.loadN 10 (.t 3)),
   .op none (.store 10 (.t 2) (.t 34))])
 (.keep [2] (.ret))))))))))))))))))))))))))
theorem k_c_toLogRecord_fits : fitsF Tryz.prog 112 ⟨35, k_c_toLogRecord, [.cN 2 10]⟩ = true := by kernel_rfl
theorem c_toLogRecord {a : GLogRecord} : Con Tryz.prog noMv 112 [a.av] [] (fun r h => r = a.av ∧ h = []) := by
 refine con_of2 k_c_toLogRecord_fits rfl fun C hP hmv => ?_
 unfold k_c_toLogRecord
 refine cx_seq (cx_ops ?_)
 refine ax_e (e_box rfl rfl (by decide) rfl rfl rfl) ?_
 refine ax_e (e_alloc (by decide) rfl rfl) ?_
 refine ax_nil (cx_keep rfl rfl (cx_seq (cx_ops ?_)))
 refine ax_e (e_alloc (by decide) rfl rfl) ?_
 refine ax_nil (cx_keep rfl rfl (cx_seq (cx_ops ?_)))
 refine ax_q (q_fadr_ptr rfl) ?_
 refine ax_q (q_load1_ptr rfl rfl rfl) ?_
 refine ax_q (q_fadr_ptr rfl) ?_
 refine ax_e (e_st rfl rfl rfl rfl rfl rfl rfl) ?_
 refine ax_nil (cx_keep rfl rfl (cx_seq (cx_ops ?_)))
 refine ax_q (q_fadr_ptr rfl) ?_
 refine ax_q (q_load1_ptr rfl rfl rfl) ?_
 refine ax_q (q_fadr_ptr rfl) ?_
 refine ax_e (e_st rfl rfl rfl rfl rfl rfl rfl) ?_
 refine ax_nil (cx_keep rfl rfl (cx_seq (cx_ops ?_)))
 refine ax_q (q_fadr_ptr rfl) ?_
 refine ax_q (q_load1_ptr rfl rfl rfl) ?_
 refine ax_q (q_fadr_ptr rfl) ?_
 refine ax_e (e_st rfl rfl rfl rfl rfl rfl rfl) ?_
 refine ax_nil (cx_keep rfl rfl (cx_seq (cx_ops ?_)))
 refine ax_q (q_fadr_ptr rfl) ?_
 refine ax_q (q_load1_ptr rfl rfl rfl) ?_
 refine ax_q (q_fadr_ptr rfl) ?_
 refine ax_e (e_st rfl rfl rfl rfl rfl rfl rfl) ?_
 refine ax_nil (cx_keep rfl rfl (cx_seq (cx_ops ?_)))
 refine ax_q (q_fadr_ptr rfl) ?_
 refine ax_q (q_load1_ptr rfl rfl rfl) ?_
 refine ax_q (q_fadr_ptr rfl) ?_
 refine ax_e (e_st rfl rfl rfl rfl rfl rfl rfl) ?_
 refine ax_nil (cx_keep rfl rfl (cx_seq (cx_ops ?_)))
 refine ax_q (q_fadr_ptr rfl) ?_
 refine ax_q (q_load1_ptr rfl rfl rfl) ?_
 refine ax_q (q_fadr_ptr rfl) ?_
 refine ax_e (e_st rfl rfl rfl rfl rfl rfl rfl) ?_
 refine ax_nil (cx_keep rfl rfl (cx_seq (cx_ops ?_)))
 refine ax_q (q_fadr_ptr rfl) ?_
 refine ax_q (q_load1_ptr rfl rfl rfl) ?_
 refine ax_q (q_fadr_ptr rfl) ?_
 refine ax_e (e_st rfl rfl rfl rfl rfl rfl rfl) ?_
 refine ax_nil (cx_keep rfl rfl (cx_seq (cx_ops ?_)))
 refine ax_q (q_fadr_ptr rfl) ?_
 refine ax_q (q_load1_ptr rfl rfl rfl) ?_
 refine ax_q (q_fadr_ptr rfl) ?_
 refine ax_e (e_st rfl rfl rfl rfl rfl rfl rfl) ?_
 refine ax_nil (cx_keep rfl rfl (cx_seq (cx_ops ?_)))
 refine ax_q (q_fadr_ptr rfl) ?_
 refine ax_q (q_load1_ptr rfl rfl rfl) ?_
 refine ax_q (q_fadr_ptr rfl) ?_
 refine ax_e (e_st rfl rfl rfl rfl rfl rfl rfl) ?_
 refine ax_nil (cx_keep rfl rfl (cx_seq (cx_ops ?_)))
 refine ax_q (q_fadr_ptr rfl) ?_
 refine ax_q (q_load1_ptr rfl rfl rfl) ?_
 refine ax_q (q_fadr_ptr rfl) ?_
 refine ax_e (e_st rfl rfl rfl rfl rfl rfl rfl) ?_
 refine ax_nil (cx_keep rfl rfl (cx_seq (cx_ops ?_)))
 refine ax_q (q_ldN rfl rfl rfl) ?_
 refine ax_e (e_st rfl rfl rfl rfl rfl rfl rfl) ?_
 refine ax_nil (cx_keep rfl rfl ?_)
 refine cx_ret (ret0 rfl rfl ?_)
 exact ⟨rfl, rfl⟩


/- loop.example/g00332/laws.toLogRecordS -/
def k_c_toLogRecordS : XCode :=
 .seq (.ops [.op (some 2) (.mov (.k (.nils 10)))])
 (.keep [0] (.seq (.ops [.op (some 5) (.mov (.t 0)),
   .op (some 6) (.lenS (.t 5)),
   .op (some 7) (.mkslice 10 96 [.int .i64 0, .int .i64 0, .int .i64 0, .int .i64 0, .int .i64 0, .int .i64 0, .int .i64 0, .int .i64 0, .str [], .str []] (.t 6) (.t 6)),
   .op (some 3) (.mov (.t 7))])
 (.keep [0, 3] (.seq (.seq (.ops [.op (some 4) (.mov (.k (.int .i64 0)))])
  (.keep [0, 3, 4] (.block 0 (.loop (.seq (.seq (.ops [.op (some 8) (.mov (.t 4)),
     .op (some 9) (.mov (.t 0)),
     .op (some 10) (.lenS (.t 9)),
     .op (some 11) (.bin .lss (.t 8) (.t 10))])
   (.keep [0, 3, 4, 11] (.cond (.t 11)
    (.skip)
    (.exit 0))))
   (.keep [0, 3, 4] (.seq (.block 1 (.ops [.op (some 14) (.mov (.t 3)),
     .op (some 15) (.mov (.t 4)),
     .op (some 16) (.mov (.t 0)),
     .op (some 17) (.mov (.t 4)),
     .op (some 18) (.iadr 10 (.t 16) (.t 17)),
     .op (some 19) (.loadN 10 (.t 18)),
     .call (some 20) 112 [.t 19],
     .op (some 21) (.iadr 10 (.t 14) (.t 15)),
     .op none (.store 10 (.t 21) (.t 20))]))
   (.keep [0, 3, 4] (.ops [.op (some 12) (.mov (.t 4)),
    .op (some 13) (.bin .add (.t 12) (.k (.int .i64 1))),
    .op (some 4) (.mov (.t 13))])))))))))
 (.keep [3] (.seq (.ops [.op (some 22) (.mov (.t 3)),
   .op (some 2) (.mov (.t 22))])
 (.keep [2] (.ret))))))))
theorem k_c_toLogRecordS_fits : fitsF Tryz.prog 52 ⟨23, k_c_toLogRecordS, [.t 2]⟩ = true := by kernel_rfl
theorem c_toLogRecordS {xs : List GLogRecord} (hw : xs.length ≤ 1048576) : Con Tryz.prog noMv 52 [.d (.sl 10 (xs.map GLogRecord.row))] [] (fun r h => r = .osl 0 10 0 xs.length ∧ h = [(0, .rows 10 (xs.map GLogRecord.row))]) := by
 refine con_of2 k_c_toLogRecordS_fits rfl fun C hP hmv => ?_
 unfold k_c_toLogRecordS
 refine cx_seq (cx_ops ?_)
 refine ax_q (q_mov rfl) ?_
 refine ax_nil (cx_keep rfl rfl (cx_seq (cx_ops ?_)))
 refine ax_q (q_mov rfl) ?_
 refine ax_q (q_lenS_map rfl) ?_
 refine ax_ee (e_mkslice rfl rfl rfl (by omega) (by omega) (by omega) (by decide) rfl rfl) (by rw [Int.toNat_natCast]) ?_
 refine ax_q (q_mov rfl) ?_
 refine ax_nil (cx_keep rfl rfl (cx_seq (cx_seq (cx_ops ?_))))
 refine ax_q (q_mov rfl) ?_
 refine ax_nil (cx_keep rfl rfl (cx_block ?_))
 refine cx_loopU (fun n k => k ≤ xs.length ∧ n = xs.length - k) (fun k : Nat => [(4, int k)]) (fun k => [(7, .rows 10 ((xs.take k).map GLogRecord.row ++ List.replicate (xs.length - k) [.int .i64 0, .int .i64 0, .int .i64 0, .int .i64 0, .int .i64 0, .int .i64 0, .int .i64 0, .int .i64 0, .str [], .str []]))]) ⟨_, 0, ⟨Nat.zero_le _, rfl⟩, by repeat constructor⟩ ?_
 rintro n k ⟨hk, rfl⟩
 refine cx_seq (cx_seq (cx_ops ?_))
 refine ax_q (q_mov rfl) ?_
 refine ax_q (q_mov rfl) ?_
 refine ax_q (q_lenS_map rfl) ?_
 refine ax_q (q_ibin rfl rfl rfl) ?_
 refine ax_nil (cx_keep rfl rfl ?_)
 refine cx_cond rfl (fun h0 => ?_) (fun h0 => ?_)
 ·
  have h0 := dT h0
  have h1x : k < xs.length := by omega
  refine cx_skip ?_
  refine cx_keep rfl rfl (cx_seq (cx_block (cx_ops ?_)))
  refine ax_q (q_mov rfl) ?_
  refine ax_q (q_mov rfl) ?_
  refine ax_q (q_mov rfl) ?_
  refine ax_q (q_mov rfl) ?_
  refine ax_q (q_ix rfl rfl (mapAt h1x)) ?_
  first | refine ax_q (q_ldN rfl rfl rfl) ?_ | refine ax_q (q_loadN_ip rfl (Nat.le_refl _)) ?_
  refine ax_call rfl (vc_pure0 (c_toLogRecord  ) hP rfl rfl ?_)
  refine ax_q (q_ixo rfl rfl h1x) ?_
  refine ax_e (e_str (q := GLogRecord.row xs[k]) rfl rfl rfl rfl rfl rfl (fillAtL h1x) rfl rfl (fillSetL h1x)) ?_
  refine ax_nil (cx_keep rfl rfl (cx_ops ?_))
  refine ax_q (q_mov rfl) ?_
  refine ax_q (q_add rfl rfl (by omega)) ?_
  refine ax_q (q_mov rfl) ?_
  refine ax_nil ?_
  exact ⟨_, k + 1, by omega, ⟨by omega, rfl⟩, by repeat constructor⟩
 ·
  have h0 := dF h0
  refine cx_exit rfl ?_
  refine cx_keep rfl rfl (cx_seq (cx_ops ?_))
  refine ax_q (q_mov rfl) ?_
  refine ax_q (q_mov rfl) ?_
  refine ax_nil (cx_keep rfl rfl ?_)
  refine cx_ret (retN (fun _ => 0) [7] rfl rfl rfl rfl rfl ?_)
  exact ⟨rfl, by rw [show k = xs.length from by omega, List.take_length, Nat.sub_self, List.replicate_zero, List.append_nil]; rfl⟩


/- loop.example/g00332/laws.toPage -/
def k_c_toPage : XCode :=
 .seq (.ops [.op (some 1) (.box (.t 0)),
   .op (some 2) (.alloc [.int .i64 0, .nils 1])])
 (.keep [1, 2] (.seq (.ops [.op (some 3) (.alloc [.int .i64 0, .nils 1])])
 (.keep [1, 2, 3] (.seq (.ops [.op (some 4) (.fadr (.t 1) 0),
   .op (some 5) (.load1 (.t 4)),
   .op (some 6) (.fadr (.t 3) 0),
   .op none (.store 1 (.t 6) (.t 5))])
 (.keep [1, 2, 3] (.seq (.ops [.op (some 7) (.fadr (.t 1) 1),
   .op (some 8) (.load1 (.t 7)),
   .call (some 9) 109 [.t 8],
   .op (some 10) (.fadr (.t 3) 1),
   .op none (.store 1 (.t 10) (.t 9))])
 (.keep [2, 3] (.seq (.ops [.op (some 11) (.loadN 2 (.t 3)),
   .op none (.store 2 (.t 2) (.t 11))])
 (.keep [2] (.ret))))))))))
theorem k_c_toPage_fits : fitsF Tryz.prog 182 ⟨12, k_c_toPage, [.cN 2 2]⟩ = true := by kernel_rfl
theorem c_toPage {a : Page} (hw0 : a.slots.length ≤ 1048576) : Con Tryz.prog noMv 182 [a.av] [] (fun r h => r = a.avO 0 ∧ h = a.hO 0) := by
 refine con_of2 k_c_toPage_fits rfl fun C hP hmv => ?_
 unfold k_c_toPage
 refine cx_seq (cx_ops ?_)
 refine ax_e (e_box rfl rfl (by decide) rfl rfl rfl) ?_
 refine ax_e (e_alloc (by decide) rfl rfl) ?_
 refine ax_nil (cx_keep rfl rfl (cx_seq (cx_ops ?_)))
 refine ax_e (e_alloc (by decide) rfl rfl) ?_
 refine ax_nil (cx_keep rfl rfl (cx_seq (cx_ops ?_)))
 refine ax_q (q_fadr_ptr rfl) ?_
 refine ax_q (q_load1_ptr rfl rfl rfl) ?_
 refine ax_q (q_fadr_ptr rfl) ?_
 refine ax_e (e_st rfl rfl rfl rfl rfl rfl rfl) ?_
 refine ax_nil (cx_keep rfl rfl (cx_seq (cx_ops ?_)))
 refine ax_q (q_fadr_ptr rfl) ?_
 refine ax_q (q_load1_ptr rfl rfl rfl) ?_
 refine ax_call rfl (vc_pure (c_toStringS  ?_) hP rfl ?_)
 ·
  assumption
 rintro r h ⟨rfl, rfl⟩
 refine ⟨fun i => 9 + 200 * i, [0], ⟨rfl, rfl, rfl, rfl, rfl, (by first | exact (fun h => absurd h Bool.false_ne_true) | exact (fun _ => ⟨rfl, (noisl_of (by repeat (first | exact trivial | refine ⟨noisl_map (fun _ => rfl), ?_⟩ | refine ⟨?_, ?_⟩)))⟩))⟩, ?_⟩
 skip
 refine ax_q (q_fadr_ptr rfl) ?_
 refine ax_e (e_st rfl rfl rfl rfl rfl rfl rfl) ?_
 refine ax_nil (cx_keep rfl rfl (cx_seq (cx_ops ?_)))
 refine ax_q (q_ldN rfl rfl rfl) ?_
 refine ax_e (e_st rfl rfl rfl rfl rfl rfl rfl) ?_
 refine ax_nil (cx_keep rfl rfl ?_)
 refine cx_ret (retN (fun e => 0) [9] rfl rfl rfl rfl rfl ?_)
 exact ⟨rfl, rfl⟩


/- loop.example/g00332/laws.toFrame -/
def k_c_toFrame : XCode :=
 .seq (.ops [.op (some 1) (.box (.t 0)),
   .op (some 2) (.alloc [.int .i64 0, .int .i64 0, .nils 1, .bool false, .int .i64 0])])
 (.keep [1, 2] (.seq (.ops [.op (some 3) (.alloc [.int .i64 0, .int .i64 0, .nils 1, .bool false, .int .i64 0])])
 (.keep [1, 2, 3] (.seq (.ops [.op (some 4) (.fadr (.t 1) 0),
   .op (some 5) (.load1 (.t 4)),
   .op (some 6) (.fadr (.t 3) 0),
   .op none (.store 1 (.t 6) (.t 5))])
 (.keep [1, 2, 3] (.seq (.ops [.op (some 7) (.fadr (.t 1) 1),
   .op (some 8) (.loadN 2 (.t 7)),
   .call (some 9) 182 [.t 8],
   .op (some 10) (.fadr (.t 3) 1),
   .op none (.store 2 (.t 10) (.t 9))])
 (.keep [1, 2, 3] (.seq (.ops [.op (some 11) (.fadr (.t 1) 3),
   .op (some 12) (.load1 (.t 11)),
   .op (some 13) (.fadr (.t 3) 3),
   .op none (.store 1 (.t 13) (.t 12))])
 (.keep [1, 2, 3] (.seq (.ops [.op (some 14) (.fadr (.t 1) 4),
   .op (some 15) (.load1 (.t 14)),
   .op (some 16) (.fadr (.t 3) 4),
   .op none (.store 1 (.t 16) (.t 15))])
 (.keep [2, 3] (.seq (.ops [.op (some 17) (.loadN 5 (.t 3)),
   .op none (.store 5 (.t 2) (.t 17))])
 (.keep [2] (.ret))))))))))))))
theorem k_c_toFrame_fits : fitsF Tryz.prog 113 ⟨18, k_c_toFrame, [.cN 2 5]⟩ = true := by kernel_rfl
theorem c_toFrame {a : GFrame} (hw0 : a.Page.slots.length ≤ 1048576) : Con Tryz.prog noMv 113 [a.av] [] (fun r h => r = a.av ∧ h = []) := by
 refine con_of2 k_c_toFrame_fits rfl fun C hP hmv => ?_
 unfold k_c_toFrame
 refine cx_seq (cx_ops ?_)
 refine ax_e (e_box rfl rfl (by decide) rfl rfl rfl) ?_
 refine ax_e (e_alloc (by decide) rfl rfl) ?_
 refine ax_nil (cx_keep rfl rfl (cx_seq (cx_ops ?_)))
 refine ax_e (e_alloc (by decide) rfl rfl) ?_
 refine ax_nil (cx_keep rfl rfl (cx_seq (cx_ops ?_)))
 refine ax_q (q_fadr_ptr rfl) ?_
 refine ax_q (q_load1_ptr rfl rfl rfl) ?_
 refine ax_q (q_fadr_ptr rfl) ?_
 refine ax_e (e_st rfl rfl rfl rfl rfl rfl rfl) ?_
 refine ax_nil (cx_keep rfl rfl (cx_seq (cx_ops ?_)))
 refine ax_q (q_fadr_ptr rfl) ?_
 refine ax_q (q_ldN rfl rfl rfl) ?_
 refine ax_call rfl (vc_pure (c_toPage  ?_) hP rfl ?_)
 ·
  assumption
 rintro r h ⟨rfl, rfl⟩
 refine ⟨fun i => 9 + 200 * i, [0], ⟨rfl, rfl, rfl, rfl, rfl, (by first | exact (fun h => absurd h Bool.false_ne_true) | exact (fun _ => ⟨rfl, (noisl_of (by repeat (first | exact trivial | refine ⟨noisl_map (fun _ => rfl), ?_⟩ | refine ⟨?_, ?_⟩)))⟩))⟩, ?_⟩
 skip
 refine ax_wk (wk_frz 9 9 rfl rfl (.agg (.cons (.same rfl) (.cons (.whole (List.length_map _).symm) .nil))) rfl) ?_
 refine ax_q (q_fadr_ptr rfl) ?_
 refine ax_e (e_st rfl rfl rfl rfl rfl rfl rfl) ?_
 refine ax_nil (cx_keep rfl rfl (cx_seq (cx_ops ?_)))
 refine ax_q (q_fadr_ptr rfl) ?_
 refine ax_q (q_load1_ptr rfl rfl rfl) ?_
 refine ax_q (q_fadr_ptr rfl) ?_
 refine ax_e (e_st rfl rfl rfl rfl rfl rfl rfl) ?_
 refine ax_nil (cx_keep rfl rfl (cx_seq (cx_ops ?_)))
 refine ax_q (q_fadr_ptr rfl) ?_
 refine ax_q (q_load1_ptr rfl rfl rfl) ?_
 refine ax_q (q_fadr_ptr rfl) ?_
 refine ax_e (e_st rfl rfl rfl rfl rfl rfl rfl) ?_
 refine ax_nil (cx_keep rfl rfl (cx_seq (cx_ops ?_)))
 refine ax_q (q_ldN rfl rfl rfl) ?_
 refine ax_e (e_st rfl rfl rfl rfl rfl rfl rfl) ?_
 refine ax_nil (cx_keep rfl rfl ?_)
 refine cx_ret (ret0 rfl rfl ?_)
 exact ⟨rfl, rfl⟩


/- loop.example/g00332/laws.toFrameS -/
def k_c_toFrameS : XCode :=
 .seq (.ops [.op (some 2) (.mov (.k (.nils 5)))])
 (.keep [0] (.seq (.ops [.op (some 5) (.mov (.t 0)),
   .op (some 6) (.lenS (.t 5)),
   .op (some 7) (.mkslice 5 56 [.int .i64 0, .int .i64 0, .nils 1, .bool false, .int .i64 0] (.t 6) (.t 6)),
   .op (some 3) (.mov (.t 7))])
 (.keep [0, 3] (.seq (.seq (.ops [.op (some 4) (.mov (.k (.int .i64 0)))])
  (.keep [0, 3, 4] (.block 0 (.loop (.seq (.seq (.ops [.op (some 8) (.mov (.t 4)),
     .op (some 9) (.mov (.t 0)),
     .op (some 10) (.lenS (.t 9)),
     .op (some 11) (.bin .lss (.t 8) (.t 10))])
   (.keep [0, 3, 4, 11] (.cond (.t 11)
    (.skip)
    (.exit 0))))
   (.keep [0, 3, 4] (.seq (.block 1 (.ops [.op (some 14) (.mov (.t 3)),
     .op (some 15) (.mov (.t 4)),
     .op (some 16) (.mov (.t 0)),
     .op (some 17) (.mov (.t 4)),
     .op (some 18) (.iadr 5 (.t 16) (.t 17)),
     .op (some 19) (.loadN 5 (.t 18)),
     .call (some 20) 113 [.t 19],
     .op (some 21) (.iadr 5 (.t 14) (.t 15)),
     .op none (.store 5 (.t 21) (.t 20))]))
   (.keep [0, 3, 4] (.ops [.op (some 12) (.mov (.t 4)),
    .op (some 13) (.bin .add (.t 12) (.k (.int .i64 1))),
    .op (some 4) (.mov (.t 13))])))))))))
 (.keep [3] (.seq (.ops [.op (some 22) (.mov (.t 3)),
   .op (some 2) (.mov (.t 22))])
 (.keep [2] (.ret))))))))
theorem k_c_toFrameS_fits : fitsF Tryz.prog 53 ⟨23, k_c_toFrameS, [.t 2]⟩ = true := by kernel_rfl
theorem c_toFrameS {xs : List GFrame} (hw : xs.length ≤ 1048576) (hs : ∀ f ∈ xs, f.Page.slots.length ≤ 1048576) : Con Tryz.prog noMv 53 [.d (.sl 5 (xs.map GFrame.row))] [] (fun r h => r = .d (.sl 5 (xs.map GFrame.row)) ∧ h = []) := by
 refine con_of2 k_c_toFrameS_fits rfl fun C hP hmv => ?_
 unfold k_c_toFrameS
 refine cx_seq (cx_ops ?_)
 refine ax_q (q_mov rfl) ?_
 refine ax_nil (cx_keep rfl rfl (cx_seq (cx_ops ?_)))
 refine ax_q (q_mov rfl) ?_
 refine ax_q (q_lenS_map rfl) ?_
 refine ax_ee (e_mkslice rfl rfl rfl (by omega) (by omega) (by omega) (by decide) rfl rfl) (by rw [Int.toNat_natCast]) ?_
 refine ax_q (q_mov rfl) ?_
 refine ax_nil (cx_keep rfl rfl (cx_seq (cx_seq (cx_ops ?_))))
 refine ax_q (q_mov rfl) ?_
 refine ax_nil (cx_keep rfl rfl (cx_block ?_))
 refine cx_loopU (fun n k => k ≤ xs.length ∧ n = xs.length - k) (fun k : Nat => [(4, int k)]) (fun k => [(7, .rows 5 ((xs.take k).map GFrame.row ++ List.replicate (xs.length - k) [.int .i64 0, .int .i64 0, .sl 1 [], .bool false, .int .i64 0]))]) ⟨_, 0, ⟨Nat.zero_le _, rfl⟩, by repeat constructor⟩ ?_
 rintro n k ⟨hk, rfl⟩
 refine cx_seq (cx_seq (cx_ops ?_))
 refine ax_q (q_mov rfl) ?_
 refine ax_q (q_mov rfl) ?_
 refine ax_q (q_lenS_map rfl) ?_
 refine ax_q (q_ibin rfl rfl rfl) ?_
 refine ax_nil (cx_keep rfl rfl ?_)
 refine cx_cond rfl (fun h0 => ?_) (fun h0 => ?_)
 ·
  have h0 := dT h0
  have h1x : k < xs.length := by omega
  refine cx_skip ?_
  refine cx_keep rfl rfl (cx_seq (cx_block (cx_ops ?_)))
  refine ax_q (q_mov rfl) ?_
  refine ax_q (q_mov rfl) ?_
  refine ax_q (q_mov rfl) ?_
  refine ax_q (q_mov rfl) ?_
  refine ax_q (q_ix rfl rfl (mapAt h1x)) ?_
  first | refine ax_q (q_ldN rfl rfl rfl) ?_ | refine ax_q (q_loadN_ip rfl (Nat.le_refl _)) ?_
  refine ax_call rfl (vc_pure0 (c_toFrame (a := xs[k]) ?_) hP rfl rfl ?_)
  ·
   exact hs _ (List.getElem_mem h1x)
  refine ax_q (q_ixo rfl rfl h1x) ?_
  refine ax_e (e_str (q := GFrame.row xs[k]) rfl rfl rfl rfl rfl rfl (fillAtL h1x) rfl rfl (fillSetL h1x)) ?_
  refine ax_nil (cx_keep rfl rfl (cx_ops ?_))
  refine ax_q (q_mov rfl) ?_
  refine ax_qe (r' := int ((k + 1 : Nat) : Int)) (q_ibin rfl rfl rfl) (by rw [wi (by omega) (by omega)]; rfl) ?_
  refine ax_q (q_mov rfl) ?_
  refine ax_nil ?_
  exact ⟨_, k + 1, by omega, ⟨by omega, rfl⟩, by repeat constructor⟩
 ·
  have h0 := dF h0
  refine cx_exit rfl ?_
  refine cx_keep rfl rfl (cx_seq (cx_ops ?_))
  refine ax_q (q_mov rfl) ?_
  refine ax_q (q_mov rfl) ?_
  refine ax_nil (cx_keep rfl rfl ?_)
  rw [show k = xs.length from by omega, List.take_length, Nat.sub_self, List.replicate_zero, List.append_nil]
  refine cx_wk (wk_frz 2 7 rfl rfl (.whole (List.length_map _).symm) rfl) ?_
  refine cx_ret (ret0 rfl rfl ?_)
  exact ⟨rfl, rfl⟩


/- loop.example/g00332/laws.toStore -/
def k_c_toStore : XCode :=
 .seq (.ops [.op (some 1) (.box (.t 0)),
   .op (some 2) (.alloc [.nils 1, .nils 2, .bool false, .nils 1, .int .i64 0, .nils 10, .int .i64 0, .nils 5, .int .i64 0])])
 (.keep [1, 2] (.seq (.ops [.op (some 3) (.alloc [.nils 1, .nils 2, .bool false, .nils 1, .int .i64 0, .nils 10, .int .i64 0, .nils 5, .int .i64 0])])
 (.keep [1, 2, 3] (.seq (.ops [.op (some 4) (.fadr (.t 1) 0),
   .op (some 5) (.loadN 4 (.t 4)),
   .call (some 6) 51 [.t 5],
   .op (some 7) (.fadr (.t 3) 0),
   .op none (.store 4 (.t 7) (.t 6))])
 (.keep [1, 2, 3] (.seq (.ops [.op (some 8) (.fadr (.t 1) 4),
   .op (some 9) (.load1 (.t 8)),
   .op (some 10) (.fadr (.t 3) 4),
   .op none (.store 1 (.t 10) (.t 9))])
 (.keep [1, 2, 3] (.seq (.ops [.op (some 11) (.fadr (.t 1) 5),
   .op (some 12) (.load1 (.t 11)),
   .call (some 13) 52 [.t 12],
   .op (some 14) (.fadr (.t 3) 5),
   .op none (.store 1 (.t 14) (.t 13))])
 (.keep [1, 2, 3] (.seq (.ops [.op (some 15) (.fadr (.t 1) 6),
   .op (some 16) (.load1 (.t 15)),
   .op (some 17) (.fadr (.t 3) 6),
   .op none (.store 1 (.t 17) (.t 16))])
 (.keep [1, 2, 3] (.seq (.ops [.op (some 18) (.fadr (.t 1) 7),
   .op (some 19) (.load1 (.t 18)),
   .call (some 20) 53 [.t 19],
   .op (some 21) (.fadr (.t 3) 7),
   .op none (.store 1 (.t 21) (.t 20))])
 (.keep [1, 2, 3] (.seq (.ops [.op (some 22) (.fadr (.t 1) 8),
   .op (some 23) (.load1 (.t 22)),
   .op (some 24) (.fadr (.t 3) 8),
   .op none (.store 1 (.t 24) (.t 23))])
 (.keep [2, 3] (.seq (.ops [.op (some 25) (.loadN 9 (.t 3)),
   .op none (.store 9 (.t 2) (.t 25))])
 (.keep [2] (.ret))))))))))))))))))
theorem k_c_toStore_fits : fitsF Tryz.prog 16 ⟨26, k_c_toStore, [.cN 2 9]⟩ = true := by kernel_rfl
theorem c_toStore {a : GStore} (hb : StB a) : Con Tryz.prog noMv 16 [a.av] [] (fun r h => r = a.av ∧ h = []) := by
 refine con_of2 k_c_toStore_fits rfl fun C hP hmv => ?_
 unfold k_c_toStore
 obtain ⟨hw0, hw1, hw2, hw3, hwa, hw4, hw5, hw6⟩ := hb
 refine cx_seq (cx_ops ?_)
 refine ax_e (e_box rfl rfl (by decide) rfl rfl rfl) ?_
 refine ax_e (e_alloc (by decide) rfl rfl) ?_
 refine ax_nil (cx_keep rfl rfl (cx_seq (cx_ops ?_)))
 refine ax_e (e_alloc (by decide) rfl rfl) ?_
 refine ax_nil (cx_keep rfl rfl (cx_seq (cx_ops ?_)))
 refine ax_q (q_fadr_ptr rfl) ?_
 refine ax_q (q_ldN rfl rfl rfl) ?_
 refine ax_call rfl (vc_pure (c_toDisk  ?_ ?_ ?_) hP rfl ?_)
 ·
  assumption
 ·
  assumption
 ·
  assumption
 rintro r h ⟨rfl, rfl⟩
 refine ⟨fun i => 6 + 200 * i, [0, 1, 2], ⟨rfl, rfl, rfl, rfl, rfl, (by first | exact (fun h => absurd h Bool.false_ne_true) | exact (fun _ => ⟨rfl, (noisl_of (by repeat (first | exact trivial | refine ⟨noisl_map (fun _ => rfl), ?_⟩ | refine ⟨?_, ?_⟩)))⟩))⟩, ?_⟩
 skip
 refine ax_wk (wk_frz 6 6 rfl rfl (.agg (.cons (.whole (List.length_map _).symm) (.cons (.same rfl) (.cons (.same rfl) (.cons (.same rfl) .nil))))) rfl) ?_
 refine ax_wk (wk_frz 6 206 rfl rfl (.agg (.cons (.same rfl) (.cons (.whole (List.length_map _).symm) (.cons (.same rfl) (.cons (.same rfl) .nil))))) rfl) ?_
 refine ax_wk (wk_frz 6 406 rfl rfl (.agg (.cons (.same rfl) (.cons (.same rfl) (.cons (.same rfl) (.cons (.whole (List.length_map _).symm) .nil))))) rfl) ?_
 refine ax_q (q_fadr_ptr rfl) ?_
 refine ax_e (e_st rfl rfl rfl rfl rfl rfl rfl) ?_
 refine ax_nil (cx_keep rfl rfl (cx_seq (cx_ops ?_)))
 refine ax_q (q_fadr_ptr rfl) ?_
 refine ax_q (q_load1_ptr rfl rfl rfl) ?_
 refine ax_q (q_fadr_ptr rfl) ?_
 refine ax_e (e_st rfl rfl rfl rfl rfl rfl rfl) ?_
 refine ax_nil (cx_keep rfl rfl (cx_seq (cx_ops ?_)))
 refine ax_q (q_fadr_ptr rfl) ?_
 refine ax_q (q_load1_ptr rfl rfl rfl) ?_
 refine ax_call rfl (vc_pure (c_toLogRecordS  ?_) hP rfl ?_)
 ·
  assumption
 rintro r h ⟨rfl, rfl⟩
 refine ⟨fun i => 13 + 200 * i, [0], ⟨rfl, rfl, rfl, rfl, rfl, (by first | exact (fun h => absurd h Bool.false_ne_true) | exact (fun _ => ⟨rfl, (noisl_of (by repeat (first | exact trivial | refine ⟨noisl_map (fun _ => rfl), ?_⟩ | refine ⟨?_, ?_⟩)))⟩))⟩, ?_⟩
 skip
 refine ax_wk (wk_frz 13 13 rfl rfl (.whole (List.length_map _).symm) rfl) ?_
 refine ax_q (q_fadr_ptr rfl) ?_
 refine ax_e (e_st rfl rfl rfl rfl rfl rfl rfl) ?_
 refine ax_nil (cx_keep rfl rfl (cx_seq (cx_ops ?_)))
 refine ax_q (q_fadr_ptr rfl) ?_
 refine ax_q (q_load1_ptr rfl rfl rfl) ?_
 refine ax_q (q_fadr_ptr rfl) ?_
 refine ax_e (e_st rfl rfl rfl rfl rfl rfl rfl) ?_
 refine ax_nil (cx_keep rfl rfl (cx_seq (cx_ops ?_)))
 refine ax_q (q_fadr_ptr rfl) ?_
 refine ax_q (q_load1_ptr rfl rfl rfl) ?_
 refine ax_call rfl (vc_pure0 (c_toFrameS  ?_ ?_) hP rfl rfl ?_)
 ·
  assumption
 ·
  assumption
 refine ax_q (q_fadr_ptr rfl) ?_
 refine ax_e (e_st rfl rfl rfl rfl rfl rfl rfl) ?_
 refine ax_nil (cx_keep rfl rfl (cx_seq (cx_ops ?_)))
 refine ax_q (q_fadr_ptr rfl) ?_
 refine ax_q (q_load1_ptr rfl rfl rfl) ?_
 refine ax_q (q_fadr_ptr rfl) ?_
 refine ax_e (e_st rfl rfl rfl rfl rfl rfl rfl) ?_
 refine ax_nil (cx_keep rfl rfl (cx_seq (cx_ops ?_)))
 refine ax_q (q_ldN rfl rfl rfl) ?_
 refine ax_e (e_st rfl rfl rfl rfl rfl rfl rfl) ?_
 refine ax_nil (cx_keep rfl rfl ?_)
 refine cx_ret (ret0 rfl rfl ?_)
 exact ⟨rfl, rfl⟩


/- loop.example/g00332/laws.toTx -/
def k_c_toTx : XCode :=
 .seq (.ops [.op (some 1) (.box (.t 0)),
   .op (some 2) (.alloc [.int .i64 0, .int .i64 0])])
 (.keep [1, 2] (.seq (.ops [.op (some 3) (.alloc [.int .i64 0, .int .i64 0])])
 (.keep [1, 2, 3] (.seq (.ops [.op (some 4) (.fadr (.t 1) 0),
   .op (some 5) (.load1 (.t 4)),
   .op (some 6) (.fadr (.t 3) 0),
   .op none (.store 1 (.t 6) (.t 5))])
 (.keep [1, 2, 3] (.seq (.ops [.op (some 7) (.fadr (.t 1) 1),
   .op (some 8) (.load1 (.t 7)),
   .op (some 9) (.fadr (.t 3) 1),
   .op none (.store 1 (.t 9) (.t 8))])
 (.keep [2, 3] (.seq (.ops [.op (some 10) (.loadN 2 (.t 3)),
   .op none (.store 2 (.t 2) (.t 10))])
 (.keep [2] (.ret))))))))))
theorem k_c_toTx_fits : fitsF Tryz.prog 89 ⟨11, k_c_toTx, [.cN 2 2]⟩ = true := by kernel_rfl
theorem c_toTx {a : GTx} : Con Tryz.prog noMv 89 [a.av] [] (fun r h => r = a.av ∧ h = []) := by
 refine con_of2 k_c_toTx_fits rfl fun C hP hmv => ?_
 unfold k_c_toTx
 refine cx_seq (cx_ops ?_)
 refine ax_e (e_box rfl rfl (by decide) rfl rfl rfl) ?_
 refine ax_e (e_alloc (by decide) rfl rfl) ?_
 refine ax_nil (cx_keep rfl rfl (cx_seq (cx_ops ?_)))
 refine ax_e (e_alloc (by decide) rfl rfl) ?_
 refine ax_nil (cx_keep rfl rfl (cx_seq (cx_ops ?_)))
 refine ax_q (q_fadr_ptr rfl) ?_
 refine ax_q (q_load1_ptr rfl rfl rfl) ?_
 refine ax_q (q_fadr_ptr rfl) ?_
 refine ax_e (e_st rfl rfl rfl rfl rfl rfl rfl) ?_
 refine ax_nil (cx_keep rfl rfl (cx_seq (cx_ops ?_)))
 refine ax_q (q_fadr_ptr rfl) ?_
 refine ax_q (q_load1_ptr rfl rfl rfl) ?_
 refine ax_q (q_fadr_ptr rfl) ?_
 refine ax_e (e_st rfl rfl rfl rfl rfl rfl rfl) ?_
 refine ax_nil (cx_keep rfl rfl (cx_seq (cx_ops ?_)))
 refine ax_q (q_ldN rfl rfl rfl) ?_
 refine ax_e (e_st rfl rfl rfl rfl rfl rfl rfl) ?_
 refine ax_nil (cx_keep rfl rfl ?_)
 refine cx_ret (ret0 rfl rfl ?_)
 exact ⟨rfl, rfl⟩


/- loop.example/g00332/laws.toTxS -/
def k_c_toTxS : XCode :=
 .seq (.ops [.op (some 2) (.mov (.k (.nils 2)))])
 (.keep [0] (.seq (.ops [.op (some 5) (.mov (.t 0)),
   .op (some 6) (.lenS (.t 5)),
   .op (some 7) (.mkslice 2 16 [.int .i64 0, .int .i64 0] (.t 6) (.t 6)),
   .op (some 3) (.mov (.t 7))])
 (.keep [0, 3] (.seq (.seq (.ops [.op (some 4) (.mov (.k (.int .i64 0)))])
  (.keep [0, 3, 4] (.block 0 (.loop (.seq (.seq (.ops [.op (some 8) (.mov (.t 4)),
     .op (some 9) (.mov (.t 0)),
     .op (some 10) (.lenS (.t 9)),
     .op (some 11) (.bin .lss (.t 8) (.t 10))])
   (.keep [0, 3, 4, 11] (.cond (.t 11)
    (.skip)
    (.exit 0))))
   (.keep [0, 3, 4] (.seq (.block 1 (.ops [.op (some 14) (.mov (.t 3)),
     .op (some 15) (.mov (.t 4)),
     .op (some 16) (.mov (.t 0)),
     .op (some 17) (.mov (.t 4)),
     .op (some 18) (.iadr 2 (.t 16) (.t 17)),
     .op (some 19) (.loadN 2 (.t 18)),
     .call (some 20) 89 [.t 19],
     .op (some 21) (.iadr 2 (.t 14) (.t 15)),
     .op none (.store 2 (.t 21) (.t 20))]))
   (.keep [0, 3, 4] (.ops [.op (some 12) (.mov (.t 4)),
    .op (some 13) (.bin .add (.t 12) (.k (.int .i64 1))),
    .op (some 4) (.mov (.t 13))])))))))))
 (.keep [3] (.seq (.ops [.op (some 22) (.mov (.t 3)),
   .op (some 2) (.mov (.t 22))])
 (.keep [2] (.ret))))))))
theorem k_c_toTxS_fits : fitsF Tryz.prog 41 ⟨23, k_c_toTxS, [.t 2]⟩ = true := by kernel_rfl
theorem c_toTxS {xs : List GTx} (hw : xs.length ≤ 1048576) : Con Tryz.prog noMv 41 [.d (.sl 2 (xs.map GTx.row))] [] (fun r h => r = .osl 0 2 0 xs.length ∧ h = [(0, .rows 2 (xs.map GTx.row))]) := by
 refine con_of2 k_c_toTxS_fits rfl fun C hP hmv => ?_
 unfold k_c_toTxS
 refine cx_seq (cx_ops ?_)
 refine ax_q (q_mov rfl) ?_
 refine ax_nil (cx_keep rfl rfl (cx_seq (cx_ops ?_)))
 refine ax_q (q_mov rfl) ?_
 refine ax_q (q_lenS_map rfl) ?_
 refine ax_ee (e_mkslice rfl rfl rfl (by omega) (by omega) (by omega) (by decide) rfl rfl) (by rw [Int.toNat_natCast]) ?_
 refine ax_q (q_mov rfl) ?_
 refine ax_nil (cx_keep rfl rfl (cx_seq (cx_seq (cx_ops ?_))))
 refine ax_q (q_mov rfl) ?_
 refine ax_nil (cx_keep rfl rfl (cx_block ?_))
 refine cx_loopU (fun n k => k ≤ xs.length ∧ n = xs.length - k) (fun k : Nat => [(4, int k)]) (fun k => [(7, .rows 2 ((xs.take k).map GTx.row ++ List.replicate (xs.length - k) [.int .i64 0, .int .i64 0]))]) ⟨_, 0, ⟨Nat.zero_le _, rfl⟩, by repeat constructor⟩ ?_
 rintro n k ⟨hk, rfl⟩
 refine cx_seq (cx_seq (cx_ops ?_))
 refine ax_q (q_mov rfl) ?_
 refine ax_q (q_mov rfl) ?_
 refine ax_q (q_lenS_map rfl) ?_
 refine ax_q (q_ibin rfl rfl rfl) ?_
 refine ax_nil (cx_keep rfl rfl ?_)
 refine cx_cond rfl (fun h0 => ?_) (fun h0 => ?_)
 ·
  have h0 := dT h0
  have h1x : k < xs.length := by omega
  refine cx_skip ?_
  refine cx_keep rfl rfl (cx_seq (cx_block (cx_ops ?_)))
  refine ax_q (q_mov rfl) ?_
  refine ax_q (q_mov rfl) ?_
  refine ax_q (q_mov rfl) ?_
  refine ax_q (q_mov rfl) ?_
  refine ax_q (q_ix rfl rfl (mapAt h1x)) ?_
  first | refine ax_q (q_ldN rfl rfl rfl) ?_ | refine ax_q (q_loadN_ip rfl (Nat.le_refl _)) ?_
  refine ax_call rfl (vc_pure0 (c_toTx  ) hP rfl rfl ?_)
  refine ax_q (q_ixo rfl rfl h1x) ?_
  refine ax_e (e_str (q := GTx.row xs[k]) rfl rfl rfl rfl rfl rfl (fillAtL h1x) rfl rfl (fillSetL h1x)) ?_
  refine ax_nil (cx_keep rfl rfl (cx_ops ?_))
  refine ax_q (q_mov rfl) ?_
  refine ax_q (q_add rfl rfl (by omega)) ?_
  refine ax_q (q_mov rfl) ?_
  refine ax_nil ?_
  exact ⟨_, k + 1, by omega, ⟨by omega, rfl⟩, by repeat constructor⟩
 ·
  have h0 := dF h0
  refine cx_exit rfl ?_
  refine cx_keep rfl rfl (cx_seq (cx_ops ?_))
  refine ax_q (q_mov rfl) ?_
  refine ax_q (q_mov rfl) ?_
  refine ax_nil (cx_keep rfl rfl ?_)
  refine cx_ret (retN (fun _ => 0) [7] rfl rfl rfl rfl rfl ?_)
  exact ⟨rfl, by rw [show k = xs.length from by omega, List.take_length, Nat.sub_self, List.replicate_zero, List.append_nil]; rfl⟩


/- loop.example/g00332/laws.toLock -/
def k_c_toLock : XCode :=
 .seq (.ops [.op (some 1) (.box (.t 0)),
   .op (some 2) (.alloc [.int .i64 0, .int .i64 0, .int .i64 0, .int .i64 0])])
 (.keep [1, 2] (.seq (.ops [.op (some 3) (.alloc [.int .i64 0, .int .i64 0, .int .i64 0, .int .i64 0])])
 (.keep [1, 2, 3] (.seq (.ops [.op (some 4) (.fadr (.t 1) 0),
   .op (some 5) (.load1 (.t 4)),
   .op (some 6) (.fadr (.t 3) 0),
   .op none (.store 1 (.t 6) (.t 5))])
 (.keep [1, 2, 3] (.seq (.ops [.op (some 7) (.fadr (.t 1) 1),
   .op (some 8) (.load1 (.t 7)),
   .op (some 9) (.fadr (.t 3) 1),
   .op none (.store 1 (.t 9) (.t 8))])
 (.keep [1, 2, 3] (.seq (.ops [.op (some 10) (.fadr (.t 1) 2),
   .op (some 11) (.load1 (.t 10)),
   .op (some 12) (.fadr (.t 3) 2),
   .op none (.store 1 (.t 12) (.t 11))])
 (.keep [1, 2, 3] (.seq (.ops [.op (some 13) (.fadr (.t 1) 3),
   .op (some 14) (.load1 (.t 13)),
   .op (some 15) (.fadr (.t 3) 3),
   .op none (.store 1 (.t 15) (.t 14))])
 (.keep [2, 3] (.seq (.ops [.op (some 16) (.loadN 4 (.t 3)),
   .op none (.store 4 (.t 2) (.t 16))])
 (.keep [2] (.ret))))))))))))))
theorem k_c_toLock_fits : fitsF Tryz.prog 163 ⟨17, k_c_toLock, [.cN 2 4]⟩ = true := by kernel_rfl
theorem c_toLock {a : GLock} : Con Tryz.prog noMv 163 [a.av] [] (fun r h => r = a.av ∧ h = []) := by
 refine con_of2 k_c_toLock_fits rfl fun C hP hmv => ?_
 unfold k_c_toLock
 refine cx_seq (cx_ops ?_)
 refine ax_e (e_box rfl rfl (by decide) rfl rfl rfl) ?_
 refine ax_e (e_alloc (by decide) rfl rfl) ?_
 refine ax_nil (cx_keep rfl rfl (cx_seq (cx_ops ?_)))
 refine ax_e (e_alloc (by decide) rfl rfl) ?_
 refine ax_nil (cx_keep rfl rfl (cx_seq (cx_ops ?_)))
 refine ax_q (q_fadr_ptr rfl) ?_
 refine ax_q (q_load1_ptr rfl rfl rfl) ?_
 refine ax_q (q_fadr_ptr rfl) ?_
 refine ax_e (e_st rfl rfl rfl rfl rfl rfl rfl) ?_
 refine ax_nil (cx_keep rfl rfl (cx_seq (cx_ops ?_)))
 refine ax_q (q_fadr_ptr rfl) ?_
 refine ax_q (q_load1_ptr rfl rfl rfl) ?_
 refine ax_q (q_fadr_ptr rfl) ?_
 refine ax_e (e_st rfl rfl rfl rfl rfl rfl rfl) ?_
 refine ax_nil (cx_keep rfl rfl (cx_seq (cx_ops ?_)))
 refine ax_q (q_fadr_ptr rfl) ?_
 refine ax_q (q_load1_ptr rfl rfl rfl) ?_
 refine ax_q (q_fadr_ptr rfl) ?_
 refine ax_e (e_st rfl rfl rfl rfl rfl rfl rfl) ?_
 refine ax_nil (cx_keep rfl rfl (cx_seq (cx_ops ?_)))
 refine ax_q (q_fadr_ptr rfl) ?_
 refine ax_q (q_load1_ptr rfl rfl rfl) ?_
 refine ax_q (q_fadr_ptr rfl) ?_
 refine ax_e (e_st rfl rfl rfl rfl rfl rfl rfl) ?_
 refine ax_nil (cx_keep rfl rfl (cx_seq (cx_ops ?_)))
 refine ax_q (q_ldN rfl rfl rfl) ?_
 refine ax_e (e_st rfl rfl rfl rfl rfl rfl rfl) ?_
 refine ax_nil (cx_keep rfl rfl ?_)
 refine cx_ret (ret0 rfl rfl ?_)
 exact ⟨rfl, rfl⟩


/- loop.example/g00332/laws.toLockS -/
def k_c_toLockS : XCode :=
 .seq (.ops [.op (some 2) (.mov (.k (.nils 4)))])
 (.keep [0] (.seq (.ops [.op (some 5) (.mov (.t 0)),
   .op (some 6) (.lenS (.t 5)),
   .op (some 7) (.mkslice 4 32 [.int .i64 0, .int .i64 0, .int .i64 0, .int .i64 0] (.t 6) (.t 6)),
   .op (some 3) (.mov (.t 7))])
 (.keep [0, 3] (.seq (.seq (.ops [.op (some 4) (.mov (.k (.int .i64 0)))])
  (.keep [0, 3, 4] (.block 0 (.loop (.seq (.seq (.ops [.op (some 8) (.mov (.t 4)),
     .op (some 9) (.mov (.t 0)),
     .op (some 10) (.lenS (.t 9)),
     .op (some 11) (.bin .lss (.t 8) (.t 10))])
   (.keep [0, 3, 4, 11] (.cond (.t 11)
    (.skip)
    (.exit 0))))
   (.keep [0, 3, 4] (.seq (.block 1 (.ops [.op (some 14) (.mov (.t 3)),
     .op (some 15) (.mov (.t 4)),
     .op (some 16) (.mov (.t 0)),
     .op (some 17) (.mov (.t 4)),
     .op (some 18) (.iadr 4 (.t 16) (.t 17)),
     .op (some 19) (.loadN 4 (.t 18)),
     .call (some 20) 163 [.t 19],
     .op (some 21) (.iadr 4 (.t 14) (.t 15)),
     .op none (.store 4 (.t 21) (.t 20))]))
   (.keep [0, 3, 4] (.ops [.op (some 12) (.mov (.t 4)),
    .op (some 13) (.bin .add (.t 12) (.k (.int .i64 1))),
    .op (some 4) (.mov (.t 13))])))))))))
 (.keep [3] (.seq (.ops [.op (some 22) (.mov (.t 3)),
   .op (some 2) (.mov (.t 22))])
 (.keep [2] (.ret))))))))
theorem k_c_toLockS_fits : fitsF Tryz.prog 90 ⟨23, k_c_toLockS, [.t 2]⟩ = true := by kernel_rfl
theorem c_toLockS {xs : List GLock} (hw : xs.length ≤ 1048576) : Con Tryz.prog noMv 90 [.d (.sl 4 (xs.map GLock.row))] [] (fun r h => r = .osl 0 4 0 xs.length ∧ h = [(0, .rows 4 (xs.map GLock.row))]) := by
 refine con_of2 k_c_toLockS_fits rfl fun C hP hmv => ?_
 unfold k_c_toLockS
 refine cx_seq (cx_ops ?_)
 refine ax_q (q_mov rfl) ?_
 refine ax_nil (cx_keep rfl rfl (cx_seq (cx_ops ?_)))
 refine ax_q (q_mov rfl) ?_
 refine ax_q (q_lenS_map rfl) ?_
 refine ax_ee (e_mkslice rfl rfl rfl (by omega) (by omega) (by omega) (by decide) rfl rfl) (by rw [Int.toNat_natCast]) ?_
 refine ax_q (q_mov rfl) ?_
 refine ax_nil (cx_keep rfl rfl (cx_seq (cx_seq (cx_ops ?_))))
 refine ax_q (q_mov rfl) ?_
 refine ax_nil (cx_keep rfl rfl (cx_block ?_))
 refine cx_loopU (fun n k => k ≤ xs.length ∧ n = xs.length - k) (fun k : Nat => [(4, int k)]) (fun k => [(7, .rows 4 ((xs.take k).map GLock.row ++ List.replicate (xs.length - k) [.int .i64 0, .int .i64 0, .int .i64 0, .int .i64 0]))]) ⟨_, 0, ⟨Nat.zero_le _, rfl⟩, by repeat constructor⟩ ?_
 rintro n k ⟨hk, rfl⟩
 refine cx_seq (cx_seq (cx_ops ?_))
 refine ax_q (q_mov rfl) ?_
 refine ax_q (q_mov rfl) ?_
 refine ax_q (q_lenS_map rfl) ?_
 refine ax_q (q_ibin rfl rfl rfl) ?_
 refine ax_nil (cx_keep rfl rfl ?_)
 refine cx_cond rfl (fun h0 => ?_) (fun h0 => ?_)
 ·
  have h0 := dT h0
  have h1x : k < xs.length := by omega
  refine cx_skip ?_
  refine cx_keep rfl rfl (cx_seq (cx_block (cx_ops ?_)))
  refine ax_q (q_mov rfl) ?_
  refine ax_q (q_mov rfl) ?_
  refine ax_q (q_mov rfl) ?_
  refine ax_q (q_mov rfl) ?_
  refine ax_q (q_ix rfl rfl (mapAt h1x)) ?_
  first | refine ax_q (q_ldN rfl rfl rfl) ?_ | refine ax_q (q_loadN_ip rfl (Nat.le_refl _)) ?_
  refine ax_call rfl (vc_pure0 (c_toLock  ) hP rfl rfl ?_)
  refine ax_q (q_ixo rfl rfl h1x) ?_
  refine ax_e (e_str (q := GLock.row xs[k]) rfl rfl rfl rfl rfl rfl (fillAtL h1x) rfl rfl (fillSetL h1x)) ?_
  refine ax_nil (cx_keep rfl rfl (cx_ops ?_))
  refine ax_q (q_mov rfl) ?_
  refine ax_q (q_add rfl rfl (by omega)) ?_
  refine ax_q (q_mov rfl) ?_
  refine ax_nil ?_
  exact ⟨_, k + 1, by omega, ⟨by omega, rfl⟩, by repeat constructor⟩
 ·
  have h0 := dF h0
  refine cx_exit rfl ?_
  refine cx_keep rfl rfl (cx_seq (cx_ops ?_))
  refine ax_q (q_mov rfl) ?_
  refine ax_q (q_mov rfl) ?_
  refine ax_nil (cx_keep rfl rfl ?_)
  refine cx_ret (retN (fun _ => 0) [7] rfl rfl rfl rfl rfl ?_)
  exact ⟨rfl, by rw [show k = xs.length from by omega, List.take_length, Nat.sub_self, List.replicate_zero, List.append_nil]; rfl⟩


/- loop.example/g00332/laws.toWait -/
def k_c_toWait : XCode :=
 .seq (.ops [.op (some 1) (.box (.t 0)),
   .op (some 2) (.alloc [.int .i64 0, .int .i64 0])])
 (.keep [1, 2] (.seq (.ops [.op (some 3) (.alloc [.int .i64 0, .int .i64 0])])
 (.keep [1, 2, 3] (.seq (.ops [.op (some 4) (.fadr (.t 1) 0),
   .op (some 5) (.load1 (.t 4)),
   .op (some 6) (.fadr (.t 3) 0),
   .op none (.store 1 (.t 6) (.t 5))])
 (.keep [1, 2, 3] (.seq (.ops [.op (some 7) (.fadr (.t 1) 1),
   .op (some 8) (.load1 (.t 7)),
   .op (some 9) (.fadr (.t 3) 1),
   .op none (.store 1 (.t 9) (.t 8))])
 (.keep [2, 3] (.seq (.ops [.op (some 10) (.loadN 2 (.t 3)),
   .op none (.store 2 (.t 2) (.t 10))])
 (.keep [2] (.ret))))))))))
theorem k_c_toWait_fits : fitsF Tryz.prog 164 ⟨11, k_c_toWait, [.cN 2 2]⟩ = true := by kernel_rfl
theorem c_toWait {a : GWait} : Con Tryz.prog noMv 164 [a.av] [] (fun r h => r = a.av ∧ h = []) := by
 refine con_of2 k_c_toWait_fits rfl fun C hP hmv => ?_
 unfold k_c_toWait
 refine cx_seq (cx_ops ?_)
 refine ax_e (e_box rfl rfl (by decide) rfl rfl rfl) ?_
 refine ax_e (e_alloc (by decide) rfl rfl) ?_
 refine ax_nil (cx_keep rfl rfl (cx_seq (cx_ops ?_)))
 refine ax_e (e_alloc (by decide) rfl rfl) ?_
 refine ax_nil (cx_keep rfl rfl (cx_seq (cx_ops ?_)))
 refine ax_q (q_fadr_ptr rfl) ?_
 refine ax_q (q_load1_ptr rfl rfl rfl) ?_
 refine ax_q (q_fadr_ptr rfl) ?_
 refine ax_e (e_st rfl rfl rfl rfl rfl rfl rfl) ?_
 refine ax_nil (cx_keep rfl rfl (cx_seq (cx_ops ?_)))
 refine ax_q (q_fadr_ptr rfl) ?_
 refine ax_q (q_load1_ptr rfl rfl rfl) ?_
 refine ax_q (q_fadr_ptr rfl) ?_
 refine ax_e (e_st rfl rfl rfl rfl rfl rfl rfl) ?_
 refine ax_nil (cx_keep rfl rfl (cx_seq (cx_ops ?_)))
 refine ax_q (q_ldN rfl rfl rfl) ?_
 refine ax_e (e_st rfl rfl rfl rfl rfl rfl rfl) ?_
 refine ax_nil (cx_keep rfl rfl ?_)
 refine cx_ret (ret0 rfl rfl ?_)
 exact ⟨rfl, rfl⟩


/- loop.example/g00332/laws.toWaitS -/
def k_c_toWaitS : XCode :=
 .seq (.ops [.op (some 2) (.mov (.k (.nils 2)))])
 (.keep [0] (.seq (.ops [.op (some 5) (.mov (.t 0)),
   .op (some 6) (.lenS (.t 5)),
   .op (some 7) (.mkslice 2 16 [.int .i64 0, .int .i64 0] (.t 6) (.t 6)),
   .op (some 3) (.mov (.t 7))])
 (.keep [0, 3] (.seq (.seq (.ops [.op (some 4) (.mov (.k (.int .i64 0)))])
  (.keep [0, 3, 4] (.block 0 (.loop (.seq (.seq (.ops [.op (some 8) (.mov (.t 4)),
     .op (some 9) (.mov (.t 0)),
     .op (some 10) (.lenS (.t 9)),
     .op (some 11) (.bin .lss (.t 8) (.t 10))])
   (.keep [0, 3, 4, 11] (.cond (.t 11)
    (.skip)
    (.exit 0))))
   (.keep [0, 3, 4] (.seq (.block 1 (.ops [.op (some 14) (.mov (.t 3)),
     .op (some 15) (.mov (.t 4)),
     .op (some 16) (.mov (.t 0)),
     .op (some 17) (.mov (.t 4)),
     .op (some 18) (.iadr 2 (.t 16) (.t 17)),
     .op (some 19) (.loadN 2 (.t 18)),
     .call (some 20) 164 [.t 19],
     .op (some 21) (.iadr 2 (.t 14) (.t 15)),
     .op none (.store 2 (.t 21) (.t 20))]))
   (.keep [0, 3, 4] (.ops [.op (some 12) (.mov (.t 4)),
    .op (some 13) (.bin .add (.t 12) (.k (.int .i64 1))),
    .op (some 4) (.mov (.t 13))])))))))))
 (.keep [3] (.seq (.ops [.op (some 22) (.mov (.t 3)),
   .op (some 2) (.mov (.t 22))])
 (.keep [2] (.ret))))))))
theorem k_c_toWaitS_fits : fitsF Tryz.prog 91 ⟨23, k_c_toWaitS, [.t 2]⟩ = true := by kernel_rfl
theorem c_toWaitS {xs : List GWait} (hw : xs.length ≤ 1048576) : Con Tryz.prog noMv 91 [.d (.sl 2 (xs.map GWait.row))] [] (fun r h => r = .osl 0 2 0 xs.length ∧ h = [(0, .rows 2 (xs.map GWait.row))]) := by
 refine con_of2 k_c_toWaitS_fits rfl fun C hP hmv => ?_
 unfold k_c_toWaitS
 refine cx_seq (cx_ops ?_)
 refine ax_q (q_mov rfl) ?_
 refine ax_nil (cx_keep rfl rfl (cx_seq (cx_ops ?_)))
 refine ax_q (q_mov rfl) ?_
 refine ax_q (q_lenS_map rfl) ?_
 refine ax_ee (e_mkslice rfl rfl rfl (by omega) (by omega) (by omega) (by decide) rfl rfl) (by rw [Int.toNat_natCast]) ?_
 refine ax_q (q_mov rfl) ?_
 refine ax_nil (cx_keep rfl rfl (cx_seq (cx_seq (cx_ops ?_))))
 refine ax_q (q_mov rfl) ?_
 refine ax_nil (cx_keep rfl rfl (cx_block ?_))
 refine cx_loopU (fun n k => k ≤ xs.length ∧ n = xs.length - k) (fun k : Nat => [(4, int k)]) (fun k => [(7, .rows 2 ((xs.take k).map GWait.row ++ List.replicate (xs.length - k) [.int .i64 0, .int .i64 0]))]) ⟨_, 0, ⟨Nat.zero_le _, rfl⟩, by repeat constructor⟩ ?_
 rintro n k ⟨hk, rfl⟩
 refine cx_seq (cx_seq (cx_ops ?_))
 refine ax_q (q_mov rfl) ?_
 refine ax_q (q_mov rfl) ?_
 refine ax_q (q_lenS_map rfl) ?_
 refine ax_q (q_ibin rfl rfl rfl) ?_
 refine ax_nil (cx_keep rfl rfl ?_)
 refine cx_cond rfl (fun h0 => ?_) (fun h0 => ?_)
 ·
  have h0 := dT h0
  have h1x : k < xs.length := by omega
  refine cx_skip ?_
  refine cx_keep rfl rfl (cx_seq (cx_block (cx_ops ?_)))
  refine ax_q (q_mov rfl) ?_
  refine ax_q (q_mov rfl) ?_
  refine ax_q (q_mov rfl) ?_
  refine ax_q (q_mov rfl) ?_
  refine ax_q (q_ix rfl rfl (mapAt h1x)) ?_
  first | refine ax_q (q_ldN rfl rfl rfl) ?_ | refine ax_q (q_loadN_ip rfl (Nat.le_refl _)) ?_
  refine ax_call rfl (vc_pure0 (c_toWait  ) hP rfl rfl ?_)
  refine ax_q (q_ixo rfl rfl h1x) ?_
  refine ax_e (e_str (q := GWait.row xs[k]) rfl rfl rfl rfl rfl rfl (fillAtL h1x) rfl rfl (fillSetL h1x)) ?_
  refine ax_nil (cx_keep rfl rfl (cx_ops ?_))
  refine ax_q (q_mov rfl) ?_
  refine ax_q (q_add rfl rfl (by omega)) ?_
  refine ax_q (q_mov rfl) ?_
  refine ax_nil ?_
  exact ⟨_, k + 1, by omega, ⟨by omega, rfl⟩, by repeat constructor⟩
 ·
  have h0 := dF h0
  refine cx_exit rfl ?_
  refine cx_keep rfl rfl (cx_seq (cx_ops ?_))
  refine ax_q (q_mov rfl) ?_
  refine ax_q (q_mov rfl) ?_
  refine ax_nil (cx_keep rfl rfl ?_)
  refine cx_ret (retN (fun _ => 0) [7] rfl rfl rfl rfl rfl ?_)
  exact ⟨rfl, by rw [show k = xs.length from by omega, List.take_length, Nat.sub_self, List.replicate_zero, List.append_nil]; rfl⟩


/- loop.example/g00332/laws.toLocks -/
def k_c_toLocks : XCode :=
 .seq (.ops [.op (some 1) (.box (.t 0)),
   .op (some 2) (.alloc [.nils 4, .nils 2])])
 (.keep [1, 2] (.seq (.ops [.op (some 3) (.alloc [.nils 4, .nils 2])])
 (.keep [1, 2, 3] (.seq (.ops [.op (some 4) (.fadr (.t 1) 0),
   .op (some 5) (.load1 (.t 4)),
   .call (some 6) 90 [.t 5],
   .op (some 7) (.fadr (.t 3) 0),
   .op none (.store 1 (.t 7) (.t 6))])
 (.keep [1, 2, 3] (.seq (.ops [.op (some 8) (.fadr (.t 1) 1),
   .op (some 9) (.load1 (.t 8)),
   .call (some 10) 91 [.t 9],
   .op (some 11) (.fadr (.t 3) 1),
   .op none (.store 1 (.t 11) (.t 10))])
 (.keep [2, 3] (.seq (.ops [.op (some 12) (.loadN 2 (.t 3)),
   .op none (.store 2 (.t 2) (.t 12))])
 (.keep [2] (.ret))))))))))
theorem k_c_toLocks_fits : fitsF Tryz.prog 42 ⟨13, k_c_toLocks, [.cN 2 2]⟩ = true := by kernel_rfl
theorem c_toLocks {a : GLocks} (hw0 : a.Held.length ≤ 1048576) (hw1 : a.Waits.length ≤ 1048576) : Con Tryz.prog noMv 42 [a.av] [] (fun r h => r = a.avO 0 1 ∧ h = a.hO 0 1) := by
 refine con_of2 k_c_toLocks_fits rfl fun C hP hmv => ?_
 unfold k_c_toLocks
 refine cx_seq (cx_ops ?_)
 refine ax_e (e_box rfl rfl (by decide) rfl rfl rfl) ?_
 refine ax_e (e_alloc (by decide) rfl rfl) ?_
 refine ax_nil (cx_keep rfl rfl (cx_seq (cx_ops ?_)))
 refine ax_e (e_alloc (by decide) rfl rfl) ?_
 refine ax_nil (cx_keep rfl rfl (cx_seq (cx_ops ?_)))
 refine ax_q (q_fadr_ptr rfl) ?_
 refine ax_q (q_load1_ptr rfl rfl rfl) ?_
 refine ax_call rfl (vc_pure (c_toLockS  ?_) hP rfl ?_)
 ·
  assumption
 rintro r h ⟨rfl, rfl⟩
 refine ⟨fun i => 6 + 200 * i, [0], ⟨rfl, rfl, rfl, rfl, rfl, (by first | exact (fun h => absurd h Bool.false_ne_true) | exact (fun _ => ⟨rfl, (noisl_of (by repeat (first | exact trivial | refine ⟨noisl_map (fun _ => rfl), ?_⟩ | refine ⟨?_, ?_⟩)))⟩))⟩, ?_⟩
 skip
 refine ax_q (q_fadr_ptr rfl) ?_
 refine ax_e (e_st rfl rfl rfl rfl rfl rfl rfl) ?_
 refine ax_nil (cx_keep rfl rfl (cx_seq (cx_ops ?_)))
 refine ax_q (q_fadr_ptr rfl) ?_
 refine ax_q (q_load1_ptr rfl rfl rfl) ?_
 refine ax_call rfl (vc_pure (c_toWaitS  ?_) hP rfl ?_)
 ·
  assumption
 rintro r h ⟨rfl, rfl⟩
 refine ⟨fun i => 10 + 200 * i, [0], ⟨rfl, rfl, rfl, rfl, rfl, (by first | exact (fun h => absurd h Bool.false_ne_true) | exact (fun _ => ⟨rfl, (noisl_of (by repeat (first | exact trivial | refine ⟨noisl_map (fun _ => rfl), ?_⟩ | refine ⟨?_, ?_⟩)))⟩))⟩, ?_⟩
 skip
 refine ax_q (q_fadr_ptr rfl) ?_
 refine ax_e (e_st rfl rfl rfl rfl rfl rfl rfl) ?_
 refine ax_nil (cx_keep rfl rfl (cx_seq (cx_ops ?_)))
 refine ax_q (q_ldN rfl rfl rfl) ?_
 refine ax_e (e_st rfl rfl rfl rfl rfl rfl rfl) ?_
 refine ax_nil (cx_keep rfl rfl ?_)
 refine cx_ret (retN (fun e => bif Nat.beq e 10 then 1 else 0) [6, 10] rfl rfl rfl rfl rfl ?_)
 exact ⟨rfl, rfl⟩


/- loop.example/g00332/laws.toEngine -/
def k_c_toEngine : XCode :=
 .seq (.ops [.op (some 1) (.box (.t 0)),
   .op (some 2) (.alloc [.nils 1, .nils 2, .bool false, .nils 1, .int .i64 0, .nils 10, .int .i64 0, .nils 5, .int .i64 0, .bool false, .nils 2, .nils 4, .nils 2, .int .i64 0])])
 (.keep [1, 2] (.seq (.ops [.op (some 3) (.alloc [.nils 1, .nils 2, .bool false, .nils 1, .int .i64 0, .nils 10, .int .i64 0, .nils 5, .int .i64 0, .bool false, .nils 2, .nils 4, .nils 2, .int .i64 0])])
 (.keep [1, 2, 3] (.seq (.ops [.op (some 4) (.fadr (.t 1) 0),
   .op (some 5) (.loadN 9 (.t 4)),
   .call (some 6) 16 [.t 5],
   .op (some 7) (.fadr (.t 3) 0),
   .op none (.store 9 (.t 7) (.t 6))])
 (.keep [1, 2, 3] (.seq (.ops [.op (some 8) (.fadr (.t 1) 9),
   .op (some 9) (.load1 (.t 8)),
   .op (some 10) (.fadr (.t 3) 9),
   .op none (.store 1 (.t 10) (.t 9))])
 (.keep [1, 2, 3] (.seq (.ops [.op (some 11) (.fadr (.t 1) 10),
   .op (some 12) (.load1 (.t 11)),
   .call (some 13) 41 [.t 12],
   .op (some 14) (.fadr (.t 3) 10),
   .op none (.store 1 (.t 14) (.t 13))])
 (.keep [1, 2, 3] (.seq (.ops [.op (some 15) (.fadr (.t 1) 11),
   .op (some 16) (.loadN 2 (.t 15)),
   .call (some 17) 42 [.t 16],
   .op (some 18) (.fadr (.t 3) 11),
   .op none (.store 2 (.t 18) (.t 17))])
 (.keep [1, 2, 3] (.seq (.ops [.op (some 19) (.fadr (.t 1) 13),
   .op (some 20) (.load1 (.t 19)),
   .op (some 21) (.fadr (.t 3) 13),
   .op none (.store 1 (.t 21) (.t 20))])
 (.keep [2, 3] (.seq (.ops [.op (some 22) (.loadN 14 (.t 3)),
   .op none (.store 14 (.t 2) (.t 22))])
 (.keep [2] (.ret))))))))))))))))
theorem k_c_toEngine_fits : fitsF Tryz.prog 9 ⟨23, k_c_toEngine, [.cN 2 14]⟩ = true := by kernel_rfl
theorem c_toEngine {a : GEngine} (hb : EnB a) : Con Tryz.prog noMv 9 [a.av] [] (fun r h => r = a.av ∧ h = []) := by
 refine con_of2 k_c_toEngine_fits rfl fun C hP hmv => ?_
 unfold k_c_toEngine
 obtain ⟨hs, hw0, hw1, hw2, hw3⟩ := hb
 refine cx_seq (cx_ops ?_)
 refine ax_e (e_box rfl rfl (by decide) rfl rfl rfl) ?_
 refine ax_e (e_alloc (by decide) rfl rfl) ?_
 refine ax_nil (cx_keep rfl rfl (cx_seq (cx_ops ?_)))
 refine ax_e (e_alloc (by decide) rfl rfl) ?_
 refine ax_nil (cx_keep rfl rfl (cx_seq (cx_ops ?_)))
 refine ax_q (q_fadr_ptr rfl) ?_
 refine ax_q (q_ldN rfl rfl rfl) ?_
 refine ax_call rfl (vc_pure0 (c_toStore (a := a.Store) ?_) hP rfl rfl ?_)
 ·
  exact hs
 refine ax_q (q_fadr_ptr rfl) ?_
 refine ax_e (e_st rfl rfl rfl rfl rfl rfl rfl) ?_
 refine ax_nil (cx_keep rfl rfl (cx_seq (cx_ops ?_)))
 refine ax_q (q_fadr_ptr rfl) ?_
 refine ax_q (q_load1_ptr rfl rfl rfl) ?_
 refine ax_q (q_fadr_ptr rfl) ?_
 refine ax_e (e_st rfl rfl rfl rfl rfl rfl rfl) ?_
 refine ax_nil (cx_keep rfl rfl (cx_seq (cx_ops ?_)))
 refine ax_q (q_fadr_ptr rfl) ?_
 refine ax_q (q_load1_ptr rfl rfl rfl) ?_
 refine ax_call rfl (vc_pure (c_toTxS  ?_) hP rfl ?_)
 ·
  assumption
 rintro r h ⟨rfl, rfl⟩
 refine ⟨fun i => 13 + 200 * i, [0], ⟨rfl, rfl, rfl, rfl, rfl, (by first | exact (fun h => absurd h Bool.false_ne_true) | exact (fun _ => ⟨rfl, (noisl_of (by repeat (first | exact trivial | refine ⟨noisl_map (fun _ => rfl), ?_⟩ | refine ⟨?_, ?_⟩)))⟩))⟩, ?_⟩
 skip
 refine ax_wk (wk_frz 13 13 rfl rfl (.whole (List.length_map _).symm) rfl) ?_
 refine ax_q (q_fadr_ptr rfl) ?_
 refine ax_e (e_st rfl rfl rfl rfl rfl rfl rfl) ?_
 refine ax_nil (cx_keep rfl rfl (cx_seq (cx_ops ?_)))
 refine ax_q (q_fadr_ptr rfl) ?_
 refine ax_q (q_ldN rfl rfl rfl) ?_
 refine ax_call rfl (vc_pure (c_toLocks  ?_ ?_) hP rfl ?_)
 ·
  assumption
 ·
  assumption
 rintro r h ⟨rfl, rfl⟩
 refine ⟨fun i => 17 + 200 * i, [0, 1], ⟨rfl, rfl, rfl, rfl, rfl, (by first | exact (fun h => absurd h Bool.false_ne_true) | exact (fun _ => ⟨rfl, (noisl_of (by repeat (first | exact trivial | refine ⟨noisl_map (fun _ => rfl), ?_⟩ | refine ⟨?_, ?_⟩)))⟩))⟩, ?_⟩
 skip
 refine ax_wk (wk_frz 17 17 rfl rfl (.agg (.cons (.whole (List.length_map _).symm) (.cons (.same rfl) .nil))) rfl) ?_
 refine ax_wk (wk_frz 17 217 rfl rfl (.agg (.cons (.same rfl) (.cons (.whole (List.length_map _).symm) .nil))) rfl) ?_
 refine ax_q (q_fadr_ptr rfl) ?_
 refine ax_e (e_st rfl rfl rfl rfl rfl rfl rfl) ?_
 refine ax_nil (cx_keep rfl rfl (cx_seq (cx_ops ?_)))
 refine ax_q (q_fadr_ptr rfl) ?_
 refine ax_q (q_load1_ptr rfl rfl rfl) ?_
 refine ax_q (q_fadr_ptr rfl) ?_
 refine ax_e (e_st rfl rfl rfl rfl rfl rfl rfl) ?_
 refine ax_nil (cx_keep rfl rfl (cx_seq (cx_ops ?_)))
 refine ax_q (q_ldN rfl rfl rfl) ?_
 refine ax_e (e_st rfl rfl rfl rfl rfl rfl rfl) ?_
 refine ax_nil (cx_keep rfl rfl ?_)
 refine cx_ret (ret0 rfl rfl ?_)
 exact ⟨rfl, rfl⟩


/- loop.example/g00332/impl.inRange -/
def k_c_inRange : XCode :=
 .seq (.ops [.op (some 6) (.mov (.k (.bool false)))])
 (.keep [0, 1, 2] (.seq (.ops [.op (some 7) (.mov (.t 1)),
   .op (some 8) (.mov (.t 0)),
   .op (some 9) (.bin .leq (.t 7) (.t 8)),
   .op (some 10) (.mov (.t 9)),
   .andor 14 true 3 10 [.op (some 11) (.mov (.t 0)), .op (some 12) (.mov (.t 2)), .op (some 13) (.bin .leq (.t 11) (.t 12))] (.t 13),
   .op (some 6) (.mov (.t 14))])
 (.keep [6] (.ret))))
theorem k_c_inRange_fits : fitsF Tryz.prog 63 ⟨15, k_c_inRange, [.t 6]⟩ = true := by kernel_rfl
theorem c_inRange {n lo hi : Int} : Con Tryz.prog noMv 63 [int n, int lo, int hi] [] (fun r h => r = bool (inR n lo hi) ∧ h = []) := by
 refine con_of2 k_c_inRange_fits rfl fun C hP hmv => ?_
 unfold k_c_inRange
 refine cx_seq (cx_ops ?_)
 refine ax_q (q_mov rfl) ?_
 refine ax_nil (cx_keep rfl rfl (cx_seq (cx_ops ?_)))
 refine ax_q (q_mov rfl) ?_
 refine ax_q (q_mov rfl) ?_
 refine ax_q (q_ibin rfl rfl rfl) ?_
 refine ax_q (q_mov rfl) ?_
 apply ax_and rfl rfl
 ·
  intro g
  have g := dT g
  refine ax_q (q_mov rfl) ?_
  refine ax_q (q_mov rfl) ?_
  refine ax_q (q_ibin rfl rfl rfl) ?_
  exact ax_nil ⟨rfl, by repeat constructor⟩
 refine ax_q (q_mov rfl) ?_
 refine ax_nil (cx_keep rfl rfl ?_)
 refine cx_ret (ret0 rfl rfl ?_)
 exact ⟨rfl, rfl⟩


/- slices.IndexFunc[[]string,string] -/
def k_c_IndexFunc_Str : XCode :=
 .seq (.ops [.op (some 4) (.mov (.k (.int .i64 0)))])
 (.keep [0, 1] (.seq (.seq (.ops [.op (some 6) (.mov (.t 0)),
   .op (some 7) (.lenS (.t 6)),
   .op (some 8) (.mov (.k (.int .i64 0)))])
  (.keep [0, 1, 7, 8] (.block 0 (.loop (.seq (.ops [.op (some 9) (.bin .lss (.t 8) (.t 7))])
   (.keep [0, 1, 7, 8, 9] (.seq (.cond (.t 9)
    (.skip)
    (.exit 0))
   (.keep [0, 1, 7, 8] (.seq (.block 1 (.seq (.ops [.op (some 10) (.mov (.t 8)),
     .op (some 5) (.mov (.t 10))])
    (.keep [0, 1, 5, 7, 8] (.seq (.ops [.op (some 11) (.mov (.t 1)),
     .op (some 12) (.mov (.t 0)),
     .op (some 13) (.mov (.t 5)),
     .op (some 14) (.iadr 1 (.t 12) (.t 13)),
     .op (some 15) (.load1 (.t 14)),
     .callv (some 16) (.t 11) [.t 15]])
    (.keep [0, 1, 5, 7, 8, 16] (.cond (.t 16)
    (.seq (.ops [.op (some 17) (.mov (.t 5)),
      .op (some 4) (.mov (.t 17))])
     (.keep [4] (.ret)))
    (.skip)))))))
   (.keep [0, 1, 7, 8] (.ops [.op (some 18) (.bin .add (.t 8) (.k (.int .i64 1))),
    .op (some 8) (.mov (.t 18))])))))))))))
 (.keep [] (.seq (.ops [.op (some 4) (.mov (.k (.int .i64 (-1))))])
 (.keep [4] (.ret))))))
theorem k_c_IndexFunc_Str_fits : fitsF Tryz.prog 206 ⟨19, k_c_IndexFunc_Str, [.t 4]⟩ = true := by kernel_rfl
theorem c_IndexFunc_Str {xs : List Str} {f : Nat} {ds : List D} (p : Str → Bool) (hw : xs.length ≤ 9223372036854775807) (hb : hasBody Tryz.prog f = true) (hf : ∀ s ∈ xs, Con Tryz.prog noMv f (str s :: ds.map AV.d) [] (fun r h => r = bool (p s) ∧ h = [])) : Con Tryz.prog noMv 206 [.d (.sl 1 (xs.map strRow)), .d (.fn (.func f) ds)] [] (fun r h => r = int (idxOf p xs 0) ∧ h = []) := by
 refine con_of2 k_c_IndexFunc_Str_fits rfl fun C hP hmv => ?_
 unfold k_c_IndexFunc_Str
 refine cx_seq (cx_ops ?_)
 refine ax_q (q_mov rfl) ?_
 refine ax_nil (cx_keep rfl rfl (cx_seq (cx_seq (cx_ops ?_))))
 refine ax_q (q_mov rfl) ?_
 refine ax_q (q_lenS_map rfl) ?_
 refine ax_q (q_mov rfl) ?_
 refine ax_nil (cx_keep rfl rfl (cx_block ?_))
 refine cx_loopU (fun n k => k ≤ xs.length ∧ n = xs.length - k ∧ ∀ i, i < k → ∀ x, xs[i]? = some x → p x = false) (fun k : Nat => [(8, int k)]) (fun _ => []) ⟨_, 0, ⟨by omega, rfl, fun i hi => by omega⟩, by repeat constructor⟩ ?_
 rintro n k ⟨hk, rfl, ht⟩
 refine cx_seq (cx_ops ?_)
 refine ax_q (q_ibin rfl rfl rfl) ?_
 refine ax_nil (cx_keep rfl rfl (cx_seq ?_))
 refine cx_cond rfl (fun h0 => ?_) (fun h0 => ?_)
 ·
  have h0 := dT h0
  have h0x : k < xs.length := by omega
  refine cx_skip ?_
  refine cx_keep rfl rfl (cx_seq (cx_block (cx_seq (cx_ops ?_))))
  refine ax_q (q_mov rfl) ?_
  refine ax_q (q_mov rfl) ?_
  refine ax_nil (cx_keep rfl rfl (cx_seq (cx_ops ?_)))
  refine ax_q (q_mov rfl) ?_
  refine ax_q (q_mov rfl) ?_
  refine ax_q (q_mov rfl) ?_
  refine ax_q (q_ix rfl rfl (mapAt h0x)) ?_
  first | refine ax_q (q_load1_ptr rfl rfl rfl) ?_ | refine ax_q (q_load1_ip rfl) ?_
  refine ax_callvD rfl (by rw [hP]; exact hb) rfl (vc_pure0 (hf _ (List.getElem_mem h0x)) hP (refs_cons rfl ds) rfl ?_)
  refine ax_nil (cx_keep rfl rfl ?_)
  refine cx_cond rfl (fun h1 => ?_) (fun h1 => ?_)
  ·
   skip
   refine cx_seq (cx_ops ?_)
   refine ax_q (q_mov rfl) ?_
   refine ax_q (q_mov rfl) ?_
   refine ax_nil (cx_keep rfl rfl ?_)
   refine cx_ret (ret0 rfl rfl ?_)
   exact ⟨by rw [idxOf_hit h0x ht h1]; rfl, rfl⟩
  ·
   skip
   refine cx_skip ?_
   refine cx_keep rfl rfl (cx_ops ?_)
   refine ax_qe (r' := int ((k + 1 : Nat) : Int)) (q_ibin rfl rfl rfl) (by rw [wi (by omega) (by omega)]; rfl) ?_
   refine ax_q (q_mov rfl) ?_
   refine ax_nil ?_
   exact ⟨_, k + 1, by omega, ⟨by omega, rfl, before_step h0x ht h1⟩, by repeat constructor⟩
 ·
  have h0 := dF h0
  have h0x : k = xs.length := by omega
  refine cx_exit rfl ?_
  refine cx_keep rfl rfl (cx_seq (cx_ops ?_))
  refine ax_q (q_mov rfl) ?_
  refine ax_nil (cx_keep rfl rfl ?_)
  refine cx_ret (ret0 rfl rfl ?_)
  exact ⟨by rw [idxOf_none (fun i hi => ht i (by omega))]; rfl, rfl⟩


/- slices.ContainsFunc[[]string,string] -/
def k_c_ContainsFunc_Str : XCode :=
 .seq (.ops [.op (some 4) (.mov (.k (.bool false)))])
 (.keep [0, 1] (.seq (.ops [.op (some 5) (.mov (.t 0)),
   .op (some 6) (.mov (.t 1)),
   .call (some 7) 206 [.t 5, .t 6],
   .op (some 8) (.bin .geq (.t 7) (.k (.int .i64 0))),
   .op (some 4) (.mov (.t 8))])
 (.keep [4] (.ret))))
theorem k_c_ContainsFunc_Str_fits : fitsF Tryz.prog 142 ⟨9, k_c_ContainsFunc_Str, [.t 4]⟩ = true := by kernel_rfl
theorem c_ContainsFunc_Str {xs : List Str} {f : Nat} {ds : List D} (p : Str → Bool) (hw : xs.length ≤ 9223372036854775807) (hb : hasBody Tryz.prog f = true) (hf : ∀ s ∈ xs, Con Tryz.prog noMv f (str s :: ds.map AV.d) [] (fun r h => r = bool (p s) ∧ h = [])) : Con Tryz.prog noMv 142 [.d (.sl 1 (xs.map strRow)), .d (.fn (.func f) ds)] [] (fun r h => r = bool (xs.any p) ∧ h = []) := by
 refine con_of2 k_c_ContainsFunc_Str_fits rfl fun C hP hmv => ?_
 unfold k_c_ContainsFunc_Str
 refine cx_seq (cx_ops ?_)
 refine ax_q (q_mov rfl) ?_
 refine ax_nil (cx_keep rfl rfl (cx_seq (cx_ops ?_)))
 refine ax_q (q_mov rfl) ?_
 refine ax_q (q_mov rfl) ?_
 refine ax_call rfl (vc_pure0 (c_IndexFunc_Str p hw hb hf) hP rfl rfl ?_)
 refine ax_qe (r' := bool (xs.any p)) (q_ibin rfl rfl rfl) (congrArg AM.bool any_idxOf) ?_
 refine ax_q (q_mov rfl) ?_
 refine ax_nil (cx_keep rfl rfl ?_)
 refine cx_ret (ret0 rfl rfl ?_)
 exact ⟨rfl, rfl⟩


/- loop.example/g00332/impl.DiskOK$1 -/
def k_c_DiskOK1 : XCode :=
 .seq (.ops [.op (some 2) (.mov (.k (.bool false)))])
 (.keep [0] (.seq (.ops [.op (some 3) (.mov (.t 0)),
   .op (some 4) (.lenT (.t 3)),
   .op (some 5) (.bin .gtr (.t 4) (.k (.int .i64 160))),
   .op (some 2) (.mov (.t 5))])
 (.keep [2] (.ret))))
theorem k_c_DiskOK1_fits : fitsF Tryz.prog 143 ⟨6, k_c_DiskOK1, [.t 2]⟩ = true := by kernel_rfl
theorem c_DiskOK1 {s : Str} : Con Tryz.prog noMv 143 [str s] [] (fun r h => r = bool (long160 s) ∧ h = []) := by
 refine con_of2 k_c_DiskOK1_fits rfl fun C hP hmv => ?_
 unfold k_c_DiskOK1
 refine cx_seq (cx_ops ?_)
 refine ax_q (q_mov rfl) ?_
 refine ax_nil (cx_keep rfl rfl (cx_seq (cx_ops ?_)))
 refine ax_q (q_mov rfl) ?_
 refine ax_q (q_lenT rfl) ?_
 refine ax_q (q_ibin rfl rfl rfl) ?_
 refine ax_q (q_mov rfl) ?_
 refine ax_nil (cx_keep rfl rfl ?_)
 refine cx_ret (ret0 rfl rfl ?_)
 exact ⟨rfl, rfl⟩


/- slices.IndexFunc[[]loop.example/g00332/impl.Pending,loop.example/g00332/impl.Pending] -/
def k_c_IndexFunc_Pending : XCode :=
 .seq (.ops [.op (some 4) (.mov (.k (.int .i64 0)))])
 (.keep [0, 1] (.seq (.seq (.ops [.op (some 6) (.mov (.t 0)),
   .op (some 7) (.lenS (.t 6)),
   .op (some 8) (.mov (.k (.int .i64 0)))])
  (.keep [0, 1, 7, 8] (.block 0 (.loop (.seq (.ops [.op (some 9) (.bin .lss (.t 8) (.t 7))])
   (.keep [0, 1, 7, 8, 9] (.seq (.cond (.t 9)
    (.skip)
    (.exit 0))
   (.keep [0, 1, 7, 8] (.seq (.block 1 (.seq (.ops [.op (some 10) (.mov (.t 8)),
     .op (some 5) (.mov (.t 10))])
    (.keep [0, 1, 5, 7, 8] (.seq (.ops [.op (some 11) (.mov (.t 1)),
     .op (some 12) (.mov (.t 0)),
     .op (some 13) (.mov (.t 5)),
     .op (some 14) (.iadr 2 (.t 12) (.t 13)),
     .op (some 15) (.loadN 2 (.t 14)),
     .callv (some 16) (.t 11) [.t 15]])
    (.keep [0, 1, 5, 7, 8, 16] (.cond (.t 16)
    (.seq (.ops [.op (some 17) (.mov (.t 5)),
      .op (some 4) (.mov (.t 17))])
     (.keep [4] (.ret)))
    (.skip)))))))
   (.keep [0, 1, 7, 8] (.ops [.op (some 18) (.bin .add (.t 8) (.k (.int .i64 1))),
    .op (some 8) (.mov (.t 18))])))))))))))
 (.keep [] (.seq (.ops [.op (some 4) (.mov (.k (.int .i64 (-1))))])
 (.keep [4] (.ret))))))
theorem k_c_IndexFunc_Pending_fits : fitsF Tryz.prog 207 ⟨19, k_c_IndexFunc_Pending, [.t 4]⟩ = true := by kernel_rfl
theorem c_IndexFunc_Pending {xs : List GPending} {f : Nat} {ds : List D} (p : GPending → Bool) (hw : xs.length ≤ 9223372036854775807) (hb : hasBody Tryz.prog f = true) (hf : ∀ s ∈ xs, Con Tryz.prog noMv f (s.av :: ds.map AV.d) [] (fun r h => r = bool (p s) ∧ h = [])) : Con Tryz.prog noMv 207 [.d (.sl 2 (xs.map GPending.row)), .d (.fn (.func f) ds)] [] (fun r h => r = int (idxOf p xs 0) ∧ h = []) := by
 refine con_of2 k_c_IndexFunc_Pending_fits rfl fun C hP hmv => ?_
 unfold k_c_IndexFunc_Pending
 refine cx_seq (cx_ops ?_)
 refine ax_q (q_mov rfl) ?_
 refine ax_nil (cx_keep rfl rfl (cx_seq (cx_seq (cx_ops ?_))))
 refine ax_q (q_mov rfl) ?_
 refine ax_q (q_lenS_map rfl) ?_
 refine ax_q (q_mov rfl) ?_
 refine ax_nil (cx_keep rfl rfl (cx_block ?_))
 refine cx_loopU (fun n k => k ≤ xs.length ∧ n = xs.length - k ∧ ∀ i, i < k → ∀ x, xs[i]? = some x → p x = false) (fun k : Nat => [(8, int k)]) (fun _ => []) ⟨_, 0, ⟨by omega, rfl, fun i hi => by omega⟩, by repeat constructor⟩ ?_
 rintro n k ⟨hk, rfl, ht⟩
 refine cx_seq (cx_ops ?_)
 refine ax_q (q_ibin rfl rfl rfl) ?_
 refine ax_nil (cx_keep rfl rfl (cx_seq ?_))
 refine cx_cond rfl (fun h0 => ?_) (fun h0 => ?_)
 ·
  have h0 := dT h0
  have h0x : k < xs.length := by omega
  refine cx_skip ?_
  refine cx_keep rfl rfl (cx_seq (cx_block (cx_seq (cx_ops ?_))))
  refine ax_q (q_mov rfl) ?_
  refine ax_q (q_mov rfl) ?_
  refine ax_nil (cx_keep rfl rfl (cx_seq (cx_ops ?_)))
  refine ax_q (q_mov rfl) ?_
  refine ax_q (q_mov rfl) ?_
  refine ax_q (q_mov rfl) ?_
  refine ax_q (q_ix rfl rfl (mapAt h0x)) ?_
  first | refine ax_q (q_ldN rfl rfl rfl) ?_ | refine ax_q (q_loadN_ip rfl (Nat.le_refl _)) ?_
  refine ax_callvD rfl (by rw [hP]; exact hb) rfl (vc_pure0 (hf _ (List.getElem_mem h0x)) hP (refs_cons rfl ds) rfl ?_)
  refine ax_nil (cx_keep rfl rfl ?_)
  refine cx_cond rfl (fun h1 => ?_) (fun h1 => ?_)
  ·
   skip
   refine cx_seq (cx_ops ?_)
   refine ax_q (q_mov rfl) ?_
   refine ax_q (q_mov rfl) ?_
   refine ax_nil (cx_keep rfl rfl ?_)
   refine cx_ret (ret0 rfl rfl ?_)
   exact ⟨by rw [idxOf_hit h0x ht h1]; rfl, rfl⟩
  ·
   skip
   refine cx_skip ?_
   refine cx_keep rfl rfl (cx_ops ?_)
   refine ax_qe (r' := int ((k + 1 : Nat) : Int)) (q_ibin rfl rfl rfl) (by rw [wi (by omega) (by omega)]; rfl) ?_
   refine ax_q (q_mov rfl) ?_
   refine ax_nil ?_
   exact ⟨_, k + 1, by omega, ⟨by omega, rfl, before_step h0x ht h1⟩, by repeat constructor⟩
 ·
  have h0 := dF h0
  have h0x : k = xs.length := by omega
  refine cx_exit rfl ?_
  refine cx_keep rfl rfl (cx_seq (cx_ops ?_))
  refine ax_q (q_mov rfl) ?_
  refine ax_nil (cx_keep rfl rfl ?_)
  refine cx_ret (ret0 rfl rfl ?_)
  exact ⟨by rw [idxOf_none (fun i hi => ht i (by omega))]; rfl, rfl⟩


/- slices.ContainsFunc[[]loop.example/g00332/impl.Pending,loop.example/g00332/impl.Pending] -/
def k_c_ContainsFunc_Pending : XCode :=
 .seq (.ops [.op (some 4) (.mov (.k (.bool false)))])
 (.keep [0, 1] (.seq (.ops [.op (some 5) (.mov (.t 0)),
   .op (some 6) (.mov (.t 1)),
   .call (some 7) 207 [.t 5, .t 6],
   .op (some 8) (.bin .geq (.t 7) (.k (.int .i64 0))),
   .op (some 4) (.mov (.t 8))])
 (.keep [4] (.ret))))
theorem k_c_ContainsFunc_Pending_fits : fitsF Tryz.prog 144 ⟨9, k_c_ContainsFunc_Pending, [.t 4]⟩ = true := by kernel_rfl
theorem c_ContainsFunc_Pending {xs : List GPending} {f : Nat} {ds : List D} (p : GPending → Bool) (hw : xs.length ≤ 9223372036854775807) (hb : hasBody Tryz.prog f = true) (hf : ∀ s ∈ xs, Con Tryz.prog noMv f (s.av :: ds.map AV.d) [] (fun r h => r = bool (p s) ∧ h = [])) : Con Tryz.prog noMv 144 [.d (.sl 2 (xs.map GPending.row)), .d (.fn (.func f) ds)] [] (fun r h => r = bool (xs.any p) ∧ h = []) := by
 refine con_of2 k_c_ContainsFunc_Pending_fits rfl fun C hP hmv => ?_
 unfold k_c_ContainsFunc_Pending
 refine cx_seq (cx_ops ?_)
 refine ax_q (q_mov rfl) ?_
 refine ax_nil (cx_keep rfl rfl (cx_seq (cx_ops ?_)))
 refine ax_q (q_mov rfl) ?_
 refine ax_q (q_mov rfl) ?_
 refine ax_call rfl (vc_pure0 (c_IndexFunc_Pending p hw hb hf) hP rfl rfl ?_)
 refine ax_qe (r' := bool (xs.any p)) (q_ibin rfl rfl rfl) (congrArg AM.bool any_idxOf) ?_
 refine ax_q (q_mov rfl) ?_
 refine ax_nil (cx_keep rfl rfl ?_)
 refine cx_ret (ret0 rfl rfl ?_)
 exact ⟨rfl, rfl⟩


/- loop.example/g00332/impl.isPlace -/
def k_c_isPlace : XCode :=
 .seq (.ops [.op (some 4) (.mov (.k (.bool false)))])
 (.keep [0, 1] (.seq (.ops [.op (some 5) (.mov (.t 0)),
   .op (some 6) (.mov (.t 1)),
   .op (some 7) (.bin .sub (.t 6) (.k (.int .i64 1))),
   .call (some 8) 63 [.t 5, .k (.int .i64 0), .t 7],
   .op (some 4) (.mov (.t 8))])
 (.keep [4] (.ret))))
theorem k_c_isPlace_fits : fitsF Tryz.prog 75 ⟨9, k_c_isPlace, [.t 4]⟩ = true := by kernel_rfl
theorem c_isPlace {n k : Int} (hk : 0 ≤ k ∧ k ≤ 1048576) : Con Tryz.prog noMv 75 [int n, int k] [] (fun r h => r = bool (inR n 0 (k - 1)) ∧ h = []) := by
 refine con_of2 k_c_isPlace_fits rfl fun C hP hmv => ?_
 unfold k_c_isPlace
 refine cx_seq (cx_ops ?_)
 refine ax_q (q_mov rfl) ?_
 refine ax_nil (cx_keep rfl rfl (cx_seq (cx_ops ?_)))
 refine ax_q (q_mov rfl) ?_
 refine ax_q (q_mov rfl) ?_
 refine ax_q (q_sub rfl rfl (by omega)) ?_
 refine ax_call rfl (vc_pure0 (c_inRange  ) hP rfl rfl ?_)
 refine ax_q (q_mov rfl) ?_
 refine ax_nil (cx_keep rfl rfl ?_)
 refine cx_ret (ret0 rfl rfl ?_)
 exact ⟨rfl, rfl⟩


/- loop.example/g00332/impl.DiskOK$2 -/
def k_c_DiskOK2 : XCode :=
 .seq (.ops [.op (some 2) (.box (.t 0)),
   .op (some 3) (.mov (.k (.bool false)))])
 (.keep [1, 2] (.seq (.ops [.op (some 4) (.fadr (.t 2) 0),
   .op (some 5) (.load1 (.t 4)),
   .op (some 6) (.fadr (.t 1) 0),
   .op (some 7) (.load1 (.t 6)),
   .op (some 8) (.lenS (.t 7)),
   .call (some 9) 75 [.t 5, .t 8],
   .op (some 10) (.not (.t 9)),
   .op (some 11) (.mov (.t 10)),
   .andor 16 false 7 11 [.op (some 12) (.fadr (.t 2) 1), .op (some 13) (.load1 (.t 12)), .op (some 14) (.lenT (.t 13)), .op (some 15) (.bin .gtr (.t 14) (.k (.int .i64 160)))] (.t 15),
   .op (some 3) (.mov (.t 16))])
 (.keep [3] (.ret))))
theorem k_c_DiskOK2_fits : fitsF Tryz.prog 145 ⟨17, k_c_DiskOK2, [.t 3]⟩ = true := by kernel_rfl
theorem c_DiskOK2 {a : GPending} {d : GDisk} (hw0 : d.Sectors.length ≤ 1048576) : Con Tryz.prog noMv 145 [a.av, .d (.ip d.row)] [] (fun r h => r = bool (badAt d.Sectors.length a) ∧ h = []) := by
 refine con_of2 k_c_DiskOK2_fits rfl fun C hP hmv => ?_
 unfold k_c_DiskOK2
 refine cx_seq (cx_ops ?_)
 refine ax_e (e_box rfl rfl (by decide) rfl rfl rfl) ?_
 refine ax_q (q_mov rfl) ?_
 refine ax_nil (cx_keep rfl rfl (cx_seq (cx_ops ?_)))
 refine ax_q (q_fadr_ptr rfl) ?_
 refine ax_q (q_load1_ptr rfl rfl rfl) ?_
 first | refine ax_q (q_fadr_ptr rfl) ?_ | refine ax_q (q_fadr_rptr rfl) ?_ | refine ax_q (q_fadr_ip rfl) ?_
 first | refine ax_q (q_load1_ptr rfl rfl rfl) ?_ | refine ax_q (q_load1_ip rfl) ?_
 refine ax_q (q_lenS_map rfl) ?_
 refine ax_call rfl (vc_pure0 (c_isPlace  ?_) hP rfl rfl ?_)
 ·
  first | assumption | omega
 refine ax_q (q_not rfl) ?_
 refine ax_q (q_mov rfl) ?_
 apply ax_or rfl rfl
 ·
  intro g
  have g := bF g
  refine ax_q (q_fadr_ptr rfl) ?_
  refine ax_q (q_load1_ptr rfl rfl rfl) ?_
  refine ax_q (q_lenT rfl) ?_
  refine ax_q (q_ibin rfl rfl rfl) ?_
  exact ax_nil ⟨rfl, by repeat constructor⟩
 refine ax_q (q_mov rfl) ?_
 refine ax_nil (cx_keep rfl rfl ?_)
 refine cx_ret (ret0 rfl rfl ?_)
 exact ⟨rfl, rfl⟩


/- loop.example/g00332/impl.DiskOK -/
def k_c_DiskOK : XCode :=
 .seq (.ops [.op (some 1) (.box (.t 0)),
   .op (some 2) (.mov (.k (.bool false)))])
 (.keep [1] (.seq (.seq (.ops [.op (some 3) (.fadr (.t 1) 0),
   .op (some 4) (.load1 (.t 3)),
   .op (some 5) (.lenS (.t 4)),
   .call (some 6) 63 [.t 5, .k (.int .i64 1), .k (.int .i64 100)],
   .op (some 7) (.not (.t 6)),
   .op (some 8) (.mov (.t 7)),
   .andor 13 false 5 8 [.op (some 9) (.fadr (.t 1) 1), .op (some 10) (.load1 (.t 9)), .op (some 11) (.lenS (.t 10)), .op (some 12) (.bin .gtr (.t 11) (.k (.int .i64 500)))] (.t 12),
   .op (some 14) (.mov (.t 13)),
   .andor 19 false 11 14 [.op (some 15) (.fadr (.t 1) 3), .op (some 16) (.load1 (.t 15)), .op (some 17) (.lenS (.t 16)), .op (some 18) (.bin .gtr (.t 17) (.k (.int .i64 500)))] (.t 18),
   .op (some 20) (.mov (.t 19)),
   .andor 30 false 17 20 [.op (some 21) (.fadr (.t 1) 2), .op (some 22) (.load1 (.t 21)), .op (some 23) (.not (.t 22)), .op (some 24) (.mov (.t 23)), .andor 29 true 21 24 [.op (some 25) (.fadr (.t 1) 3), .op (some 26) (.load1 (.t 25)), .op (some 27) (.lenS (.t 26)), .op (some 28) (.bin .gtr (.t 27) (.k (.int .i64 0)))] (.t 28)] (.t 29)])
  (.keep [1, 30] (.cond (.t 30)
  (.seq (.ops [.op (some 2) (.mov (.k (.bool false)))])
   (.keep [2] (.ret)))
  (.skip))))
 (.keep [1] (.seq (.ops [.op (some 31) (.fadr (.t 1) 0),
   .op (some 32) (.load1 (.t 31)),
   .call (some 33) 142 [.t 32, .f 143],
   .op (some 34) (.not (.t 33)),
   .op (some 35) (.mov (.t 34)),
   .andor 41 true 4 35 [.op (some 36) (.fadr (.t 1) 1), .op (some 37) (.load1 (.t 36)), .op (some 38) (.mkfn 145 [.t 1]), .call (some 39) 144 [.t 37, .t 38], .op (some 40) (.not (.t 39))] (.t 40),
   .op (some 2) (.mov (.t 41))])
 (.keep [2] (.ret))))))
theorem k_c_DiskOK_fits : fitsF Tryz.prog 71 ⟨42, k_c_DiskOK, [.t 2]⟩ = true := by kernel_rfl
theorem c_DiskOK {d : GDisk} (hw0 : d.Sectors.length ≤ 1048576) (hw1 : d.Cache.length ≤ 1048576) (hw2 : d.Keep.length ≤ 1048576) : Con Tryz.prog noMv 71 [d.av] [] (fun r h => r = bool (diskOK d) ∧ h = []) := by
 refine con_of2 k_c_DiskOK_fits rfl fun C hP hmv => ?_
 unfold k_c_DiskOK
 refine cx_seq (cx_ops ?_)
 refine ax_e (e_box rfl rfl (by decide) rfl rfl rfl) ?_
 refine ax_q (q_mov rfl) ?_
 refine ax_nil (cx_keep rfl rfl (cx_seq (cx_seq (cx_ops ?_))))
 refine ax_q (q_fadr_ptr rfl) ?_
 refine ax_q (q_load1_ptr rfl rfl rfl) ?_
 refine ax_q (q_lenS_map rfl) ?_
 refine ax_call rfl (vc_pure0 (c_inRange  ) hP rfl rfl ?_)
 refine ax_q (q_not rfl) ?_
 refine ax_q (q_mov rfl) ?_
 apply ax_or rfl rfl
 ·
  intro g
  have g := bF g
  refine ax_q (q_fadr_ptr rfl) ?_
  refine ax_q (q_load1_ptr rfl rfl rfl) ?_
  refine ax_q (q_lenS_map rfl) ?_
  refine ax_q (q_ibin rfl rfl rfl) ?_
  exact ax_nil ⟨rfl, by repeat constructor⟩
 refine ax_q (q_mov rfl) ?_
 apply ax_or rfl rfl
 ·
  intro g
  have g := (fun h => And.intro (bF (or_F h).1) (dF (or_F h).2)) g
  refine ax_q (q_fadr_ptr rfl) ?_
  refine ax_q (q_load1_ptr rfl rfl rfl) ?_
  refine ax_q (q_lenS_map rfl) ?_
  refine ax_q (q_ibin rfl rfl rfl) ?_
  exact ax_nil ⟨rfl, by repeat constructor⟩
 refine ax_q (q_mov rfl) ?_
 apply ax_or rfl rfl
 ·
  intro g
  have g := (fun h => And.intro ((fun h => And.intro (bF (or_F h).1) (dF (or_F h).2)) (or_F h).1) (dF (or_F h).2)) g
  refine ax_q (q_fadr_ptr rfl) ?_
  refine ax_q (q_load1_ptr rfl rfl rfl) ?_
  refine ax_q (q_not rfl) ?_
  refine ax_q (q_mov rfl) ?_
  apply ax_and rfl rfl
  ·
   intro g
   have g := bT g
   refine ax_q (q_fadr_ptr rfl) ?_
   refine ax_q (q_load1_ptr rfl rfl rfl) ?_
   refine ax_q (q_lenS_map rfl) ?_
   refine ax_q (q_ibin rfl rfl rfl) ?_
   exact ax_nil ⟨rfl, by repeat constructor⟩
  exact ax_nil ⟨rfl, by repeat constructor⟩
 refine ax_nil (cx_keep rfl rfl ?_)
 refine cx_cond rfl (fun h0 => ?_) (fun h0 => ?_)
 ·
  have h0 : badHead d = true := h0
  refine cx_seq (cx_ops ?_)
  refine ax_q (q_mov rfl) ?_
  refine ax_nil (cx_keep rfl rfl ?_)
  refine cx_ret (ret0 rfl rfl ?_)
  exact ⟨by unfold diskOK; rw [h0]; rfl, rfl⟩
 ·
  have h0 : badHead d = false := h0
  refine cx_skip ?_
  refine cx_keep rfl rfl (cx_seq (cx_ops ?_))
  refine ax_q (q_fadr_ptr rfl) ?_
  refine ax_q (q_load1_ptr rfl rfl rfl) ?_
  refine ax_call rfl (vc_lend0 (c_ContainsFunc_Str (xs := d.Sectors) (ds := []) long160 (by omega) (by kernel_rfl) (fun s _ => c_DiskOK1)) hP (by repeat (first | exact lal_id _ rfl | exact LAL.nil | refine LAL.cons ?_ ?_ | exact la_id _ rfl | exact LA.lend (lend_whole rfl (by first | (simp; done) | (rw [List.length_map]; rfl))) | refine LA.agg ?_ | refine LA.fn ?_ | refine LA.lend ?_ | exact Lend.d _ | exact Lend.zs _ | exact lend_whole rfl (by first | (simp; done) | (rw [List.length_map]; rfl)) | refine Lend.ptr rfl ?_ | refine Lend.fn ?_ | exact LendL.nil | refine LendL.cons ?_ ?_)) rfl rfl ?_)
  refine ax_q (q_not rfl) ?_
  refine ax_q (q_mov rfl) ?_
  apply ax_and rfl rfl
  ·
   intro g
   have g := bT g
   refine ax_q (q_fadr_ptr rfl) ?_
   refine ax_q (q_load1_ptr rfl rfl rfl) ?_
   refine ax_q (q_mkfn rfl) ?_
   refine ax_call rfl (vc_lend0 (c_ContainsFunc_Pending (xs := d.Cache) (ds := [.ip d.row]) (badAt d.Sectors.length) (by omega) (by kernel_rfl) (fun s _ => c_DiskOK2 hw0)) hP (by repeat (first | exact lal_id _ rfl | exact LAL.nil | refine LAL.cons ?_ ?_ | exact la_id _ rfl | exact LA.lend (lend_whole rfl (by first | (simp; done) | (rw [List.length_map]; rfl))) | refine LA.agg ?_ | refine LA.fn ?_ | refine LA.lend ?_ | exact Lend.d _ | exact Lend.zs _ | exact lend_whole rfl (by first | (simp; done) | (rw [List.length_map]; rfl)) | refine Lend.ptr rfl ?_ | refine Lend.fn ?_ | exact LendL.nil | refine LendL.cons ?_ ?_)) rfl rfl ?_)
   refine ax_q (q_not rfl) ?_
   exact ax_nil ⟨rfl, by repeat constructor⟩
  refine ax_q (q_mov rfl) ?_
  refine ax_nil (cx_keep rfl rfl ?_)
  refine cx_ret (ret0 rfl rfl ?_)
  exact ⟨by unfold diskOK; rw [h0]; rfl, rfl⟩


/- (ptr loop.example/g00332/impl.byteReader).isDone -/
def k_c_isDone : XCode :=
 .seq (.ops [.op (some 2) (.mov (.k (.bool false)))])
 (.keep [0] (.seq (.ops [.op (some 3) (.mov (.t 0)),
   .op (some 4) (.nilck (.t 3)),
   .op (some 5) (.fadr (.t 4) 1),
   .op (some 6) (.load1 (.t 5)),
   .op (some 7) (.not (.t 6)),
   .op (some 8) (.mov (.t 7)),
   .andor 15 true 5 8 [.op (some 9) (.mov (.t 0)), .op (some 10) (.nilck (.t 9)), .op (some 11) (.fadr (.t 10) 0), .op (some 12) (.load1 (.t 11)), .op (some 13) (.lenS (.t 12)), .op (some 14) (.bin .eql (.t 13) (.k (.int .i64 0)))] (.t 14),
   .op (some 2) (.mov (.t 15))])
 (.keep [2] (.ret))))
theorem k_c_isDone_fits : fitsF Tryz.prog 215 ⟨16, k_c_isDone, [.t 2]⟩ = true := by kernel_rfl
theorem c_isDone {r0 : Rd}  : Con Tryz.prog noMv 215 [.ptr 1000 0] [(1000, r0.box)] (fun r h => r = bool (doneF r0) ∧ h = [(1000, (r0).box)]) := by
 refine con_of2 k_c_isDone_fits rfl fun C hP hmv => ?_
 unfold k_c_isDone
 refine cx_seq (cx_ops ?_)
 refine ax_q (q_mov rfl) ?_
 refine ax_nil (cx_keep rfl rfl (cx_seq (cx_ops ?_)))
 refine ax_q (q_mov rfl) ?_
 refine ax_q (q_nilck_ptr rfl) ?_
 refine ax_q (q_fadr_ptr rfl) ?_
 refine ax_q (q_load1_ptr rfl rfl rfl) ?_
 refine ax_q (q_not rfl) ?_
 refine ax_q (q_mov rfl) ?_
 apply ax_and rfl rfl
 ·
  intro g
  have g := bT g
  refine ax_q (q_mov rfl) ?_
  refine ax_q (q_nilck_ptr rfl) ?_
  refine ax_q (q_fadr_ptr rfl) ?_
  refine ax_q (q_load1_ptr rfl rfl rfl) ?_
  refine ax_q (q_lenS_map rfl) ?_
  refine ax_q (q_ibin rfl rfl rfl) ?_
  exact ax_nil ⟨rfl, by repeat constructor⟩
 refine ax_q (q_mov rfl) ?_
 refine ax_nil (cx_keep rfl rfl ?_)
 refine cx_ret (retN id [1000] rfl rfl rfl rfl rfl ?_)
 exact ⟨rfl, rfl⟩


/- (ptr loop.example/g00332/impl.byteReader).take -/
def k_c_take : XCode :=
 .seq (.ops [.op (some 4) (.mov (.k (.nils 1)))])
 (.keep [0, 1] (.seq (.seq (.ops [.op (some 6) (.mov (.t 1)),
   .op (some 7) (.mov (.t 0)),
   .op (some 8) (.nilck (.t 7)),
   .op (some 9) (.fadr (.t 8) 0),
   .op (some 10) (.load1 (.t 9)),
   .op (some 11) (.lenS (.t 10)),
   .op (some 12) (.bin .gtr (.t 6) (.t 11))])
  (.keep [0, 1, 12] (.cond (.t 12)
  (.seq (.ops [.op (some 13) (.mov (.t 0)),
    .op (some 14) (.nilck (.t 13)),
    .op (some 15) (.fadr (.t 14) 1),
    .op none (.store 1 (.t 15) (.k (.bool true)))])
   (.keep [1] (.seq (.ops [.op (some 16) (.mov (.t 1)),
    .op (some 17) (.mkslice 1 1 [.int .u8 0] (.t 16) (.t 16)),
    .op (some 4) (.mov (.t 17))])
   (.keep [4] (.ret)))))
  (.skip))))
 (.keep [0, 1] (.seq (.ops [.op (some 18) (.mov (.t 0)),
   .op (some 19) (.nilck (.t 18)),
   .op (some 20) (.fadr (.t 19) 0),
   .op (some 21) (.load1 (.t 20)),
   .op (some 22) (.mov (.t 1)),
   .op (some 23) (.slc 1 (.t 21) none (some (.t 22)) none),
   .op (some 5) (.mov (.t 23))])
 (.keep [0, 1, 5] (.seq (.ops [.op (some 24) (.mov (.t 0)),
   .op (some 25) (.mov (.t 0)),
   .op (some 26) (.nilck (.t 25)),
   .op (some 27) (.fadr (.t 26) 0),
   .op (some 28) (.load1 (.t 27)),
   .op (some 29) (.mov (.t 1)),
   .op (some 30) (.slc 1 (.t 28) (some (.t 29)) none none),
   .op (some 31) (.nilck (.t 24)),
   .op (some 32) (.fadr (.t 31) 0),
   .op none (.store 1 (.t 32) (.t 30))])
 (.keep [5] (.seq (.ops [.op (some 33) (.mov (.t 5)),
   .op (some 4) (.mov (.t 33))])
 (.keep [4] (.ret))))))))))
theorem k_c_take_fits : fitsF Tryz.prog 212 ⟨34, k_c_take, [.t 4]⟩ = true := by kernel_rfl
theorem c_take {r0 : Rd} {n : Nat} (hn : n ≤ 1048576) (hl : r0.rest.length ≤ 1048576) : Con Tryz.prog noMv 212 [.ptr 1000 0, int n] [(1000, r0.box)] (fun r h => r = .d (.sl 1 ((takeF r0 n).1.map byteRow)) ∧ h = [(1000, ((takeF r0 n).2).box)]) := by
 refine con_of2 k_c_take_fits rfl fun C hP hmv => ?_
 unfold k_c_take
 refine cx_seq (cx_ops ?_)
 refine ax_q (q_mov rfl) ?_
 refine ax_nil (cx_keep rfl rfl (cx_seq (cx_seq (cx_ops ?_))))
 refine ax_q (q_mov rfl) ?_
 refine ax_q (q_mov rfl) ?_
 refine ax_q (q_nilck_ptr rfl) ?_
 refine ax_q (q_fadr_ptr rfl) ?_
 refine ax_q (q_load1_ptr rfl rfl rfl) ?_
 refine ax_q (q_lenS_map rfl) ?_
 refine ax_q (q_ibin rfl rfl rfl) ?_
 refine ax_nil (cx_keep rfl rfl ?_)
 refine cx_cond rfl (fun h0 => ?_) (fun h0 => ?_)
 ·
  have h0 := dT h0
  refine cx_seq (cx_ops ?_)
  refine ax_q (q_mov rfl) ?_
  refine ax_q (q_nilck_ptr rfl) ?_
  refine ax_q (q_fadr_ptr rfl) ?_
  refine ax_e (e_st rfl rfl rfl rfl rfl rfl rfl) ?_
  refine ax_nil (cx_keep rfl rfl (cx_seq (cx_ops ?_)))
  refine ax_q (q_mov rfl) ?_
  refine ax_ee (st'' := ⟨(17, .osl 17 1 0 n) :: _, (17, .rows 1 ((List.replicate n (0 : UInt8)).map byteRow)) :: _⟩) (e_mkslice rfl rfl rfl (by omega) (by omega) (by omega) (by decide) rfl rfl) (by rw [Int.toNat_natCast, List.map_replicate]; rfl) ?_
  refine ax_q (q_mov rfl) ?_
  refine ax_nil (cx_keep rfl rfl ?_)
  refine cx_wk (wk_frz 4 17 rfl rfl (.whole (by simp)) rfl) ?_
  refine cx_ret (retN id [1000] rfl rfl rfl rfl rfl ?_)
  rw [takeF_1 h0]; exact ⟨rfl, rfl⟩
 ·
  have h0 := dF h0
  refine cx_skip ?_
  refine cx_keep rfl rfl (cx_seq (cx_ops ?_))
  refine ax_q (q_mov rfl) ?_
  refine ax_q (q_nilck_ptr rfl) ?_
  refine ax_q (q_fadr_ptr rfl) ?_
  refine ax_q (q_load1_ptr rfl rfl rfl) ?_
  refine ax_q (q_mov rfl) ?_
  refine ax_qe (r' := .d (.sl 1 ((r0.rest.take n).map byteRow))) (q_slc rfl rfl rfl (by omega) (by omega) (by simp; omega)) (by simp [List.map_take]) ?_
  refine ax_q (q_mov rfl) ?_
  refine ax_nil (cx_keep rfl rfl (cx_seq (cx_ops ?_)))
  refine ax_q (q_mov rfl) ?_
  refine ax_q (q_mov rfl) ?_
  refine ax_q (q_nilck_ptr rfl) ?_
  refine ax_q (q_fadr_ptr rfl) ?_
  refine ax_q (q_load1_ptr rfl rfl rfl) ?_
  refine ax_q (q_mov rfl) ?_
  refine ax_qe (r' := .d (.sl 1 ((r0.rest.drop n).map byteRow))) (q_slc rfl rfl rfl (by omega) (by simp; omega) (by simp)) (slc_drop) ?_
  refine ax_q (q_nilck_ptr rfl) ?_
  refine ax_q (q_fadr_ptr rfl) ?_
  refine ax_e (e_st rfl rfl rfl rfl rfl rfl rfl) ?_
  refine ax_nil (cx_keep rfl rfl (cx_seq (cx_ops ?_)))
  refine ax_q (q_mov rfl) ?_
  refine ax_q (q_mov rfl) ?_
  refine ax_nil (cx_keep rfl rfl ?_)
  refine cx_ret (retN id [1000] rfl rfl rfl rfl rfl ?_)
  rw [takeF_2 h0]; exact ⟨rfl, rfl⟩


/- (ptr loop.example/g00332/impl.byteReader).num -/
def k_c_num : XCode :=
 .seq (.ops [.op (some 2) (.mov (.k (.int .i64 0)))])
 (.keep [0] (.seq (.ops [.op (some 3) (.mov (.t 0)),
   .call (some 4) 212 [.t 3, .k (.int .i64 1)],
   .op (some 5) (.iadr 1 (.t 4) (.k (.int .i64 0))),
   .op (some 6) (.load1 (.t 5)),
   .op (some 7) (.conv .i64 (.t 6)),
   .op (some 2) (.mov (.t 7))])
 (.keep [2] (.ret))))
theorem k_c_num_fits : fitsF Tryz.prog 219 ⟨8, k_c_num, [.t 2]⟩ = true := by kernel_rfl
theorem c_num {r0 : Rd} (hl : r0.rest.length ≤ 1048576) : Con Tryz.prog noMv 219 [.ptr 1000 0] [(1000, r0.box)] (fun r h => r = int (numF r0).1 ∧ h = [(1000, ((numF r0).2).box)]) := by
 refine con_of2 k_c_num_fits rfl fun C hP hmv => ?_
 unfold k_c_num
 refine cx_seq (cx_ops ?_)
 refine ax_q (q_mov rfl) ?_
 refine ax_nil (cx_keep rfl rfl (cx_seq (cx_ops ?_)))
 refine ax_q (q_mov rfl) ?_
 refine ax_call rfl (vcall_own (c_take (n := 1) ?_ ?_) hP hmv false (fun _ => 1000) [1000] ⟨rfl, rfl, rfl, rfl, ⟨rfl, trivial⟩, rfl, rfl, rfl⟩ (.pass rfl rfl (.pass rfl rfl .nil)) ?_)
 ·
  first | assumption | omega
 ·
  assumption
 rintro r h ⟨rfl, rfl⟩
 refine ⟨fun _ => 1000, [], ⟨rfl, rfl, rfl, rfl, mem1 rfl, rfl, rfl, fun h => absurd h Bool.false_ne_true⟩, ?_⟩
 have ht1 : (takeF r0 1).1.length = 1 := takeF_len.1
 refine ax_q (q_ixI rfl rfl (by omega) (mapAt (by omega))) ?_
 first | refine ax_q (q_load1_ptr rfl rfl rfl) ?_ | refine ax_q (q_load1_ip rfl) ?_
 refine ax_q (q_convB rfl) ?_
 refine ax_q (q_mov rfl) ?_
 refine ax_nil (cx_keep rfl rfl ?_)
 refine cx_ret (retN id [1000] rfl rfl rfl rfl rfl ?_)
 unfold numF; rw [getD_at (by omega)]; exact ⟨rfl, rfl⟩


/- (ptr loop.example/g00332/impl.byteReader).checkList -/
def k_c_checkList : XCode :=
 .seq (.ops [.op (some 10) (.mov (.k (.bool false)))])
 (.keep [0, 1, 2, 3, 4] (.seq (.ops [.op (some 16) (.mov (.t 0)),
   .call (some 17) 219 [.t 16],
   .op (some 11) (.mov (.t 17))])
 (.keep [0, 1, 2, 3, 4, 11] (.seq (.ops [.op (some 18) (.mov (.t 11)),
   .op (some 19) (.mov (.t 1)),
   .op (some 20) (.bin .leq (.t 18) (.t 19)),
   .op (some 21) (.mov (.t 2)),
   .op (some 22) (.bin .sub (.t 21) (.k (.int .i64 1))),
   .op (some 12) (.mov (.t 20)),
   .op (some 13) (.mov (.t 22))])
 (.keep [0, 3, 4, 11, 12, 13] (.seq (.seq (.ops [.op (some 23) (.mov (.t 11)),
   .op (some 24) (.mov (.k (.int .i64 0)))])
  (.keep [0, 3, 4, 12, 13, 23, 24] (.block 0 (.loop (.seq (.ops [.op (some 25) (.bin .lss (.t 24) (.t 23))])
   (.keep [0, 3, 4, 12, 13, 23, 24, 25] (.seq (.cond (.t 25)
    (.skip)
    (.exit 0))
   (.keep [0, 3, 4, 12, 13, 23, 24] (.seq (.block 1 (.seq (.ops [.op (some 26) (.mov (.t 0)),
     .call (some 27) 219 [.t 26],
     .op (some 28) (.mov (.t 0)),
     .call (some 29) 219 [.t 28],
     .op (some 14) (.mov (.t 27)),
     .op (some 15) (.mov (.t 29))])
    (.keep [0, 3, 4, 12, 13, 14, 15, 23, 24] (.seq (.ops [.op (some 30) (.mov (.t 12)),
     .op (some 31) (.mov (.t 30)),
     .andor 37 true 1 31 [.op (some 32) (.mov (.t 14)), .op (some 33) (.mov (.t 13)), .op (some 34) (.bin .add (.t 33) (.k (.int .i64 1))), .op (some 35) (.mov (.t 3)), .call (some 36) 63 [.t 32, .t 34, .t 35]] (.t 36),
     .op (some 38) (.mov (.t 37)),
     .andor 43 true 8 38 [.op (some 39) (.mov (.t 15)), .op (some 40) (.mov (.t 4)), .op (some 41) (.bin .sub (.t 40) (.k (.int .i64 1))), .call (some 42) 63 [.t 39, .k (.int .i64 1), .t 41]] (.t 42),
     .op (some 12) (.mov (.t 43))])
    (.keep [0, 3, 4, 12, 14, 23, 24] (.ops [.op (some 44) (.mov (.t 14)),
     .op (some 13) (.mov (.t 44))]))))))
   (.keep [0, 3, 4, 12, 13, 23, 24] (.ops [.op (some 45) (.bin .add (.t 24) (.k (.int .i64 1))),
    .op (some 24) (.mov (.t 45))])))))))))))
 (.keep [0, 12] (.seq (.ops [.op (some 46) (.mov (.t 12)),
   .op (some 47) (.mov (.t 46)),
   .andor 53 true 1 47 [.op (some 48) (.mov (.t 0)), .op (some 49) (.nilck (.t 48)), .op (some 50) (.fadr (.t 49) 1), .op (some 51) (.load1 (.t 50)), .op (some 52) (.not (.t 51))] (.t 52),
   .op (some 10) (.mov (.t 53))])
 (.keep [10] (.ret))))))))))
theorem k_c_checkList_fits : fitsF Tryz.prog 238 ⟨54, k_c_checkList, [.t 10]⟩ = true := by kernel_rfl
theorem c_checkList {r0 : Rd} {most low high lsn : Int} (hl : r0.rest.length ≤ 1048576) (hlo : 0 ≤ low ∧ low ≤ 1) (hhi : 0 ≤ high ∧ high ≤ 100) (hm : 1 ≤ lsn ∧ lsn ≤ 60) : Con Tryz.prog noMv 238 [.ptr 1000 0, int most, int low, int high, int lsn] [(1000, r0.box)] (fun r h => r = bool (chkF most low high lsn r0).1 ∧ h = [(1000, ((chkF most low high lsn r0).2).box)]) := by
 refine con_of2 k_c_checkList_fits rfl fun C hP hmv => ?_
 unfold k_c_checkList
 refine cx_seq (cx_ops ?_)
 refine ax_q (q_mov rfl) ?_
 refine ax_nil (cx_keep rfl rfl (cx_seq (cx_ops ?_)))
 refine ax_q (q_mov rfl) ?_
 refine ax_call rfl (vcall_own (c_num  ?_) hP hmv false (fun _ => 1000) [1000] ⟨rfl, rfl, rfl, rfl, ⟨rfl, trivial⟩, rfl, rfl, rfl⟩ (.pass rfl rfl .nil) ?_)
 ·
  assumption
 rintro r h ⟨rfl, rfl⟩
 refine ⟨fun _ => 1000, [], ⟨rfl, rfl, rfl, rfl, mem1 rfl, rfl, rfl, fun h => absurd h Bool.false_ne_true⟩, ?_⟩
 obtain ⟨q1, q2⟩ := @numF_lt r0
 obtain ⟨T, hT⟩ : ∃ T, chkL high lsn (numF r0).1 (numF r0).2 (decide (((numF r0).1 : Int) ≤ most)) (low - 1) = T := ⟨_, rfl⟩
 refine ax_q (q_mov rfl) ?_
 refine ax_nil (cx_keep rfl rfl (cx_seq (cx_ops ?_)))
 refine ax_q (q_mov rfl) ?_
 refine ax_q (q_mov rfl) ?_
 refine ax_q (q_ibin rfl rfl rfl) ?_
 refine ax_q (q_mov rfl) ?_
 refine ax_qe (r' := int (low - 1)) (q_ibin rfl rfl rfl) (by rw [wi (by omega) (by omega)]) ?_
 refine ax_q (q_mov rfl) ?_
 refine ax_q (q_mov rfl) ?_
 refine ax_nil (cx_keep rfl rfl (cx_seq (cx_seq (cx_ops ?_))))
 refine ax_q (q_mov rfl) ?_
 refine ax_q (q_mov rfl) ?_
 refine ax_nil (cx_keep rfl rfl (cx_block ?_))
 refine cx_loopU (fun m (p : Nat × Rd × Bool × Int) => p.1 ≤ (numF r0).1 ∧ m = p.1 ∧ p.2.1.rest.length ≤ 1048576 ∧ -1 ≤ p.2.2.2 ∧ p.2.2.2 ≤ 256 ∧ chkL high lsn p.1 p.2.1 p.2.2.1 p.2.2.2 = T) (fun p => [(24, int (((numF r0).1 - p.1 : Nat) : Int)), (12, bool p.2.2.1), (13, int p.2.2.2)]) (fun p => [(1000, p.2.1.box)])
  ⟨_, ((numF r0).1, (numF r0).2, decide (((numF r0).1 : Int) ≤ most), low - 1), ⟨Nat.le_refl _, rfl, by simp only; omega, by simp only; omega, by simp only; omega, hT⟩, by simp only [Nat.sub_self]; exact (by repeat constructor)⟩ ?_
 rintro m ⟨n, u, ok, b⟩ ⟨hn, hmn, hu, hb0, hb1, hc⟩
 simp only at hn hmn hu hb0 hb1 hc ⊢
 refine cx_seq (cx_ops ?_)
 refine ax_q (q_ibin rfl rfl rfl) ?_
 refine ax_nil (cx_keep rfl rfl (cx_seq ?_))
 refine cx_cond rfl (fun h0 => ?_) (fun h0 => ?_)
 ·
  have h0 := dT h0
  obtain ⟨n, rfl⟩ : ∃ n2, n = n2 + 1 := ⟨n - 1, by omega⟩
  rw [chkL] at hc
  obtain ⟨k1, k2⟩ := @numF_lt u
  obtain ⟨k3, k4⟩ := @numF_lt (numF u).2
  refine cx_skip ?_
  refine cx_keep rfl rfl (cx_seq (cx_block (cx_seq (cx_ops ?_))))
  refine ax_q (q_mov rfl) ?_
  refine ax_call rfl (vcall_own (c_num  ?_) hP hmv false (fun _ => 1000) [1000] ⟨rfl, rfl, rfl, rfl, ⟨rfl, trivial⟩, rfl, rfl, rfl⟩ (.pass rfl rfl .nil) ?_)
  ·
   assumption
  rintro r h ⟨rfl, rfl⟩
  refine ⟨fun _ => 1000, [], ⟨rfl, rfl, rfl, rfl, mem1 rfl, rfl, rfl, fun h => absurd h Bool.false_ne_true⟩, ?_⟩
  refine ax_q (q_mov rfl) ?_
  refine ax_call rfl (vcall_own (c_num  ?_) hP hmv false (fun _ => 1000) [1000] ⟨rfl, rfl, rfl, rfl, ⟨rfl, trivial⟩, rfl, rfl, rfl⟩ (.pass rfl rfl .nil) ?_)
  ·
   first | assumption | omega
  rintro r h ⟨rfl, rfl⟩
  refine ⟨fun _ => 1000, [], ⟨rfl, rfl, rfl, rfl, mem1 rfl, rfl, rfl, fun h => absurd h Bool.false_ne_true⟩, ?_⟩
  refine ax_q (q_mov rfl) ?_
  refine ax_q (q_mov rfl) ?_
  refine ax_nil (cx_keep rfl rfl (cx_seq (cx_ops ?_)))
  refine ax_q (q_mov rfl) ?_
  refine ax_q (q_mov rfl) ?_
  apply ax_and rfl rfl
  ·
   intro g
   refine ax_q (q_mov rfl) ?_
   refine ax_q (q_mov rfl) ?_
   refine ax_q (q_add rfl rfl (by omega)) ?_
   refine ax_q (q_mov rfl) ?_
   refine ax_call rfl (vc_pure0 (c_inRange  ) hP rfl rfl ?_)
   exact ax_nil ⟨rfl, by repeat constructor⟩
  refine ax_q (q_mov rfl) ?_
  apply ax_and rfl rfl
  ·
   intro g
   have g := (fun h => And.intro (id (and_T h).1) (id (and_T h).2)) g
   refine ax_q (q_mov rfl) ?_
   refine ax_q (q_mov rfl) ?_
   refine ax_q (q_sub rfl rfl (by omega)) ?_
   refine ax_call rfl (vc_pure0 (c_inRange  ) hP rfl rfl ?_)
   exact ax_nil ⟨rfl, by repeat constructor⟩
  refine ax_q (q_mov rfl) ?_
  refine ax_nil (cx_keep rfl rfl (cx_ops ?_))
  refine ax_q (q_mov rfl) ?_
  refine ax_q (q_mov rfl) ?_
  refine ax_nil (cx_keep rfl rfl (cx_ops ?_))
  refine ax_qe (r' := int (((numF r0).1 - n : Nat) : Int)) (q_ibin rfl rfl rfl) (by rw [wi (by omega) (by omega)]; exact congrArg AM.int (by omega)) ?_
  refine ax_q (q_mov rfl) ?_
  refine ax_nil ?_
  exact ⟨_, (n, (numF (numF u).2).2, (ok && inR (numF u).1 (b + 1) high) && inR (numF (numF u).2).1 1 (lsn - 1), ((numF u).1 : Int)), by omega, ⟨by simp only; omega, rfl, by simp only; omega, by simp only; omega, by simp only; omega, hc⟩, by simp only; exact (by repeat constructor)⟩
 ·
  have h0 := dF h0
  obtain rfl : n = 0 := by omega
  subst hc
  refine cx_exit rfl ?_
  refine cx_keep rfl rfl (cx_seq (cx_ops ?_))
  refine ax_q (q_mov rfl) ?_
  refine ax_q (q_mov rfl) ?_
  apply ax_and rfl rfl
  ·
   intro g
   refine ax_q (q_mov rfl) ?_
   refine ax_q (q_nilck_ptr rfl) ?_
   refine ax_q (q_fadr_ptr rfl) ?_
   refine ax_q (q_load1_ptr rfl rfl rfl) ?_
   refine ax_q (q_not rfl) ?_
   exact ax_nil ⟨rfl, by repeat constructor⟩
  refine ax_q (q_mov rfl) ?_
  refine ax_nil (cx_keep rfl rfl ?_)
  refine cx_ret (retN id [1000] rfl rfl rfl rfl rfl ?_)
  have e : chkF most low high lsn r0 = (ok && !u.fail, u) := by unfold chkF; simp only; rw [hT]; rfl
  rw [e]; exact ⟨rfl, rfl⟩


/- loop.example/g00332/impl.isCheck -/
def k_c_isCheck : XCode :=
 .seq (.ops [.op (some 4) (.mov (.k (.bool false)))])
 (.keep [0, 1] (.seq (.ops [.op (some 8) (.mov (.t 0)),
   .op (some 9) (.s2b (.t 8)),
   .op (some 10) (.build [.nils 1, .bool false] [(0, 1, .t 9)]),
   .op (some 11) (.box (.t 10)),
   .op (some 5) (.mov (.t 11))])
 (.keep [1, 5] (.seq (.ops [.op (some 12) (.mov (.t 5)),
   .op (some 13) (.mov (.t 1)),
   .call (some 14) 238 [.t 12, .k (.int .i64 8), .k (.int .i64 0), .k (.int .i64 7), .t 13],
   .op (some 6) (.mov (.t 14))])
 (.keep [1, 5, 6] (.seq (.ops [.op (some 15) (.mov (.t 5)),
   .op (some 16) (.mov (.t 1)),
   .call (some 17) 238 [.t 15, .k (.int .i64 10), .k (.int .i64 1), .k (.int .i64 60), .t 16],
   .op (some 7) (.mov (.t 17))])
 (.keep [5, 6, 7] (.seq (.ops [.op (some 18) (.mov (.t 6)),
   .op (some 19) (.mov (.t 18)),
   .andor 21 true 1 19 [.op (some 20) (.mov (.t 7))] (.t 20),
   .op (some 22) (.mov (.t 21)),
   .andor 25 true 4 22 [.op (some 23) (.mov (.t 5)), .call (some 24) 215 [.t 23]] (.t 24),
   .op (some 4) (.mov (.t 25))])
 (.keep [4] (.ret))))))))))
theorem k_c_isCheck_fits : fitsF Tryz.prog 208 ⟨26, k_c_isCheck, [.t 4]⟩ = true := by kernel_rfl
theorem c_isCheck {t : Str} {lsn : Int} (hl : t.length ≤ 1048576) (hm : 1 ≤ lsn ∧ lsn ≤ 60) : Con Tryz.prog noMv 208 [str t, int lsn] [] (fun r h => r = bool (isCheckF t lsn) ∧ h = []) := by
 refine con_of2 k_c_isCheck_fits rfl fun C hP hmv => ?_
 unfold k_c_isCheck
 refine cx_seq (cx_ops ?_)
 refine ax_q (q_mov rfl) ?_
 refine ax_nil (cx_keep rfl rfl (cx_seq (cx_ops ?_)))
 refine ax_q (q_mov rfl) ?_
 refine ax_e (e_s2b rfl (by decide) rfl rfl) ?_
 refine ax_wk (wk_frz 9 9 rfl rfl (.whole (by simp)) rfl) ?_
 refine ax_q (q_build rfl) ?_
 refine ax_e (e_box rfl rfl (by decide) rfl rfl rfl) ?_
 refine ax_q (q_mov rfl) ?_
 refine ax_nil (cx_keep rfl rfl (cx_seq (cx_ops ?_)))
 refine ax_q (q_mov rfl) ?_
 refine ax_q (q_mov rfl) ?_
 refine ax_call rfl (vcall_own (c_checkList (r0 := ⟨t, false⟩) (most := 8) (low := 0) (high := 7) (lsn := lsn) hl (by omega) (by omega) hm) hP hmv false (fun _ => 11) [1000] ⟨rfl, rfl, rfl, rfl, ⟨rfl, trivial⟩, rfl, rfl, rfl⟩ (.pass rfl rfl (.pass rfl rfl (.pass rfl rfl (.pass rfl rfl (.pass rfl rfl .nil))))) ?_)
 rintro r h ⟨rfl, rfl⟩
 refine ⟨fun _ => 11, [], ⟨rfl, rfl, rfl, rfl, mem1 rfl, rfl, rfl, fun h => absurd h Bool.false_ne_true⟩, ?_⟩
 have hl2 := @chkF_len 8 0 7 lsn ⟨t, false⟩
 simp only at hl2
 refine ax_q (q_mov rfl) ?_
 refine ax_nil (cx_keep rfl rfl (cx_seq (cx_ops ?_)))
 refine ax_q (q_mov rfl) ?_
 refine ax_q (q_mov rfl) ?_
 refine ax_call rfl (vcall_own (c_checkList (r0 := (chkF 8 0 7 lsn ⟨t, false⟩).2) (most := 10) (low := 1) (high := 60) (lsn := lsn) (by omega) (by omega) (by omega) hm) hP hmv false (fun _ => 11) [1000] ⟨rfl, rfl, rfl, rfl, ⟨rfl, trivial⟩, rfl, rfl, rfl⟩ (.pass rfl rfl (.pass rfl rfl (.pass rfl rfl (.pass rfl rfl (.pass rfl rfl .nil))))) ?_)
 rintro r h ⟨rfl, rfl⟩
 refine ⟨fun _ => 11, [], ⟨rfl, rfl, rfl, rfl, mem1 rfl, rfl, rfl, fun h => absurd h Bool.false_ne_true⟩, ?_⟩
 refine ax_q (q_mov rfl) ?_
 refine ax_nil (cx_keep rfl rfl (cx_seq (cx_ops ?_)))
 refine ax_q (q_mov rfl) ?_
 refine ax_q (q_mov rfl) ?_
 apply ax_and rfl rfl
 ·
  intro g
  refine ax_q (q_mov rfl) ?_
  exact ax_nil ⟨rfl, by repeat constructor⟩
 refine ax_q (q_mov rfl) ?_
 apply ax_and rfl rfl
 ·
  intro g
  have g := (fun h => And.intro (id (and_T h).1) (id (and_T h).2)) g
  refine ax_q (q_mov rfl) ?_
  refine ax_call rfl (vcall_own (c_isDone (r0 := (chkF 10 1 60 lsn (chkF 8 0 7 lsn ⟨t, false⟩).2).2)) hP hmv false (fun _ => 11) [1000] ⟨rfl, rfl, rfl, rfl, ⟨rfl, trivial⟩, rfl, rfl, rfl⟩ (.pass rfl rfl .nil) ?_)
  rintro r h ⟨rfl, rfl⟩
  refine ⟨fun _ => 11, [], ⟨rfl, rfl, rfl, rfl, mem1 rfl, rfl, rfl, fun h => absurd h Bool.false_ne_true⟩, ?_⟩
  exact ax_nil ⟨rfl, by repeat constructor⟩
 refine ax_q (q_mov rfl) ?_
 refine ax_nil (cx_keep rfl rfl ?_)
 refine cx_ret (ret0 rfl rfl ?_)
 exact ⟨rfl, rfl⟩


/- loop.example/g00332/impl.RecordOK -/
def k_c_RecordOK : XCode :=
 .seq (.ops [.op (some 1) (.box (.t 0)),
   .op (some 2) (.mov (.k (.bool false)))])
 (.keep [1] (.seq (.seq (.ops [.op (some 5) (.fadr (.t 1) 0),
   .op (some 6) (.load1 (.t 5)),
   .call (some 7) 63 [.t 6, .k (.int .i64 1), .k (.int .i64 60)],
   .op (some 8) (.not (.t 7)),
   .op (some 9) (.mov (.t 8)),
   .andor 14 false 4 9 [.op (some 10) (.fadr (.t 1) 1), .op (some 11) (.load1 (.t 10)), .call (some 12) 63 [.t 11, .k (.int .i64 1), .k (.int .i64 60)], .op (some 13) (.not (.t 12))] (.t 13)])
  (.keep [1, 14] (.cond (.t 14)
  (.seq (.ops [.op (some 2) (.mov (.k (.bool false)))])
   (.keep [2] (.ret)))
  (.skip))))
 (.keep [1] (.seq (.ops [.op (some 15) (.loadN 10 (.t 1)),
   .op (some 3) (.alloc [.int .i64 0, .int .i64 0, .int .i64 0, .int .i64 0, .int .i64 0, .int .i64 0, .int .i64 0, .int .i64 0, .str [], .str []]),
   .op none (.store 10 (.t 3) (.t 15))])
 (.keep [1, 3] (.seq (.ops [.op (some 16) (.fadr (.t 3) 0),
   .op none (.store 1 (.t 16) (.k (.int .i64 0))),
   .op (some 17) (.fadr (.t 3) 1),
   .op none (.store 1 (.t 17) (.k (.int .i64 0))),
   .op (some 18) (.fadr (.t 3) 2),
   .op none (.store 1 (.t 18) (.k (.int .i64 0))),
   .op (some 19) (.fadr (.t 3) 3),
   .op none (.store 1 (.t 19) (.k (.int .i64 0))),
   .op (some 20) (.fadr (.t 3) 4),
   .op none (.store 1 (.t 20) (.k (.int .i64 0)))])
 (.keep [1, 3] (.seq (.seq (.ops [.op (some 21) (.fadr (.t 1) 3),
   .op (some 22) (.load1 (.t 21))])
  (.keep [1, 3, 22] (.block 0 (.seq (.ops [.op (some 24) (.bin .eql (.t 22) (.k (.int .i64 6))),
    .op (some 23) (.mov (.t 24))])
  (.keep [1, 3, 22, 23] (.cond (.t 23)
   (.seq (.ops [.op (some 25) (.fadr (.t 3) 9),
     .op none (.store 1 (.t 25) (.k (.str [])))])
   (.keep [1, 3] (.seq (.ops [.op (some 26) (.fadr (.t 1) 2),
     .op (some 27) (.load1 (.t 26)),
     .op (some 28) (.bin .eql (.t 27) (.k (.int .i64 0))),
     .op (some 29) (.mov (.t 28)),
     .andor 33 true 3 29 [.op (some 30) (.fadr (.t 1) 4), .op (some 31) (.load1 (.t 30)), .op (some 32) (.bin .eql (.t 31) (.k (.int .i64 0)))] (.t 32),
     .op (some 34) (.mov (.t 33)),
     .andor 38 true 8 34 [.op (some 35) (.loadN 10 (.t 3)), .op (some 36) (.build [.int .i64 0, .int .i64 0, .int .i64 0, .int .i64 0, .int .i64 0, .int .i64 0, .int .i64 0, .int .i64 0, .str [], .str []] []), .op (some 37) (.eqs false [0, 0, 0, 0, 0, 0, 0, 0, 2, 2] (.t 35) (.t 36))] (.t 37),
     .op (some 39) (.mov (.t 38)),
     .andor 45 true 13 39 [.op (some 40) (.fadr (.t 1) 9), .op (some 41) (.load1 (.t 40)), .op (some 42) (.fadr (.t 1) 1), .op (some 43) (.load1 (.t 42)), .call (some 44) 208 [.t 41, .t 43]] (.t 44),
     .op (some 2) (.mov (.t 45))])
   (.keep [2] (.ret)))))
   (.seq (.seq (.ops [.op (some 47) (.bin .eql (.t 22) (.k (.int .i64 2))),
     .op (some 46) (.mov (.t 47))])
    (.keep [1, 3, 22, 46] (.cond (.t 46)
    (.skip)
    (.ops [.op (some 48) (.bin .eql (.t 22) (.k (.int .i64 3))),
      .op (some 46) (.mov (.t 48))]))))
   (.keep [1, 3, 46] (.cond (.t 46)
    (.seq (.ops [.op (some 49) (.fadr (.t 1) 6),
      .op (some 50) (.load1 (.t 49)),
      .call (some 51) 75 [.t 50, .k (.int .i64 8)],
      .op (some 52) (.mov (.t 51)),
      .andor 56 true 3 52 [.op (some 53) (.fadr (.t 1) 7), .op (some 54) (.load1 (.t 53)), .call (some 55) 75 [.t 54, .k (.int .i64 4)]] (.t 55),
      .op (some 4) (.mov (.t 56))])
    (.keep [1, 3, 4] (.seq (.seq (.ops [.op (some 57) (.mov (.t 4)),
      .op (some 58) (.not (.t 57)),
      .op (some 59) (.mov (.t 58)),
      .andor 64 false 2 59 [.op (some 60) (.fadr (.t 1) 8), .op (some 61) (.load1 (.t 60)), .op (some 62) (.lenT (.t 61)), .op (some 63) (.bin .gtr (.t 62) (.k (.int .i64 30)))] (.t 63),
      .op (some 65) (.mov (.t 64)),
      .andor 70 false 8 65 [.op (some 66) (.fadr (.t 1) 9), .op (some 67) (.load1 (.t 66)), .op (some 68) (.lenT (.t 67)), .op (some 69) (.bin .gtr (.t 68) (.k (.int .i64 30)))] (.t 69),
      .op (some 71) (.mov (.t 70)),
      .andor 84 false 14 71 [.op (some 72) (.fadr (.t 1) 3), .op (some 73) (.load1 (.t 72)), .op (some 74) (.bin .eql (.t 73) (.k (.int .i64 3))), .op (some 75) (.mov (.t 74)), .andor 83 true 18 75 [.op (some 76) (.fadr (.t 1) 5), .op (some 77) (.load1 (.t 76)), .op (some 78) (.fadr (.t 1) 1), .op (some 79) (.load1 (.t 78)), .op (some 80) (.bin .sub (.t 79) (.k (.int .i64 1))), .call (some 81) 63 [.t 77, .k (.int .i64 0), .t 80], .op (some 82) (.not (.t 81))] (.t 82)] (.t 83)])
     (.keep [1, 3, 84] (.cond (.t 84)
     (.seq (.ops [.op (some 2) (.mov (.k (.bool false)))])
      (.keep [2] (.ret)))
     (.skip))))
    (.keep [1, 3] (.seq (.ops [.op (some 85) (.fadr (.t 3) 6),
      .op none (.store 1 (.t 85) (.k (.int .i64 0))),
      .op (some 86) (.fadr (.t 3) 7),
      .op none (.store 1 (.t 86) (.k (.int .i64 0))),
      .op (some 87) (.fadr (.t 3) 9),
      .op none (.store 1 (.t 87) (.k (.str [])))])
    (.keep [1, 3] (.seq (.ops [.op (some 88) (.fadr (.t 1) 3),
      .op (some 89) (.load1 (.t 88)),
      .op (some 90) (.bin .eql (.t 89) (.k (.int .i64 2)))])
    (.keep [1, 3, 90] (.cond (.t 90)
     (.ops [.op (some 91) (.fadr (.t 3) 8),
      .op none (.store 1 (.t 91) (.k (.str [])))])
     (.ops [.op (some 92) (.fadr (.t 3) 5),
      .op none (.store 1 (.t 92) (.k (.int .i64 0)))]))))))))))
    (.skip))))))))))
 (.keep [1, 3] (.seq (.ops [.op (some 93) (.fadr (.t 1) 3),
   .op (some 94) (.load1 (.t 93)),
   .call (some 95) 63 [.t 94, .k (.int .i64 1), .k (.int .i64 5)],
   .op (some 96) (.mov (.t 95)),
   .andor 100 true 3 96 [.op (some 97) (.loadN 10 (.t 3)), .op (some 98) (.build [.int .i64 0, .int .i64 0, .int .i64 0, .int .i64 0, .int .i64 0, .int .i64 0, .int .i64 0, .int .i64 0, .str [], .str []] []), .op (some 99) (.eqs false [0, 0, 0, 0, 0, 0, 0, 0, 2, 2] (.t 97) (.t 98))] (.t 99),
   .op (some 101) (.mov (.t 100)),
   .andor 105 true 8 101 [.op (some 102) (.fadr (.t 1) 2), .op (some 103) (.load1 (.t 102)), .call (some 104) 63 [.t 103, .k (.int .i64 1), .k (.int .i64 60)]] (.t 104),
   .op (some 106) (.mov (.t 105)),
   .andor 113 true 13 106 [.op (some 107) (.fadr (.t 1) 4), .op (some 108) (.load1 (.t 107)), .op (some 109) (.fadr (.t 1) 1), .op (some 110) (.load1 (.t 109)), .op (some 111) (.bin .sub (.t 110) (.k (.int .i64 1))), .call (some 112) 63 [.t 108, .k (.int .i64 0), .t 111]] (.t 112),
   .op (some 114) (.mov (.t 113)),
   .andor 122 true 21 114 [.op (some 115) (.fadr (.t 1) 4), .op (some 116) (.load1 (.t 115)), .op (some 117) (.bin .eql (.t 116) (.k (.int .i64 0))), .op (some 118) (.fadr (.t 1) 3), .op (some 119) (.load1 (.t 118)), .op (some 120) (.bin .eql (.t 119) (.k (.int .i64 1))), .op (some 121) (.eqb false (.t 117) (.t 120))] (.t 121),
   .op (some 2) (.mov (.t 122))])
 (.keep [2] (.ret))))))))))))
theorem k_c_RecordOK_fits : fitsF Tryz.prog 146 ⟨123, k_c_RecordOK, [.t 2]⟩ = true := by kernel_rfl
set_option maxHeartbeats 4000000 in
theorem c_RecordOK {x : GLogRecord} (hl : x.After.length ≤ 1048576) : Con Tryz.prog noMv 146 [x.av] [] (fun r h => r = bool (recOK x) ∧ h = []) := by
 refine con_of2 k_c_RecordOK_fits rfl fun C hP hmv => ?_
 unfold k_c_RecordOK
 refine cx_seq (cx_ops ?_)
 refine ax_e (e_box rfl rfl (by decide) rfl rfl rfl) ?_
 refine ax_q (q_mov rfl) ?_
 refine ax_nil (cx_keep rfl rfl (cx_seq (cx_seq (cx_ops ?_))))
 refine ax_q (q_fadr_ptr rfl) ?_
 refine ax_q (q_load1_ptr rfl rfl rfl) ?_
 refine ax_call rfl (vc_pure0 (c_inRange  ) hP rfl rfl ?_)
 refine ax_q (q_not rfl) ?_
 refine ax_q (q_mov rfl) ?_
 apply ax_or rfl rfl
 ·
  intro g
  have g := bF g
  refine ax_q (q_fadr_ptr rfl) ?_
  refine ax_q (q_load1_ptr rfl rfl rfl) ?_
  refine ax_call rfl (vc_pure0 (c_inRange  ) hP rfl rfl ?_)
  refine ax_q (q_not rfl) ?_
  exact ax_nil ⟨rfl, by repeat constructor⟩
 refine ax_nil (cx_keep rfl rfl ?_)
 refine cx_cond rfl (fun h0 => ?_) (fun h0 => ?_)
 ·
  have h0 : (!inR x.Epoch 1 60 || !inR x.Lsn 1 60) = true := h0
  have e0 : recOK x = false := hd_in (by
   rw [Bool.or_eq_true, Bool.not_eq_true', Bool.not_eq_true'] at h0
   exact h0.imp (fun q => fun c => by rw [inR_iff.2 c] at q; cases q) (fun q => fun c => by rw [inR_iff.2 c] at q; cases q))
  refine cx_seq (cx_ops ?_)
  refine ax_q (q_mov rfl) ?_
  refine ax_nil (cx_keep rfl rfl ?_)
  refine cx_ret (ret0 rfl rfl ?_)
  exact ⟨by rw [e0]; rfl, rfl⟩
 ·
  have h0 : (!inR x.Epoch 1 60 || !inR x.Lsn 1 60) = false := h0
  have hi : (1 ≤ x.Epoch ∧ x.Epoch ≤ 60) ∧ (1 ≤ x.Lsn ∧ x.Lsn ≤ 60) := by
   rw [Bool.or_eq_false_iff, Bool.not_eq_false', Bool.not_eq_false', inR_iff, inR_iff] at h0
   exact h0
  refine cx_skip ?_
  refine cx_keep rfl rfl (cx_seq (cx_ops ?_))
  refine ax_q (q_ldN rfl rfl rfl) ?_
  refine ax_e (e_alloc (by decide) rfl rfl) ?_
  refine ax_e (e_st rfl rfl rfl rfl rfl rfl rfl) ?_
  refine ax_nil (cx_keep rfl rfl (cx_seq (cx_ops ?_)))
  refine ax_q (q_fadr_ptr rfl) ?_
  refine ax_e (e_st rfl rfl rfl rfl rfl rfl rfl) ?_
  refine ax_q (q_fadr_ptr rfl) ?_
  refine ax_e (e_st rfl rfl rfl rfl rfl rfl rfl) ?_
  refine ax_q (q_fadr_ptr rfl) ?_
  refine ax_e (e_st rfl rfl rfl rfl rfl rfl rfl) ?_
  refine ax_q (q_fadr_ptr rfl) ?_
  refine ax_e (e_st rfl rfl rfl rfl rfl rfl rfl) ?_
  refine ax_q (q_fadr_ptr rfl) ?_
  refine ax_e (e_st rfl rfl rfl rfl rfl rfl rfl) ?_
  refine ax_nil (cx_keep rfl rfl (cx_seq (cx_seq (cx_ops ?_))))
  refine ax_q (q_fadr_ptr rfl) ?_
  refine ax_q (q_load1_ptr rfl rfl rfl) ?_
  refine ax_nil (cx_keep rfl rfl (cx_block (cx_seq (cx_ops ?_))))
  refine ax_q (q_ibin rfl rfl rfl) ?_
  refine ax_q (q_mov rfl) ?_
  refine ax_nil (cx_keep rfl rfl ?_)
  refine cx_cond rfl (fun h1 => ?_) (fun h1 => ?_)
  ·
   have h1 := dT h1
   refine cx_seq (cx_ops ?_)
   refine ax_q (q_fadr_ptr rfl) ?_
   refine ax_e (e_st rfl rfl rfl rfl rfl rfl rfl) ?_
   refine ax_nil (cx_keep rfl rfl (cx_seq (cx_ops ?_)))
   refine ax_q (q_fadr_ptr rfl) ?_
   refine ax_q (q_load1_ptr rfl rfl rfl) ?_
   refine ax_q (q_ibin rfl rfl rfl) ?_
   refine ax_q (q_mov rfl) ?_
   apply ax_and rfl rfl
   ·
    intro g
    have g := dT g
    refine ax_q (q_fadr_ptr rfl) ?_
    refine ax_q (q_load1_ptr rfl rfl rfl) ?_
    refine ax_q (q_ibin rfl rfl rfl) ?_
    exact ax_nil ⟨rfl, by repeat constructor⟩
   refine ax_q (q_mov rfl) ?_
   apply ax_and rfl rfl
   ·
    intro g
    have g := (fun h => And.intro (dT (and_T h).1) (dT (and_T h).2)) g
    refine ax_q (q_ldN rfl rfl rfl) ?_
    refine ax_q (q_build rfl) ?_
    refine ax_q (GLogRecord.q_eqs (a := rest6 x) (b := .zero) rfl rfl) ?_
    exact ax_nil ⟨rfl, by repeat constructor⟩
   refine ax_q (q_mov rfl) ?_
   apply ax_and rfl rfl
   ·
    intro g
    have g := (fun h => And.intro ((fun h => And.intro (dT (and_T h).1) (dT (and_T h).2)) (and_T h).1) (id (and_T h).2)) g
    refine ax_q (q_fadr_ptr rfl) ?_
    refine ax_q (q_load1_ptr rfl rfl rfl) ?_
    refine ax_q (q_fadr_ptr rfl) ?_
    refine ax_q (q_load1_ptr rfl rfl rfl) ?_
    refine ax_call rfl (vc_pure0 (c_isCheck (t := x.After) (lsn := x.Lsn) ?_ ?_) hP rfl rfl ?_)
    ·
     assumption
    ·
     first | assumption | omega
    exact ax_nil ⟨rfl, by repeat constructor⟩
   refine ax_q (q_mov rfl) ?_
   refine ax_nil (cx_keep rfl rfl ?_)
   refine cx_ret (ret0 rfl rfl ?_)
   exact ⟨congrArg AM.bool (recI_6 hi h1), rfl⟩
  ·
   have h1 := dF h1
   refine cx_seq (cx_seq (cx_ops ?_))
   refine ax_q (q_ibin rfl rfl rfl) ?_
   refine ax_q (q_mov rfl) ?_
   refine ax_nil (cx_keep rfl rfl ?_)
   refine cx_cond rfl (fun h2 => ?_) (fun h2 => ?_)
   ·
    have h2 := dT h2
    refine cx_skip ?_
    refine cx_keep rfl rfl ?_
    refine cx_cond rfl (fun h3 => ?_) (fun h3 => ?_)
    ·
     have h3 := dT h3
     skip
     refine cx_seq (cx_ops ?_)
     refine ax_q (q_fadr_ptr rfl) ?_
     refine ax_q (q_load1_ptr rfl rfl rfl) ?_
     refine ax_call rfl (vc_pure0 (c_isPlace (n := x.Page) (k := 8) ?_) hP rfl rfl ?_)
     ·
      first | assumption | omega
     refine ax_q (q_mov rfl) ?_
     apply ax_and rfl rfl
     ·
      intro g
      refine ax_q (q_fadr_ptr rfl) ?_
      refine ax_q (q_load1_ptr rfl rfl rfl) ?_
      refine ax_call rfl (vc_pure0 (c_isPlace (n := x.Slot) (k := 4) ?_) hP rfl rfl ?_)
      ·
       first | assumption | omega
      exact ax_nil ⟨rfl, by repeat constructor⟩
     refine ax_q (q_mov rfl) ?_
     refine ax_nil (cx_keep rfl rfl (cx_seq (cx_seq (cx_ops ?_))))
     refine ax_q (q_mov rfl) ?_
     refine ax_q (q_not rfl) ?_
     refine ax_q (q_mov rfl) ?_
     apply ax_or rfl rfl
     ·
      intro g
      have g := (fun h => (fun h => And.intro (id (and_T h).1) (id (and_T h).2)) (bF h)) g
      refine ax_q (q_fadr_ptr rfl) ?_
      refine ax_q (q_load1_ptr rfl rfl rfl) ?_
      refine ax_q (q_lenT rfl) ?_
      refine ax_q (q_ibin rfl rfl rfl) ?_
      exact ax_nil ⟨rfl, by repeat constructor⟩
     refine ax_q (q_mov rfl) ?_
     apply ax_or rfl rfl
     ·
      intro g
      have g := (fun h => And.intro ((fun h => (fun h => And.intro (id (and_T h).1) (id (and_T h).2)) (bF h)) (or_F h).1) (dF (or_F h).2)) g
      refine ax_q (q_fadr_ptr rfl) ?_
      refine ax_q (q_load1_ptr rfl rfl rfl) ?_
      refine ax_q (q_lenT rfl) ?_
      refine ax_q (q_ibin rfl rfl rfl) ?_
      exact ax_nil ⟨rfl, by repeat constructor⟩
     refine ax_q (q_mov rfl) ?_
     apply ax_or rfl rfl
     ·
      intro g
      have g := (fun h => And.intro ((fun h => And.intro ((fun h => (fun h => And.intro (id (and_T h).1) (id (and_T h).2)) (bF h)) (or_F h).1) (dF (or_F h).2)) (or_F h).1) (dF (or_F h).2)) g
      refine ax_q (q_fadr_ptr rfl) ?_
      refine ax_q (q_load1_ptr rfl rfl rfl) ?_
      refine ax_q (q_ibin rfl rfl rfl) ?_
      refine ax_q (q_mov rfl) ?_
      apply ax_and rfl rfl
      ·
       intro g
       have g := dT g
       refine ax_q (q_fadr_ptr rfl) ?_
       refine ax_q (q_load1_ptr rfl rfl rfl) ?_
       refine ax_q (q_fadr_ptr rfl) ?_
       refine ax_q (q_load1_ptr rfl rfl rfl) ?_
       refine ax_q (q_sub rfl rfl (by omega)) ?_
       refine ax_call rfl (vc_pure0 (c_inRange  ) hP rfl rfl ?_)
       refine ax_q (q_not rfl) ?_
       exact ax_nil ⟨rfl, by repeat constructor⟩
      exact ax_nil ⟨rfl, by repeat constructor⟩
     refine ax_nil (cx_keep rfl rfl ?_)
     refine cx_cond rfl (fun h4 => ?_) (fun h4 => ?_)
     ·
      have h4 : badU x = true := h4
      refine cx_seq (cx_ops ?_)
      refine ax_q (q_mov rfl) ?_
      refine ax_nil (cx_keep rfl rfl ?_)
      refine cx_ret (ret0 rfl rfl ?_)
      exact ⟨by rw [recI_bad (.inl h2) h4]; rfl, rfl⟩
     ·
      have h4 : badU x = false := h4
      refine cx_skip ?_
      refine cx_keep rfl rfl (cx_seq (cx_ops ?_))
      refine ax_q (q_fadr_ptr rfl) ?_
      refine ax_e (e_st rfl rfl rfl rfl rfl rfl rfl) ?_
      refine ax_q (q_fadr_ptr rfl) ?_
      refine ax_e (e_st rfl rfl rfl rfl rfl rfl rfl) ?_
      refine ax_q (q_fadr_ptr rfl) ?_
      refine ax_e (e_st rfl rfl rfl rfl rfl rfl rfl) ?_
      refine ax_nil (cx_keep rfl rfl (cx_seq (cx_ops ?_)))
      refine ax_q (q_fadr_ptr rfl) ?_
      refine ax_q (q_load1_ptr rfl rfl rfl) ?_
      refine ax_q (q_ibin rfl rfl rfl) ?_
      refine ax_nil (cx_keep rfl rfl ?_)
      refine cx_cond rfl (fun h5 => ?_) (fun h5 => ?_)
      ·
       have h5 := dT h5
       refine cx_ops ?_
       refine ax_q (q_fadr_ptr rfl) ?_
       refine ax_e (e_st rfl rfl rfl rfl rfl rfl rfl) ?_
       refine ax_nil (cx_keep rfl rfl (cx_seq (cx_ops ?_)))
       refine ax_q (q_fadr_ptr rfl) ?_
       refine ax_q (q_load1_ptr rfl rfl rfl) ?_
       refine ax_call rfl (vc_pure0 (c_inRange  ) hP rfl rfl ?_)
       refine ax_q (q_mov rfl) ?_
       apply ax_and rfl rfl
       ·
        intro g
        refine ax_q (q_ldN rfl rfl rfl) ?_
        refine ax_q (q_build rfl) ?_
        refine ax_q (GLogRecord.q_eqs (a := rest2 x) (b := .zero) rfl rfl) ?_
        exact ax_nil ⟨rfl, by repeat constructor⟩
       refine ax_q (q_mov rfl) ?_
       apply ax_and rfl rfl
       ·
        intro g
        have g := (fun h => And.intro (id (and_T h).1) (id (and_T h).2)) g
        refine ax_q (q_fadr_ptr rfl) ?_
        refine ax_q (q_load1_ptr rfl rfl rfl) ?_
        refine ax_call rfl (vc_pure0 (c_inRange  ) hP rfl rfl ?_)
        exact ax_nil ⟨rfl, by repeat constructor⟩
       refine ax_q (q_mov rfl) ?_
       apply ax_and rfl rfl
       ·
        intro g
        have g := (fun h => And.intro ((fun h => And.intro (id (and_T h).1) (id (and_T h).2)) (and_T h).1) (id (and_T h).2)) g
        refine ax_q (q_fadr_ptr rfl) ?_
        refine ax_q (q_load1_ptr rfl rfl rfl) ?_
        refine ax_q (q_fadr_ptr rfl) ?_
        refine ax_q (q_load1_ptr rfl rfl rfl) ?_
        refine ax_q (q_sub rfl rfl (by omega)) ?_
        refine ax_call rfl (vc_pure0 (c_inRange  ) hP rfl rfl ?_)
        exact ax_nil ⟨rfl, by repeat constructor⟩
       refine ax_q (q_mov rfl) ?_
       apply ax_and rfl rfl
       ·
        intro g
        have g := (fun h => And.intro ((fun h => And.intro ((fun h => And.intro (id (and_T h).1) (id (and_T h).2)) (and_T h).1) (id (and_T h).2)) (and_T h).1) (id (and_T h).2)) g
        refine ax_q (q_fadr_ptr rfl) ?_
        refine ax_q (q_load1_ptr rfl rfl rfl) ?_
        refine ax_q (q_ibin rfl rfl rfl) ?_
        refine ax_q (q_fadr_ptr rfl) ?_
        refine ax_q (q_load1_ptr rfl rfl rfl) ?_
        refine ax_q (q_ibin rfl rfl rfl) ?_
        refine ax_q (q_eqb rfl rfl) ?_
        exact ax_nil ⟨rfl, by repeat constructor⟩
       refine ax_q (q_mov rfl) ?_
       refine ax_nil (cx_keep rfl rfl ?_)
       refine cx_ret (ret0 rfl rfl ?_)
       exact ⟨congrArg AM.bool (recI_2 hi h2 h4), rfl⟩
      ·
       have h5 := dF h5
       exact absurd h2 h5
    ·
     have h3 := dF h3
     exact absurd h2 h3
   ·
    have h2 := dF h2
    refine cx_ops ?_
    refine ax_q (q_ibin rfl rfl rfl) ?_
    refine ax_q (q_mov rfl) ?_
    refine ax_nil (cx_keep rfl rfl ?_)
    refine cx_cond rfl (fun h3 => ?_) (fun h3 => ?_)
    ·
     have h3 := dT h3
     refine cx_seq (cx_ops ?_)
     refine ax_q (q_fadr_ptr rfl) ?_
     refine ax_q (q_load1_ptr rfl rfl rfl) ?_
     refine ax_call rfl (vc_pure0 (c_isPlace (n := x.Page) (k := 8) ?_) hP rfl rfl ?_)
     ·
      first | assumption | omega
     refine ax_q (q_mov rfl) ?_
     apply ax_and rfl rfl
     ·
      intro g
      refine ax_q (q_fadr_ptr rfl) ?_
      refine ax_q (q_load1_ptr rfl rfl rfl) ?_
      refine ax_call rfl (vc_pure0 (c_isPlace (n := x.Slot) (k := 4) ?_) hP rfl rfl ?_)
      ·
       first | assumption | omega
      exact ax_nil ⟨rfl, by repeat constructor⟩
     refine ax_q (q_mov rfl) ?_
     refine ax_nil (cx_keep rfl rfl (cx_seq (cx_seq (cx_ops ?_))))
     refine ax_q (q_mov rfl) ?_
     refine ax_q (q_not rfl) ?_
     refine ax_q (q_mov rfl) ?_
     apply ax_or rfl rfl
     ·
      intro g
      have g := (fun h => (fun h => And.intro (id (and_T h).1) (id (and_T h).2)) (bF h)) g
      refine ax_q (q_fadr_ptr rfl) ?_
      refine ax_q (q_load1_ptr rfl rfl rfl) ?_
      refine ax_q (q_lenT rfl) ?_
      refine ax_q (q_ibin rfl rfl rfl) ?_
      exact ax_nil ⟨rfl, by repeat constructor⟩
     refine ax_q (q_mov rfl) ?_
     apply ax_or rfl rfl
     ·
      intro g
      have g := (fun h => And.intro ((fun h => (fun h => And.intro (id (and_T h).1) (id (and_T h).2)) (bF h)) (or_F h).1) (dF (or_F h).2)) g
      refine ax_q (q_fadr_ptr rfl) ?_
      refine ax_q (q_load1_ptr rfl rfl rfl) ?_
      refine ax_q (q_lenT rfl) ?_
      refine ax_q (q_ibin rfl rfl rfl) ?_
      exact ax_nil ⟨rfl, by repeat constructor⟩
     refine ax_q (q_mov rfl) ?_
     apply ax_or rfl rfl
     ·
      intro g
      have g := (fun h => And.intro ((fun h => And.intro ((fun h => (fun h => And.intro (id (and_T h).1) (id (and_T h).2)) (bF h)) (or_F h).1) (dF (or_F h).2)) (or_F h).1) (dF (or_F h).2)) g
      refine ax_q (q_fadr_ptr rfl) ?_
      refine ax_q (q_load1_ptr rfl rfl rfl) ?_
      refine ax_q (q_ibin rfl rfl rfl) ?_
      refine ax_q (q_mov rfl) ?_
      apply ax_and rfl rfl
      ·
       intro g
       have g := dT g
       refine ax_q (q_fadr_ptr rfl) ?_
       refine ax_q (q_load1_ptr rfl rfl rfl) ?_
       refine ax_q (q_fadr_ptr rfl) ?_
       refine ax_q (q_load1_ptr rfl rfl rfl) ?_
       refine ax_q (q_sub rfl rfl (by omega)) ?_
       refine ax_call rfl (vc_pure0 (c_inRange  ) hP rfl rfl ?_)
       refine ax_q (q_not rfl) ?_
       exact ax_nil ⟨rfl, by repeat constructor⟩
      exact ax_nil ⟨rfl, by repeat constructor⟩
     refine ax_nil (cx_keep rfl rfl ?_)
     refine cx_cond rfl (fun h4 => ?_) (fun h4 => ?_)
     ·
      have h4 : badU x = true := h4
      refine cx_seq (cx_ops ?_)
      refine ax_q (q_mov rfl) ?_
      refine ax_nil (cx_keep rfl rfl ?_)
      refine cx_ret (ret0 rfl rfl ?_)
      exact ⟨by rw [recI_bad (.inr h3) h4]; rfl, rfl⟩
     ·
      have h4 : badU x = false := h4
      refine cx_skip ?_
      refine cx_keep rfl rfl (cx_seq (cx_ops ?_))
      refine ax_q (q_fadr_ptr rfl) ?_
      refine ax_e (e_st rfl rfl rfl rfl rfl rfl rfl) ?_
      refine ax_q (q_fadr_ptr rfl) ?_
      refine ax_e (e_st rfl rfl rfl rfl rfl rfl rfl) ?_
      refine ax_q (q_fadr_ptr rfl) ?_
      refine ax_e (e_st rfl rfl rfl rfl rfl rfl rfl) ?_
      refine ax_nil (cx_keep rfl rfl (cx_seq (cx_ops ?_)))
      refine ax_q (q_fadr_ptr rfl) ?_
      refine ax_q (q_load1_ptr rfl rfl rfl) ?_
      refine ax_q (q_ibin rfl rfl rfl) ?_
      refine ax_nil (cx_keep rfl rfl ?_)
      refine cx_cond rfl (fun h5 => ?_) (fun h5 => ?_)
      ·
       have h5 := dT h5
       exact absurd h5 h2
      ·
       have h5 := dF h5
       refine cx_ops ?_
       refine ax_q (q_fadr_ptr rfl) ?_
       refine ax_e (e_st rfl rfl rfl rfl rfl rfl rfl) ?_
       refine ax_nil (cx_keep rfl rfl (cx_seq (cx_ops ?_)))
       refine ax_q (q_fadr_ptr rfl) ?_
       refine ax_q (q_load1_ptr rfl rfl rfl) ?_
       refine ax_call rfl (vc_pure0 (c_inRange  ) hP rfl rfl ?_)
       refine ax_q (q_mov rfl) ?_
       apply ax_and rfl rfl
       ·
        intro g
        refine ax_q (q_ldN rfl rfl rfl) ?_
        refine ax_q (q_build rfl) ?_
        refine ax_q (GLogRecord.q_eqs (a := rest3 x) (b := .zero) rfl rfl) ?_
        exact ax_nil ⟨rfl, by repeat constructor⟩
       refine ax_q (q_mov rfl) ?_
       apply ax_and rfl rfl
       ·
        intro g
        have g := (fun h => And.intro (id (and_T h).1) (id (and_T h).2)) g
        refine ax_q (q_fadr_ptr rfl) ?_
        refine ax_q (q_load1_ptr rfl rfl rfl) ?_
        refine ax_call rfl (vc_pure0 (c_inRange  ) hP rfl rfl ?_)
        exact ax_nil ⟨rfl, by repeat constructor⟩
       refine ax_q (q_mov rfl) ?_
       apply ax_and rfl rfl
       ·
        intro g
        have g := (fun h => And.intro ((fun h => And.intro (id (and_T h).1) (id (and_T h).2)) (and_T h).1) (id (and_T h).2)) g
        refine ax_q (q_fadr_ptr rfl) ?_
        refine ax_q (q_load1_ptr rfl rfl rfl) ?_
        refine ax_q (q_fadr_ptr rfl) ?_
        refine ax_q (q_load1_ptr rfl rfl rfl) ?_
        refine ax_q (q_sub rfl rfl (by omega)) ?_
        refine ax_call rfl (vc_pure0 (c_inRange  ) hP rfl rfl ?_)
        exact ax_nil ⟨rfl, by repeat constructor⟩
       refine ax_q (q_mov rfl) ?_
       apply ax_and rfl rfl
       ·
        intro g
        have g := (fun h => And.intro ((fun h => And.intro ((fun h => And.intro (id (and_T h).1) (id (and_T h).2)) (and_T h).1) (id (and_T h).2)) (and_T h).1) (id (and_T h).2)) g
        refine ax_q (q_fadr_ptr rfl) ?_
        refine ax_q (q_load1_ptr rfl rfl rfl) ?_
        refine ax_q (q_ibin rfl rfl rfl) ?_
        refine ax_q (q_fadr_ptr rfl) ?_
        refine ax_q (q_load1_ptr rfl rfl rfl) ?_
        refine ax_q (q_ibin rfl rfl rfl) ?_
        refine ax_q (q_eqb rfl rfl) ?_
        exact ax_nil ⟨rfl, by repeat constructor⟩
       refine ax_q (q_mov rfl) ?_
       refine ax_nil (cx_keep rfl rfl ?_)
       refine cx_ret (ret0 rfl rfl ?_)
       exact ⟨congrArg AM.bool (recI_3 hi h3 h4), rfl⟩
    ·
     have h3 := dF h3
     refine cx_skip ?_
     refine cx_keep rfl rfl (cx_seq (cx_ops ?_))
     refine ax_q (q_fadr_ptr rfl) ?_
     refine ax_q (q_load1_ptr rfl rfl rfl) ?_
     refine ax_call rfl (vc_pure0 (c_inRange  ) hP rfl rfl ?_)
     refine ax_q (q_mov rfl) ?_
     apply ax_and rfl rfl
     ·
      intro g
      refine ax_q (q_ldN rfl rfl rfl) ?_
      refine ax_q (q_build rfl) ?_
      refine ax_q (GLogRecord.q_eqs (a := restO x) (b := .zero) rfl rfl) ?_
      exact ax_nil ⟨rfl, by repeat constructor⟩
     refine ax_q (q_mov rfl) ?_
     apply ax_and rfl rfl
     ·
      intro g
      have g := (fun h => And.intro (id (and_T h).1) (id (and_T h).2)) g
      refine ax_q (q_fadr_ptr rfl) ?_
      refine ax_q (q_load1_ptr rfl rfl rfl) ?_
      refine ax_call rfl (vc_pure0 (c_inRange  ) hP rfl rfl ?_)
      exact ax_nil ⟨rfl, by repeat constructor⟩
     refine ax_q (q_mov rfl) ?_
     apply ax_and rfl rfl
     ·
      intro g
      have g := (fun h => And.intro ((fun h => And.intro (id (and_T h).1) (id (and_T h).2)) (and_T h).1) (id (and_T h).2)) g
      refine ax_q (q_fadr_ptr rfl) ?_
      refine ax_q (q_load1_ptr rfl rfl rfl) ?_
      refine ax_q (q_fadr_ptr rfl) ?_
      refine ax_q (q_load1_ptr rfl rfl rfl) ?_
      refine ax_q (q_sub rfl rfl (by omega)) ?_
      refine ax_call rfl (vc_pure0 (c_inRange  ) hP rfl rfl ?_)
      exact ax_nil ⟨rfl, by repeat constructor⟩
     refine ax_q (q_mov rfl) ?_
     apply ax_and rfl rfl
     ·
      intro g
      have g := (fun h => And.intro ((fun h => And.intro ((fun h => And.intro (id (and_T h).1) (id (and_T h).2)) (and_T h).1) (id (and_T h).2)) (and_T h).1) (id (and_T h).2)) g
      refine ax_q (q_fadr_ptr rfl) ?_
      refine ax_q (q_load1_ptr rfl rfl rfl) ?_
      refine ax_q (q_ibin rfl rfl rfl) ?_
      refine ax_q (q_fadr_ptr rfl) ?_
      refine ax_q (q_load1_ptr rfl rfl rfl) ?_
      refine ax_q (q_ibin rfl rfl rfl) ?_
      refine ax_q (q_eqb rfl rfl) ?_
      exact ax_nil ⟨rfl, by repeat constructor⟩
     refine ax_q (q_mov rfl) ?_
     refine ax_nil (cx_keep rfl rfl ?_)
     refine cx_ret (ret0 rfl rfl ?_)
     exact ⟨congrArg AM.bool (recI_o hi h1 h2 h3), rfl⟩


/- slices.IndexFunc[[]loop.example/g00332/impl.LogRecord,loop.example/g00332/impl.LogRecord] -/
def k_c_IndexFunc_LogRecord : XCode :=
 .seq (.ops [.op (some 4) (.mov (.k (.int .i64 0)))])
 (.keep [0, 1] (.seq (.seq (.ops [.op (some 6) (.mov (.t 0)),
   .op (some 7) (.lenS (.t 6)),
   .op (some 8) (.mov (.k (.int .i64 0)))])
  (.keep [0, 1, 7, 8] (.block 0 (.loop (.seq (.ops [.op (some 9) (.bin .lss (.t 8) (.t 7))])
   (.keep [0, 1, 7, 8, 9] (.seq (.cond (.t 9)
    (.skip)
    (.exit 0))
   (.keep [0, 1, 7, 8] (.seq (.block 1 (.seq (.ops [.op (some 10) (.mov (.t 8)),
     .op (some 5) (.mov (.t 10))])
    (.keep [0, 1, 5, 7, 8] (.seq (.ops [.op (some 11) (.mov (.t 1)),
     .op (some 12) (.mov (.t 0)),
     .op (some 13) (.mov (.t 5)),
     .op (some 14) (.iadr 10 (.t 12) (.t 13)),
     .op (some 15) (.loadN 10 (.t 14)),
     .callv (some 16) (.t 11) [.t 15]])
    (.keep [0, 1, 5, 7, 8, 16] (.cond (.t 16)
    (.seq (.ops [.op (some 17) (.mov (.t 5)),
      .op (some 4) (.mov (.t 17))])
     (.keep [4] (.ret)))
    (.skip)))))))
   (.keep [0, 1, 7, 8] (.ops [.op (some 18) (.bin .add (.t 8) (.k (.int .i64 1))),
    .op (some 8) (.mov (.t 18))])))))))))))
 (.keep [] (.seq (.ops [.op (some 4) (.mov (.k (.int .i64 (-1))))])
 (.keep [4] (.ret))))))
theorem k_c_IndexFunc_LogRecord_fits : fitsF Tryz.prog 209 ⟨19, k_c_IndexFunc_LogRecord, [.t 4]⟩ = true := by kernel_rfl
theorem c_IndexFunc_LogRecord {xs : List GLogRecord} {f : Nat} {ds : List D} (p : GLogRecord → Bool) (hw : xs.length ≤ 9223372036854775807) (hb : hasBody Tryz.prog f = true) (hf : ∀ s ∈ xs, Con Tryz.prog noMv f (s.av :: ds.map AV.d) [] (fun r h => r = bool (p s) ∧ h = [])) : Con Tryz.prog noMv 209 [.d (.sl 10 (xs.map GLogRecord.row)), .d (.fn (.func f) ds)] [] (fun r h => r = int (idxOf p xs 0) ∧ h = []) := by
 refine con_of2 k_c_IndexFunc_LogRecord_fits rfl fun C hP hmv => ?_
 unfold k_c_IndexFunc_LogRecord
 refine cx_seq (cx_ops ?_)
 refine ax_q (q_mov rfl) ?_
 refine ax_nil (cx_keep rfl rfl (cx_seq (cx_seq (cx_ops ?_))))
 refine ax_q (q_mov rfl) ?_
 refine ax_q (q_lenS_map rfl) ?_
 refine ax_q (q_mov rfl) ?_
 refine ax_nil (cx_keep rfl rfl (cx_block ?_))
 refine cx_loopU (fun n k => k ≤ xs.length ∧ n = xs.length - k ∧ ∀ i, i < k → ∀ x, xs[i]? = some x → p x = false) (fun k : Nat => [(8, int k)]) (fun _ => []) ⟨_, 0, ⟨by omega, rfl, fun i hi => by omega⟩, by repeat constructor⟩ ?_
 rintro n k ⟨hk, rfl, ht⟩
 refine cx_seq (cx_ops ?_)
 refine ax_q (q_ibin rfl rfl rfl) ?_
 refine ax_nil (cx_keep rfl rfl (cx_seq ?_))
 refine cx_cond rfl (fun h0 => ?_) (fun h0 => ?_)
 ·
  have h0 := dT h0
  have h0x : k < xs.length := by omega
  refine cx_skip ?_
  refine cx_keep rfl rfl (cx_seq (cx_block (cx_seq (cx_ops ?_))))
  refine ax_q (q_mov rfl) ?_
  refine ax_q (q_mov rfl) ?_
  refine ax_nil (cx_keep rfl rfl (cx_seq (cx_ops ?_)))
  refine ax_q (q_mov rfl) ?_
  refine ax_q (q_mov rfl) ?_
  refine ax_q (q_mov rfl) ?_
  refine ax_q (q_ix rfl rfl (mapAt h0x)) ?_
  first | refine ax_q (q_ldN rfl rfl rfl) ?_ | refine ax_q (q_loadN_ip rfl (Nat.le_refl _)) ?_
  refine ax_callvD rfl (by rw [hP]; exact hb) rfl (vc_pure0 (hf _ (List.getElem_mem h0x)) hP (refs_cons rfl ds) rfl ?_)
  refine ax_nil (cx_keep rfl rfl ?_)
  refine cx_cond rfl (fun h1 => ?_) (fun h1 => ?_)
  ·
   skip
   refine cx_seq (cx_ops ?_)
   refine ax_q (q_mov rfl) ?_
   refine ax_q (q_mov rfl) ?_
   refine ax_nil (cx_keep rfl rfl ?_)
   refine cx_ret (ret0 rfl rfl ?_)
   exact ⟨by rw [idxOf_hit h0x ht h1]; rfl, rfl⟩
  ·
   skip
   refine cx_skip ?_
   refine cx_keep rfl rfl (cx_ops ?_)
   refine ax_qe (r' := int ((k + 1 : Nat) : Int)) (q_ibin rfl rfl rfl) (by rw [wi (by omega) (by omega)]; rfl) ?_
   refine ax_q (q_mov rfl) ?_
   refine ax_nil ?_
   exact ⟨_, k + 1, by omega, ⟨by omega, rfl, before_step h0x ht h1⟩, by repeat constructor⟩
 ·
  have h0 := dF h0
  have h0x : k = xs.length := by omega
  refine cx_exit rfl ?_
  refine cx_keep rfl rfl (cx_seq (cx_ops ?_))
  refine ax_q (q_mov rfl) ?_
  refine ax_nil (cx_keep rfl rfl ?_)
  refine cx_ret (ret0 rfl rfl ?_)
  exact ⟨by rw [idxOf_none (fun i hi => ht i (by omega))]; rfl, rfl⟩


/- slices.ContainsFunc[[]loop.example/g00332/impl.LogRecord,loop.example/g00332/impl.LogRecord] -/
def k_c_ContainsFunc_LogRecord : XCode :=
 .seq (.ops [.op (some 4) (.mov (.k (.bool false)))])
 (.keep [0, 1] (.seq (.ops [.op (some 5) (.mov (.t 0)),
   .op (some 6) (.mov (.t 1)),
   .call (some 7) 209 [.t 5, .t 6],
   .op (some 8) (.bin .geq (.t 7) (.k (.int .i64 0))),
   .op (some 4) (.mov (.t 8))])
 (.keep [4] (.ret))))
theorem k_c_ContainsFunc_LogRecord_fits : fitsF Tryz.prog 147 ⟨9, k_c_ContainsFunc_LogRecord, [.t 4]⟩ = true := by kernel_rfl
theorem c_ContainsFunc_LogRecord {xs : List GLogRecord} {f : Nat} {ds : List D} (p : GLogRecord → Bool) (hw : xs.length ≤ 9223372036854775807) (hb : hasBody Tryz.prog f = true) (hf : ∀ s ∈ xs, Con Tryz.prog noMv f (s.av :: ds.map AV.d) [] (fun r h => r = bool (p s) ∧ h = [])) : Con Tryz.prog noMv 147 [.d (.sl 10 (xs.map GLogRecord.row)), .d (.fn (.func f) ds)] [] (fun r h => r = bool (xs.any p) ∧ h = []) := by
 refine con_of2 k_c_ContainsFunc_LogRecord_fits rfl fun C hP hmv => ?_
 unfold k_c_ContainsFunc_LogRecord
 refine cx_seq (cx_ops ?_)
 refine ax_q (q_mov rfl) ?_
 refine ax_nil (cx_keep rfl rfl (cx_seq (cx_ops ?_)))
 refine ax_q (q_mov rfl) ?_
 refine ax_q (q_mov rfl) ?_
 refine ax_call rfl (vc_pure0 (c_IndexFunc_LogRecord p hw hb hf) hP rfl rfl ?_)
 refine ax_qe (r' := bool (xs.any p)) (q_ibin rfl rfl rfl) (congrArg AM.bool any_idxOf) ?_
 refine ax_q (q_mov rfl) ?_
 refine ax_nil (cx_keep rfl rfl ?_)
 refine cx_ret (ret0 rfl rfl ?_)
 exact ⟨rfl, rfl⟩


/- loop.example/g00332/impl.areRecords$1 -/
def k_c_areRecords1 : XCode :=
 .seq (.ops [.op (some 1) (.box (.t 0)),
   .op (some 2) (.mov (.k (.bool false)))])
 (.keep [1] (.seq (.ops [.op (some 3) (.fadr (.t 1) 1),
   .op (some 4) (.load1 (.t 3)),
   .op (some 5) (.bin .gtr (.t 4) (.k (.int .i64 60))),
   .op (some 2) (.mov (.t 5))])
 (.keep [2] (.ret))))
theorem k_c_areRecords1_fits : fitsF Tryz.prog 148 ⟨6, k_c_areRecords1, [.t 2]⟩ = true := by kernel_rfl
theorem c_areRecords1 {a : GLogRecord} : Con Tryz.prog noMv 148 [a.av] [] (fun r h => r = bool (decide ((60 : Int) < a.Lsn)) ∧ h = []) := by
 refine con_of2 k_c_areRecords1_fits rfl fun C hP hmv => ?_
 unfold k_c_areRecords1
 refine cx_seq (cx_ops ?_)
 refine ax_e (e_box rfl rfl (by decide) rfl rfl rfl) ?_
 refine ax_q (q_mov rfl) ?_
 refine ax_nil (cx_keep rfl rfl (cx_seq (cx_ops ?_)))
 refine ax_q (q_fadr_ptr rfl) ?_
 refine ax_q (q_load1_ptr rfl rfl rfl) ?_
 refine ax_q (q_ibin rfl rfl rfl) ?_
 refine ax_q (q_mov rfl) ?_
 refine ax_nil (cx_keep rfl rfl ?_)
 refine cx_ret (ret0 rfl rfl ?_)
 exact ⟨rfl, rfl⟩


/- loop.example/g00332/impl.areRecords -/
def k_c_areRecords : XCode :=
 .seq (.ops [.op (some 2) (.mov (.k (.bool false)))])
 (.keep [0] (.seq (.seq (.ops [.op (some 5) (.mov (.t 0)),
   .op (some 6) (.lenS (.t 5)),
   .op (some 7) (.mov (.k (.int .i64 0)))])
  (.keep [0, 5, 6, 7] (.block 0 (.loop (.seq (.ops [.op (some 8) (.bin .lss (.t 7) (.t 6))])
   (.keep [0, 5, 6, 7, 8] (.seq (.cond (.t 8)
    (.skip)
    (.exit 0))
   (.keep [0, 5, 6, 7] (.seq (.block 1 (.seq (.ops [.op (some 9) (.mov (.t 7)),
     .op (some 10) (.iadr 10 (.t 5) (.t 7)),
     .op (some 11) (.loadN 10 (.t 10)),
     .op (some 4) (.alloc [.int .i64 0, .int .i64 0, .int .i64 0, .int .i64 0, .int .i64 0, .int .i64 0, .int .i64 0, .int .i64 0, .str [], .str []]),
     .op (some 3) (.mov (.t 9)),
     .op none (.store 10 (.t 4) (.t 11))])
    (.keep [0, 3, 4, 5, 6, 7] (.seq (.ops [.op (some 12) (.loadN 10 (.t 4)),
     .call (some 13) 146 [.t 12],
     .op (some 14) (.not (.t 13)),
     .op (some 15) (.mov (.t 14)),
     .andor 21 false 3 15 [.op (some 16) (.fadr (.t 4) 1), .op (some 17) (.load1 (.t 16)), .op (some 18) (.mov (.t 3)), .op (some 19) (.bin .add (.t 18) (.k (.int .i64 1))), .op (some 20) (.bin .neq (.t 17) (.t 19))] (.t 20)])
    (.keep [0, 5, 6, 7, 21] (.cond (.t 21)
    (.seq (.ops [.op (some 2) (.mov (.k (.bool false)))])
     (.keep [2] (.ret)))
    (.skip)))))))
   (.keep [0, 5, 6, 7] (.ops [.op (some 22) (.bin .add (.t 7) (.k (.int .i64 1))),
    .op (some 7) (.mov (.t 22))])))))))))))
 (.keep [0] (.seq (.ops [.op (some 23) (.mov (.t 0)),
   .call (some 24) 147 [.t 23, .f 148],
   .op (some 25) (.not (.t 24)),
   .op (some 2) (.mov (.t 25))])
 (.keep [2] (.ret))))))
theorem k_c_areRecords_fits : fitsF Tryz.prog 72 ⟨26, k_c_areRecords, [.t 2]⟩ = true := by kernel_rfl
theorem c_areRecords {log : List GLogRecord} (hl : log.length ≤ 60) (hv : ∀ i (h : i < log.length), log[i].After.length ≤ 1048576) : Con Tryz.prog noMv 72 [.d (.sl 10 (log.map GLogRecord.row))] [] (fun r h => r = bool (goodA log) ∧ h = []) := by
 refine con_of2 k_c_areRecords_fits rfl fun C hP hmv => ?_
 unfold k_c_areRecords
 refine cx_seq (cx_ops ?_)
 refine ax_q (q_mov rfl) ?_
 refine ax_nil (cx_keep rfl rfl (cx_seq (cx_seq (cx_ops ?_))))
 refine ax_q (q_mov rfl) ?_
 refine ax_q (q_lenS_map rfl) ?_
 refine ax_q (q_mov rfl) ?_
 refine ax_nil (cx_keep rfl rfl (cx_block ?_))
 refine cx_loopU (fun m k => k ≤ log.length ∧ m = log.length - k ∧ ∀ i (h : i < log.length), i < k → recOK log[i] = true ∧ log[i].Lsn = ((i + 1 : Nat) : Int)) (fun k : Nat => [(7, int k)]) (fun _ => []) ⟨_, 0, ⟨Nat.zero_le _, rfl, fun i h hi => by omega⟩, by repeat constructor⟩ ?_
 rintro m k ⟨hk, rfl, hb⟩
 refine cx_seq (cx_ops ?_)
 refine ax_q (q_ibin rfl rfl rfl) ?_
 refine ax_nil (cx_keep rfl rfl (cx_seq ?_))
 refine cx_cond rfl (fun h0 => ?_) (fun h0 => ?_)
 ·
  have h0 := dT h0
  have hkx : k < log.length := by omega
  refine cx_skip ?_
  refine cx_keep rfl rfl (cx_seq (cx_block (cx_seq (cx_ops ?_))))
  refine ax_q (q_mov rfl) ?_
  refine ax_q (q_ix rfl rfl (mapAt hkx)) ?_
  first | refine ax_q (q_ldN rfl rfl rfl) ?_ | refine ax_q (q_loadN_ip rfl (Nat.le_refl _)) ?_
  refine ax_e (e_alloc (by decide) rfl rfl) ?_
  refine ax_q (q_mov rfl) ?_
  refine ax_e (e_st rfl rfl rfl rfl rfl rfl rfl) ?_
  refine ax_nil (cx_keep rfl rfl (cx_seq (cx_ops ?_)))
  refine ax_q (q_ldN rfl rfl rfl) ?_
  refine ax_call rfl (vc_pure0 (c_RecordOK (x := log[k]) ?_) hP rfl rfl ?_)
  ·
   exact hv k hkx
  refine ax_q (q_not rfl) ?_
  refine ax_q (q_mov rfl) ?_
  apply ax_or rfl rfl
  ·
   intro g
   have g := bF g
   refine ax_q (q_fadr_ptr rfl) ?_
   refine ax_q (q_load1_ptr rfl rfl rfl) ?_
   refine ax_q (q_mov rfl) ?_
   refine ax_qe (r' := int ((k + 1 : Nat) : Int)) (q_ibin rfl rfl rfl) (by rw [wi (by omega) (by omega)]; rfl) ?_
   refine ax_q (q_ibin rfl rfl rfl) ?_
   exact ax_nil ⟨rfl, by repeat constructor⟩
  refine ax_nil (cx_keep rfl rfl ?_)
  refine cx_cond rfl (fun h1 => ?_) (fun h1 => ?_)
  ·
   have h1 := (fun h => (or_T h).imp bT nT) h1
   refine cx_seq (cx_ops ?_)
   refine ax_q (q_mov rfl) ?_
   refine ax_nil (cx_keep rfl rfl ?_)
   refine cx_ret (ret0 rfl rfl ?_)
   have e : goodA log = false := goodA_no hkx (by
    rintro ⟨a, b⟩
    rcases h1 with h | h
    ·
     rw [a] at h; cases h
    ·
     exact h b)
   exact ⟨by rw [e]; rfl, rfl⟩
  ·
   have h1 := (fun h => And.intro (bF (or_F h).1) (nF (or_F h).2)) h1
   refine cx_skip ?_
   refine cx_keep rfl rfl (cx_ops ?_)
   refine ax_qe (r' := int ((k + 1 : Nat) : Int)) (q_ibin rfl rfl rfl) (by rw [wi (by omega) (by omega)]; rfl) ?_
   refine ax_q (q_mov rfl) ?_
   refine ax_nil ?_
   exact ⟨_, k + 1, by omega, ⟨by omega, rfl, fun i h hi => by
    rcases Nat.lt_succ_iff_lt_or_eq.1 hi with q | rfl
    ·
     exact hb i h q
    ·
     exact h1⟩, by repeat constructor⟩
 ·
  have h0 := dF h0
  obtain rfl : k = log.length := by omega
  refine cx_exit rfl ?_
  refine cx_keep rfl rfl (cx_seq (cx_ops ?_))
  refine ax_q (q_mov rfl) ?_
  refine ax_call rfl (vc_lend0 (c_ContainsFunc_LogRecord (xs := log) (ds := []) (fun r => decide ((60 : Int) < r.Lsn)) (by omega) (by kernel_rfl) (fun s _ => c_areRecords1)) hP (by repeat (first | exact lal_id _ rfl | exact LAL.nil | refine LAL.cons ?_ ?_ | exact la_id _ rfl | exact LA.lend (lend_whole rfl (by first | (simp; done) | (rw [List.length_map]; rfl))) | refine LA.agg ?_ | refine LA.fn ?_ | refine LA.lend ?_ | exact Lend.d _ | exact Lend.zs _ | exact lend_whole rfl (by first | (simp; done) | (rw [List.length_map]; rfl)) | refine Lend.ptr rfl ?_ | refine Lend.fn ?_ | exact LendL.nil | refine LendL.cons ?_ ?_)) rfl rfl ?_)
  refine ax_q (q_not rfl) ?_
  refine ax_q (q_mov rfl) ?_
  refine ax_nil (cx_keep rfl rfl ?_)
  refine cx_ret (ret0 rfl rfl ?_)
  have e := goodA_iff.2 (fun i h => hb i h h)
  exact ⟨by rw [goodA_lsn e, e]; rfl, rfl⟩


/- loop.example/g00332/impl.NewPage -/
def k_c_NewPage : XCode :=
 .seq (.ops [.op (some 0) (.alloc [.int .i64 0, .nils 1])])
 (.keep [0] (.seq (.ops [.op (some 1) (.mkslice 1 16 [.str []] (.k (.int .i64 4)) (.k (.int .i64 4))),
   .op (some 2) (.build [.int .i64 0, .nils 1] [(1, 1, .t 1)]),
   .op none (.store 2 (.t 0) (.t 2))])
 (.keep [0] (.ret))))
theorem k_c_NewPage_fits : fitsF Tryz.prog 150 ⟨3, k_c_NewPage, [.cN 0 2]⟩ = true := by kernel_rfl
theorem c_NewPage  : Con Tryz.prog noMv 150 [] [] (fun r h => r = (⟨0, [[], [], [], []]⟩ : Page).avO 0 ∧ h = (⟨0, [[], [], [], []]⟩ : Page).hO 0) := by
 refine con_of2 k_c_NewPage_fits rfl fun C hP hmv => ?_
 unfold k_c_NewPage
 refine cx_seq (cx_ops ?_)
 refine ax_e (e_alloc (by decide) rfl rfl) ?_
 refine ax_nil (cx_keep rfl rfl (cx_seq (cx_ops ?_)))
 refine ax_e (e_mkslice rfl rfl rfl (by omega) (by omega) (by omega) (by decide) rfl rfl) ?_
 refine ax_q (q_build rfl) ?_
 refine ax_e (e_st rfl rfl rfl rfl rfl rfl rfl) ?_
 refine ax_nil (cx_keep rfl rfl ?_)
 refine cx_ret (retN (fun _ => 0) [1] rfl rfl rfl rfl rfl ?_)
 exact ⟨rfl, rfl⟩


/- loop.example/g00332/impl.PageOK$1 -/
def k_c_PageOK1 : XCode :=
 .seq (.ops [.op (some 2) (.mov (.k (.bool false)))])
 (.keep [0] (.seq (.ops [.op (some 3) (.mov (.t 0)),
   .op (some 4) (.lenT (.t 3)),
   .op (some 5) (.bin .gtr (.t 4) (.k (.int .i64 30))),
   .op (some 2) (.mov (.t 5))])
 (.keep [2] (.ret))))
theorem k_c_PageOK1_fits : fitsF Tryz.prog 218 ⟨6, k_c_PageOK1, [.t 2]⟩ = true := by kernel_rfl
theorem c_PageOK1 {s : Str} : Con Tryz.prog noMv 218 [str s] [] (fun r h => r = bool (decide ((30 : Int) < (s.length : Int))) ∧ h = []) := by
 refine con_of2 k_c_PageOK1_fits rfl fun C hP hmv => ?_
 unfold k_c_PageOK1
 refine cx_seq (cx_ops ?_)
 refine ax_q (q_mov rfl) ?_
 refine ax_nil (cx_keep rfl rfl (cx_seq (cx_ops ?_)))
 refine ax_q (q_mov rfl) ?_
 refine ax_q (q_lenT rfl) ?_
 refine ax_q (q_ibin rfl rfl rfl) ?_
 refine ax_q (q_mov rfl) ?_
 refine ax_nil (cx_keep rfl rfl ?_)
 refine cx_ret (ret0 rfl rfl ?_)
 exact ⟨rfl, rfl⟩


/- loop.example/g00332/impl.PageOK -/
def k_c_PageOK : XCode :=
 .seq (.ops [.op (some 1) (.box (.t 0)),
   .op (some 2) (.mov (.k (.bool false)))])
 (.keep [1] (.seq (.ops [.op (some 3) (.fadr (.t 1) 0),
   .op (some 4) (.load1 (.t 3)),
   .call (some 5) 63 [.t 4, .k (.int .i64 0), .k (.int .i64 1000)],
   .op (some 6) (.mov (.t 5)),
   .andor 11 true 3 6 [.op (some 7) (.fadr (.t 1) 1), .op (some 8) (.load1 (.t 7)), .op (some 9) (.lenS (.t 8)), .op (some 10) (.bin .eql (.t 9) (.k (.int .i64 4)))] (.t 10),
   .op (some 12) (.mov (.t 11)),
   .andor 17 true 9 12 [.op (some 13) (.fadr (.t 1) 1), .op (some 14) (.load1 (.t 13)), .call (some 15) 142 [.t 14, .f 218], .op (some 16) (.not (.t 15))] (.t 16),
   .op (some 2) (.mov (.t 17))])
 (.keep [2] (.ret))))
theorem k_c_PageOK_fits : fitsF Tryz.prog 153 ⟨18, k_c_PageOK, [.t 2]⟩ = true := by kernel_rfl
theorem c_PageOK {p : Page} (hl : p.slots.length ≤ 1048576) : Con Tryz.prog noMv 153 [p.av] [] (fun r h => r = bool (pageOK p) ∧ h = []) := by
 refine con_of2 k_c_PageOK_fits rfl fun C hP hmv => ?_
 unfold k_c_PageOK
 refine cx_seq (cx_ops ?_)
 refine ax_e (e_box rfl rfl (by decide) rfl rfl rfl) ?_
 refine ax_q (q_mov rfl) ?_
 refine ax_nil (cx_keep rfl rfl (cx_seq (cx_ops ?_)))
 refine ax_q (q_fadr_ptr rfl) ?_
 refine ax_q (q_load1_ptr rfl rfl rfl) ?_
 refine ax_call rfl (vc_pure0 (c_inRange  ) hP rfl rfl ?_)
 refine ax_q (q_mov rfl) ?_
 apply ax_and rfl rfl
 ·
  intro g
  refine ax_q (q_fadr_ptr rfl) ?_
  refine ax_q (q_load1_ptr rfl rfl rfl) ?_
  refine ax_q (q_lenS_map rfl) ?_
  refine ax_q (q_ibin rfl rfl rfl) ?_
  exact ax_nil ⟨rfl, by repeat constructor⟩
 refine ax_q (q_mov rfl) ?_
 apply ax_and rfl rfl
 ·
  intro g
  have g := (fun h => And.intro (id (and_T h).1) (dT (and_T h).2)) g
  refine ax_q (q_fadr_ptr rfl) ?_
  refine ax_q (q_load1_ptr rfl rfl rfl) ?_
  refine ax_call rfl (vc_lend0 (c_ContainsFunc_Str (xs := p.slots) (ds := []) (fun s => decide ((30 : Int) < (s.length : Int))) (by omega) (by kernel_rfl) (fun s _ => c_PageOK1)) hP (by repeat (first | exact lal_id _ rfl | exact LAL.nil | refine LAL.cons ?_ ?_ | exact la_id _ rfl | exact LA.lend (lend_whole rfl (by first | (simp; done) | (rw [List.length_map]; rfl))) | refine LA.agg ?_ | refine LA.fn ?_ | refine LA.lend ?_ | exact Lend.d _ | exact Lend.zs _ | exact lend_whole rfl (by first | (simp; done) | (rw [List.length_map]; rfl)) | refine Lend.ptr rfl ?_ | refine Lend.fn ?_ | exact LendL.nil | refine LendL.cons ?_ ?_)) rfl rfl ?_)
  refine ax_q (q_not rfl) ?_
  exact ax_nil ⟨rfl, by repeat constructor⟩
 refine ax_q (q_mov rfl) ?_
 refine ax_nil (cx_keep rfl rfl ?_)
 refine cx_ret (ret0 rfl rfl ?_)
 exact ⟨congrArg bool (by rw [pageOK_int]), rfl⟩


/- loop.example/g00332/impl.big -/
def k_c_big : XCode :=
 .seq (.ops [.op (some 2) (.mov (.k (.int .i64 0)))])
 (.keep [0] (.seq (.ops [.op (some 3) (.mov (.k (.int .i64 0)))])
 (.keep [0, 3] (.seq (.seq (.ops [.op (some 6) (.mov (.t 0)),
   .op (some 7) (.lenS (.t 6)),
   .op (some 8) (.mov (.k (.int .i64 0)))])
  (.keep [3, 6, 7, 8] (.block 0 (.loop (.seq (.ops [.op (some 9) (.bin .lss (.t 8) (.t 7))])
   (.keep [3, 6, 7, 8, 9] (.seq (.cond (.t 9)
    (.skip)
    (.exit 0))
   (.keep [3, 6, 7, 8] (.seq (.block 1 (.seq (.ops [.op (some 10) (.iadr 1 (.t 6) (.t 8)),
     .op (some 11) (.load1 (.t 10)),
     .op (some 5) (.mov (.t 11))])
    (.keep [3, 5, 6, 7, 8] (.ops [.op (some 12) (.mov (.t 3)),
     .op (some 13) (.bin .shl (.t 12) (.k (.int .u64 8))),
     .op (some 14) (.mov (.t 5)),
     .op (some 15) (.conv .i64 (.t 14)),
     .op (some 16) (.bin .or (.t 13) (.t 15)),
     .op (some 3) (.mov (.t 16))]))))
   (.keep [3, 6, 7, 8] (.ops [.op (some 17) (.bin .add (.t 8) (.k (.int .i64 1))),
    .op (some 8) (.mov (.t 17))])))))))))))
 (.keep [3] (.seq (.ops [.op (some 18) (.mov (.t 3)),
   .op (some 2) (.mov (.t 18))])
 (.keep [2] (.ret))))))))
theorem k_c_big_fits : fitsF Tryz.prog 213 ⟨19, k_c_big, [.t 2]⟩ = true := by kernel_rfl
theorem c_big {l : Str} (hl : l.length ≤ 4) : Con Tryz.prog noMv 213 [.d (.sl 1 (l.map byteRow))] [] (fun r h => r = int (bigN l) ∧ h = []) := by
 refine con_of2 k_c_big_fits rfl fun C hP hmv => ?_
 unfold k_c_big
 refine cx_seq (cx_ops ?_)
 refine ax_q (q_mov rfl) ?_
 refine ax_nil (cx_keep rfl rfl (cx_seq (cx_ops ?_)))
 refine ax_q (q_mov rfl) ?_
 refine ax_nil (cx_keep rfl rfl (cx_seq (cx_seq (cx_ops ?_))))
 refine ax_q (q_mov rfl) ?_
 refine ax_q (q_lenS_map rfl) ?_
 refine ax_q (q_mov rfl) ?_
 refine ax_nil (cx_keep rfl rfl (cx_block ?_))
 refine cx_loopU (fun n k => k ≤ l.length ∧ n = l.length - k) (fun k : Nat => [(3, int (bigN (l.take k))), (8, int k)]) (fun _ => []) ⟨_, 0, ⟨Nat.zero_le _, rfl⟩, by repeat constructor⟩ ?_
 rintro n k ⟨hk, rfl⟩
 refine cx_seq (cx_ops ?_)
 refine ax_q (q_ibin rfl rfl rfl) ?_
 refine ax_nil (cx_keep rfl rfl (cx_seq ?_))
 refine cx_cond rfl (fun h0 => ?_) (fun h0 => ?_)
 ·
  have h0 := dT h0
  have h0x : k < l.length := by omega
  have hlt := bigN_lt3 hl h0x
  refine cx_skip ?_
  refine cx_keep rfl rfl (cx_seq (cx_block (cx_seq (cx_ops ?_))))
  refine ax_q (q_ix rfl rfl (mapAt h0x)) ?_
  first | refine ax_q (q_load1_ptr rfl rfl rfl) ?_ | refine ax_q (q_load1_ip rfl) ?_
  refine ax_q (q_mov rfl) ?_
  refine ax_nil (cx_keep rfl rfl (cx_ops ?_))
  refine ax_q (q_mov rfl) ?_
  refine ax_qe (r' := int ((bigN (l.take k) * 256 : Nat) : Int)) (q_ishf rfl rfl rfl (by omega)) (by exact congrArg AM.int (shlW hlt)) ?_
  refine ax_q (q_mov rfl) ?_
  refine ax_q (q_convB rfl) ?_
  refine ax_qe (r' := int ((bigN (l.take k) * 256 + l[k].toNat : Nat) : Int)) (q_ibit rfl rfl rfl) (congrArg AM.int (orW hlt)) ?_
  refine ax_q (q_mov rfl) ?_
  refine ax_nil (cx_keep rfl rfl (cx_ops ?_))
  refine ax_qe (r' := int ((k + 1 : Nat) : Int)) (q_ibin rfl rfl rfl) (by rw [wi (by omega) (by omega)]; rfl) ?_
  refine ax_q (q_mov rfl) ?_
  refine ax_nil ?_
  exact ⟨_, k + 1, by omega, ⟨by omega, rfl⟩, by rw [bigN_succ h0x]; exact (by repeat constructor)⟩
 ·
  have h0 := dF h0
  obtain rfl : k = l.length := by omega
  rw [List.take_length]
  refine cx_exit rfl ?_
  refine cx_keep rfl rfl (cx_seq (cx_ops ?_))
  refine ax_q (q_mov rfl) ?_
  refine ax_q (q_mov rfl) ?_
  refine ax_nil (cx_keep rfl rfl ?_)
  refine cx_ret (ret0 rfl rfl ?_)
  exact ⟨rfl, rfl⟩


/- loop.example/g00332/impl.check32 -/
def k_c_check32 : XCode :=
 .seq (.ops [.op (some 2) (.mov (.k (.int .u32 0)))])
 (.keep [0] (.seq (.ops [.op (some 3) (.mov (.k (.int .u32 4294967295)))])
 (.keep [0, 3] (.seq (.seq (.ops [.op (some 6) (.mov (.t 0)),
   .op (some 7) (.lenS (.t 6)),
   .op (some 8) (.mov (.k (.int .i64 0)))])
  (.keep [3, 6, 7, 8] (.block 0 (.loop (.seq (.ops [.op (some 9) (.bin .lss (.t 8) (.t 7))])
   (.keep [3, 6, 7, 8, 9] (.seq (.cond (.t 9)
    (.skip)
    (.exit 0))
   (.keep [3, 6, 7, 8] (.seq (.block 1 (.seq (.ops [.op (some 10) (.iadr 1 (.t 6) (.t 8)),
     .op (some 11) (.load1 (.t 10)),
     .op (some 5) (.mov (.t 11))])
    (.keep [3, 5, 6, 7, 8] (.seq (.ops [.op (some 12) (.mov (.t 3)),
     .op (some 13) (.mov (.t 5)),
     .op (some 14) (.conv .u32 (.t 13)),
     .op (some 15) (.bin .xor (.t 12) (.t 14)),
     .op (some 3) (.mov (.t 15))])
    (.keep [3, 6, 7, 8] (.seq (.ops [.op (some 16) (.mov (.k (.int .i64 0)))])
    (.keep [3, 6, 7, 8, 16] (.block 2 (.loop (.seq (.ops [.op (some 17) (.bin .lss (.t 16) (.k (.int .i64 8)))])
     (.keep [3, 6, 7, 8, 16, 17] (.seq (.cond (.t 17)
      (.skip)
      (.exit 2))
     (.keep [3, 6, 7, 8, 16] (.seq (.block 3 (.seq (.ops [.op (some 18) (.mov (.t 3)),
       .op (some 19) (.bin .and (.t 18) (.k (.int .u32 1))),
       .op (some 20) (.bin .eql (.t 19) (.k (.int .u32 1)))])
      (.keep [3, 6, 7, 8, 16, 20] (.cond (.t 20)
      (.ops [.op (some 21) (.mov (.t 3)),
        .op (some 22) (.bin .shr (.t 21) (.k (.int .u64 1))),
        .op (some 23) (.bin .xor (.t 22) (.k (.int .u32 3988292384))),
        .op (some 3) (.mov (.t 23))])
      (.ops [.op (some 24) (.mov (.t 3)),
        .op (some 25) (.bin .shr (.t 24) (.k (.int .u64 1))),
        .op (some 3) (.mov (.t 25))])))))
     (.keep [3, 6, 7, 8, 16] (.ops [.op (some 26) (.bin .add (.t 16) (.k (.int .i64 1))),
      .op (some 16) (.mov (.t 26))]))))))))))))))))
   (.keep [3, 6, 7, 8] (.ops [.op (some 27) (.bin .add (.t 8) (.k (.int .i64 1))),
    .op (some 8) (.mov (.t 27))])))))))))))
 (.keep [3] (.seq (.ops [.op (some 28) (.mov (.t 3)),
   .op (some 29) (.bin .xor (.t 28) (.k (.int .u32 4294967295))),
   .op (some 2) (.mov (.t 29))])
 (.keep [2] (.ret))))))))
theorem k_c_check32_fits : fitsF Tryz.prog 235 ⟨30, k_c_check32, [.t 2]⟩ = true := by kernel_rfl
theorem c_check32 {l : Str} (hl : l.length ≤ 1048576) : Con Tryz.prog noMv 235 [.d (.sl 1 (l.map byteRow))] [] (fun r h => r = .d (.int .u32 (crcN l : Int)) ∧ h = []) := by
 refine con_of2 k_c_check32_fits rfl fun C hP hmv => ?_
 unfold k_c_check32
 refine cx_seq (cx_ops ?_)
 refine ax_q (q_mov rfl) ?_
 refine ax_nil (cx_keep rfl rfl (cx_seq (cx_ops ?_)))
 refine ax_q (q_mov rfl) ?_
 refine ax_nil (cx_keep rfl rfl (cx_seq (cx_seq (cx_ops ?_))))
 refine ax_q (q_mov rfl) ?_
 refine ax_q (q_lenS_map rfl) ?_
 refine ax_q (q_mov rfl) ?_
 refine ax_nil (cx_keep rfl rfl (cx_block ?_))
 refine cx_loopU (fun n k => k ≤ l.length ∧ n = l.length - k) (fun k : Nat => [(3, .d (.int .u32 (crcS (l.take k) : Int))), (8, int k)]) (fun _ => []) ⟨_, 0, ⟨Nat.zero_le _, rfl⟩, by repeat constructor⟩ ?_
 rintro n k ⟨hk, rfl⟩
 refine cx_seq (cx_ops ?_)
 refine ax_q (q_ibin rfl rfl rfl) ?_
 refine ax_nil (cx_keep rfl rfl (cx_seq ?_))
 refine cx_cond rfl (fun h0 => ?_) (fun h0 => ?_)
 ·
  have h0 := dT h0
  have h0x : k < l.length := by omega
  have hlt : crcS (l.take k) < 4294967296 := crcS_lt
  have hxb : (crcS (l.take k) ^^^ l[k].toNat) < 4294967296 := xb_lt hlt
  have hc := l[k].toNat_lt
  refine cx_skip ?_
  refine cx_keep rfl rfl (cx_seq (cx_block (cx_seq (cx_ops ?_))))
  refine ax_q (q_ix rfl rfl (mapAt h0x)) ?_
  first | refine ax_q (q_load1_ptr rfl rfl rfl) ?_ | refine ax_q (q_load1_ip rfl) ?_
  refine ax_q (q_mov rfl) ?_
  refine ax_nil (cx_keep rfl rfl (cx_seq (cx_ops ?_)))
  refine ax_q (q_mov rfl) ?_
  refine ax_q (q_mov rfl) ?_
  refine ax_qe (r' := .d (.int .u32 (l[k].toNat : Int))) (q_conv rfl) (by rw [wr_u32 (by omega) (by omega)]) ?_
  refine ax_qe (r' := .d (.int .u32 (((crcS (l.take k) ^^^ l[k].toNat : Nat)) : Int))) (q_ibit rfl rfl rfl) (by rw [x32 hlt (by omega)]) ?_
  refine ax_q (q_mov rfl) ?_
  refine ax_nil (cx_keep rfl rfl (cx_seq (cx_ops ?_)))
  refine ax_q (q_mov rfl) ?_
  refine ax_nil (cx_keep rfl rfl (cx_block ?_))
  refine cx_loopU (fun n j => j ≤ 8 ∧ n = 8 - j) (fun j : Nat => [(3, .d (.int .u32 (bitsN j (crcS (l.take k) ^^^ l[k].toNat) : Int))), (16, int j)]) (fun _ => []) ⟨_, 0, ⟨Nat.zero_le _, rfl⟩, by repeat constructor⟩ ?_
  rintro n j ⟨hj, rfl⟩
  refine cx_seq (cx_ops ?_)
  refine ax_q (q_ibin rfl rfl rfl) ?_
  refine ax_nil (cx_keep rfl rfl (cx_seq ?_))
  refine cx_cond rfl (fun h1 => ?_) (fun h1 => ?_)
  ·
   have h1 := dT h1
   have hbl : bitsN j (crcS (l.take k) ^^^ l[k].toNat) < 4294967296 := bitsN_lt hxb j
   refine cx_skip ?_
   refine cx_keep rfl rfl (cx_seq (cx_block (cx_seq (cx_ops ?_))))
   refine ax_q (q_mov rfl) ?_
   refine ax_qe (r' := .d (.int .u32 ((bitsN j (crcS (l.take k) ^^^ l[k].toNat) % 2 : Nat) : Int))) (q_ibit rfl rfl rfl) (by rw [a32 hbl]) ?_
   refine ax_q (q_ibin rfl rfl rfl) ?_
   refine ax_nil (cx_keep rfl rfl ?_)
   refine cx_cond rfl (fun h2 => ?_) (fun h2 => ?_)
   ·
    have h2 := dT h2
    refine cx_ops ?_
    refine ax_q (q_mov rfl) ?_
    refine ax_qe (r' := .d (.int .u32 ((bitsN j (crcS (l.take k) ^^^ l[k].toNat) / 2 : Nat) : Int))) (q_ishf rfl rfl rfl (by omega)) (congrArg (fun z => AV.d (.int .u32 z)) sh1) ?_
    refine ax_qe (r' := .d (.int .u32 (((bitsN j (crcS (l.take k) ^^^ l[k].toNat) / 2) ^^^ 3988292384 : Nat) : Int))) (q_ibit rfl rfl rfl) (congrArg (fun z => AV.d (.int .u32 z)) (x32 (b := 3988292384) (by omega) (by omega))) ?_
    refine ax_q (q_mov rfl) ?_
    refine ax_nil (cx_keep rfl rfl (cx_ops ?_))
    refine ax_qe (r' := int ((j + 1 : Nat) : Int)) (q_ibin rfl rfl rfl) (by rw [wi (by omega) (by omega)]; rfl) ?_
    refine ax_q (q_mov rfl) ?_
    refine ax_nil ?_
    exact ⟨_, j + 1, by omega, ⟨by omega, rfl⟩, by rw [show bitsN (j + 1) (crcS (l.take k) ^^^ l[k].toNat) = _ from bit1_t (s := bitsN j (crcS (l.take k) ^^^ l[k].toNat)) (by omega)]; exact (by repeat constructor)⟩
   ·
    have h2 := dF h2
    refine cx_ops ?_
    refine ax_q (q_mov rfl) ?_
    refine ax_qe (r' := .d (.int .u32 ((bitsN j (crcS (l.take k) ^^^ l[k].toNat) / 2 : Nat) : Int))) (q_ishf rfl rfl rfl (by omega)) (congrArg (fun z => AV.d (.int .u32 z)) sh1) ?_
    refine ax_q (q_mov rfl) ?_
    refine ax_nil (cx_keep rfl rfl (cx_ops ?_))
    refine ax_qe (r' := int ((j + 1 : Nat) : Int)) (q_ibin rfl rfl rfl) (by rw [wi (by omega) (by omega)]; rfl) ?_
    refine ax_q (q_mov rfl) ?_
    refine ax_nil ?_
    exact ⟨_, j + 1, by omega, ⟨by omega, rfl⟩, by rw [show bitsN (j + 1) (crcS (l.take k) ^^^ l[k].toNat) = _ from bit1_f (s := bitsN j (crcS (l.take k) ^^^ l[k].toNat)) (by omega)]; exact (by repeat constructor)⟩
  ·
   have h1 := dF h1
   obtain rfl : j = 8 := by omega
   refine cx_exit rfl ?_
   refine cx_keep rfl rfl (cx_ops ?_)
   refine ax_qe (r' := int ((k + 1 : Nat) : Int)) (q_ibin rfl rfl rfl) (by rw [wi (by omega) (by omega)]; rfl) ?_
   refine ax_q (q_mov rfl) ?_
   refine ax_nil ?_
   exact ⟨_, k + 1, by omega, ⟨by omega, rfl⟩, by rw [crcS_succ h0x]; exact (by repeat constructor)⟩
 ·
  have h0 := dF h0
  obtain rfl : k = l.length := by omega
  refine cx_exit rfl ?_
  refine cx_keep rfl rfl (cx_seq (cx_ops ?_))
  refine ax_q (q_mov rfl) ?_
  refine ax_qe (r' := .d (.int .u32 (crcN l : Int))) (q_ibit rfl rfl rfl) (by rw [List.take_length]; exact congrArg (fun z => AV.d (.int .u32 z)) (x32 (b := 4294967295) crcS_lt (by omega))) ?_
  refine ax_q (q_mov rfl) ?_
  refine ax_nil (cx_keep rfl rfl ?_)
  refine cx_ret (ret0 rfl rfl ?_)
  exact ⟨rfl, rfl⟩


/- loop.example/g00332/impl.unsealed -/
def k_c_unsealed : XCode :=
 .seq (.ops [.op (some 2) (.mov (.k (.nils 1))),
   .op (some 3) (.mov (.k (.bool false)))])
 (.keep [0] (.seq (.ops [.op (some 5) (.mov (.t 0)),
   .op (some 6) (.lenS (.t 5)),
   .op (some 7) (.bin .sub (.t 6) (.k (.int .i64 4))),
   .op (some 4) (.mov (.t 7))])
 (.keep [0, 4] (.seq (.seq (.draw [.op (some 8) (.mov (.t 4)),
   .op (some 9) (.bin .lss (.t 8) (.k (.int .i64 0))),
   .op (some 10) (.mov (.t 9)),
   .andor 21 false 2 10 [.op (some 11) (.mov (.t 0)), .op (some 12) (.mov (.t 4)), .op (some 13) (.slc 1 (.t 11) none (some (.t 12)) none), .call (some 14) 235 [.t 13], .op (some 15) (.conv .i64 (.t 14)), .op (some 16) (.mov (.t 0)), .op (some 17) (.mov (.t 4)), .op (some 18) (.slc 1 (.t 16) (some (.t 17)) none none), .call (some 19) 213 [.t 18], .op (some 20) (.bin .neq (.t 15) (.t 19))] (.t 20)])
  (.keep [0, 4, 21] (.cond (.t 21)
  (.seq (.ops [.op (some 2) (.mov (.k (.nils 1))),
    .op (some 3) (.mov (.k (.bool false)))])
   (.keep [2, 3] (.ret)))
  (.skip))))
 (.keep [0, 4] (.seq (.ops [.op (some 22) (.mov (.t 0)),
   .op (some 23) (.mov (.t 4)),
   .op (some 24) (.slc 1 (.t 22) none (some (.t 23)) none),
   .op (some 2) (.mov (.t 24)),
   .op (some 3) (.mov (.k (.bool true)))])
 (.keep [2, 3] (.ret))))))))
theorem k_c_unsealed_fits : fitsF Tryz.prog 211 ⟨25, k_c_unsealed, [.t 2, .t 3]⟩ = true := by kernel_rfl
theorem c_unsealed {l : Str} (hl : l.length ≤ 1048576) : Con Tryz.prog noMv 211 [.d (.sl 1 (l.map byteRow))] [] (fun r h => r = .tup [.d (.sl 1 ((unsealF l).1.map byteRow)), bool (unsealF l).2] ∧ h = []) := by
 refine con_of2 k_c_unsealed_fits rfl fun C hP hmv => ?_
 unfold k_c_unsealed
 refine cx_seq (cx_ops ?_)
 refine ax_q (q_mov rfl) ?_
 refine ax_q (q_mov rfl) ?_
 refine ax_nil (cx_keep rfl rfl (cx_seq (cx_ops ?_)))
 refine ax_q (q_mov rfl) ?_
 refine ax_q (q_lenS_map rfl) ?_
 have hcl := @crcN_lt (l.take (l.length - 4))
 refine ax_qe (r' := int ((l.length : Int) - 4)) (q_ibin rfl rfl rfl) (by rw [wi (by omega) (by omega)]) ?_
 refine ax_q (q_mov rfl) ?_
 refine ax_nil (cx_keep rfl rfl (cx_seq (cx_seq (cx_draw ?_))))
 refine ax_q (q_mov rfl) ?_
 refine ax_q (q_ibin rfl rfl rfl) ?_
 refine ax_q (q_mov rfl) ?_
 apply ax_or rfl rfl
 ·
  intro g
  have g := dF g
  refine ax_q (q_mov rfl) ?_
  refine ax_q (q_mov rfl) ?_
  refine ax_qe (r' := .d (.sl 1 ((l.take (l.length - 4)).map byteRow))) (q_slc rfl rfl rfl (by omega) (by omega) (by simp; omega)) (slc_take (by omega)) ?_
  refine ax_callq rfl (c_check32 (l := l.take (l.length - 4)) ?_) hP (lal_id _ rfl) rfl ?_
  ·
   simp; omega
  first | refine ax_q (q_convB rfl) ?_ | refine ax_q (q_convI rfl (by omega)) ?_
  refine ax_q (q_mov rfl) ?_
  refine ax_q (q_mov rfl) ?_
  refine ax_qe (r' := .d (.sl 1 ((l.drop (l.length - 4)).map byteRow))) (q_slc rfl rfl rfl (by omega) (by simp; omega) (by simp)) (slc_drop2 (by omega)) ?_
  refine ax_callq rfl (c_big (l := l.drop (l.length - 4)) ?_) hP (lal_id _ rfl) rfl ?_
  ·
   simp; omega
  refine ax_q (q_ibin rfl rfl rfl) ?_
  exact ax_nil ⟨rfl, by repeat constructor⟩
 refine ax_nil (cx_keep rfl rfl ?_)
 refine cx_cond rfl (fun h0 => ?_) (fun h0 => ?_)
 ·
  have h0 := (fun h => (or_T h).imp dT nT) h0
  refine cx_seq (cx_ops ?_)
  refine ax_q (q_mov rfl) ?_
  refine ax_q (q_mov rfl) ?_
  refine ax_nil (cx_keep rfl rfl ?_)
  refine cx_wk (wk_virt 900 1 rfl rfl rfl) ?_
  refine cx_wk (wk_zs 2 900 [] rfl rfl) ?_
  refine cx_wk (wk_frz 2 900 rfl rfl (.whole rfl) rfl) ?_
  refine cx_ret (retN id [] rfl rfl rfl rfl rfl ?_)
  rw [unseal_1 h0]; exact ⟨rfl, rfl⟩
 ·
  have h0 := (fun h => And.intro (dF (or_F h).1) (nF (or_F h).2)) h0
  refine cx_skip ?_
  refine cx_keep rfl rfl (cx_seq (cx_ops ?_))
  refine ax_q (q_mov rfl) ?_
  refine ax_q (q_mov rfl) ?_
  refine ax_qe (r' := .d (.sl 1 ((l.take (l.length - 4)).map byteRow))) (q_slc rfl rfl rfl (by omega) (by omega) (by simp; omega)) (slc_take (by omega)) ?_
  refine ax_q (q_mov rfl) ?_
  refine ax_q (q_mov rfl) ?_
  refine ax_nil (cx_keep rfl rfl ?_)
  refine cx_ret (ret0 rfl rfl ?_)
  exact ⟨by rw [unseal_2 (fun h => h.elim h0.1 (fun q => q h0.2))]; rfl, rfl⟩


/- (ptr loop.example/g00332/impl.byteReader).fields -/
def k_c_fields : XCode :=
 .seq (.ops [.op (some 2) (.mov (.k (.nils 1)))])
 (.keep [0] (.seq (.ops [.op (some 4) (.bslice 1 []),
   .op (some 3) (.mov (.t 4))])
 (.keep [0, 3] (.seq (.seq (.ops [.op (some 5) (.mov (.t 0)),
   .call (some 6) 219 [.t 5],
   .op (some 7) (.mov (.k (.int .i64 0)))])
  (.keep [0, 3, 6, 7] (.block 0 (.loop (.seq (.ops [.op (some 8) (.bin .lss (.t 7) (.t 6))])
   (.keep [0, 3, 6, 7, 8] (.seq (.cond (.t 8)
    (.skip)
    (.exit 0))
   (.keep [0, 3, 6, 7] (.seq (.block 1 (.ops [.op (some 9) (.mov (.t 3)),
     .op (some 10) (.mov (.t 0)),
     .op (some 11) (.mov (.t 0)),
     .call (some 12) 219 [.t 11],
     .call (some 13) 212 [.t 10, .t 12],
     .op (some 14) (.b2s (.t 13)),
     .op (some 15) (.bslice 1 [.t 14]),
     .op (some 16) (.app 1 16 [.str []] (.t 9) (.t 15)),
     .op (some 3) (.mov (.t 16))]))
   (.keep [0, 3, 6, 7] (.ops [.op (some 17) (.bin .add (.t 7) (.k (.int .i64 1))),
    .op (some 7) (.mov (.t 17))])))))))))))
 (.keep [3] (.seq (.ops [.op (some 18) (.mov (.t 3)),
   .op (some 2) (.mov (.t 18))])
 (.keep [2] (.ret))))))))
theorem k_c_fields_fits : fitsF Tryz.prog 214 ⟨19, k_c_fields, [.t 2]⟩ = true := by kernel_rfl
theorem c_fields {r0 : Rd} (hl : r0.rest.length ≤ 1048576) : Con Tryz.prog noMv 214 [.ptr 1000 0] [(1000, r0.box)] (fun r h => r = .osl 0 1 0 (fieldsF r0).1.length ∧ h = [(0, .rows 1 ((fieldsF r0).1.map strRow)), (1000, (fieldsF r0).2.box)]) := by
 refine con_of2 k_c_fields_fits rfl fun C hP hmv => ?_
 unfold k_c_fields
 refine cx_seq (cx_ops ?_)
 refine ax_q (q_mov rfl) ?_
 refine ax_nil (cx_keep rfl rfl (cx_seq (cx_ops ?_)))
 refine ax_e (e_bslice rfl (by decide) rfl rfl) ?_
 refine ax_q (q_mov rfl) ?_
 refine ax_nil (cx_keep rfl rfl (cx_seq (cx_seq (cx_ops ?_))))
 refine ax_q (q_mov rfl) ?_
 refine ax_call rfl (vcall_own (c_num  ?_) hP hmv false (fun _ => 1000) [1000] ⟨rfl, rfl, rfl, rfl, ⟨rfl, trivial⟩, rfl, rfl, rfl⟩ (.pass rfl rfl .nil) ?_)
 ·
  assumption
 rintro r h ⟨rfl, rfl⟩
 refine ⟨fun _ => 1000, [], ⟨rfl, rfl, rfl, rfl, mem1 rfl, rfl, rfl, fun h => absurd h Bool.false_ne_true⟩, ?_⟩
 obtain ⟨q1, q2⟩ := @numF_lt r0
 refine ax_q (q_mov rfl) ?_
 refine ax_nil (cx_keep rfl rfl (cx_block ?_))
 refine cx_loopU (fun n1 (p : Nat × Nat × Rd × List Str) => n1 = p.1 ∧ p.1 + p.2.1 = (numF r0).1 ∧ p.2.2.2.length = p.2.1 ∧ p.2.2.1.rest.length ≤ 1048576 ∧ fldL p.1 p.2.2.1 p.2.2.2 = fieldsF r0) (fun p => [(3, .osl 4 1 0 p.2.2.2.length), (7, int p.2.1)]) (fun p => [(1000, p.2.2.1.box), (4, .rows 1 (p.2.2.2.map strRow))])
  ⟨_, ((numF r0).1, 0, (numF r0).2, []), ⟨rfl, rfl, rfl, by simp only; omega, rfl⟩, by repeat constructor⟩ ?_
 rintro n1 ⟨m, k, u, l⟩ ⟨rfl, hm, hk, hu, he⟩
 simp only at hm hk hu he ⊢
 refine cx_seq (cx_ops ?_)
 refine ax_q (q_ibin rfl rfl rfl) ?_
 refine ax_nil (cx_keep rfl rfl (cx_seq ?_))
 refine cx_cond rfl (fun h0 => ?_) (fun h0 => ?_)
 ·
  have h0 := dT h0
  obtain ⟨m, rfl⟩ : ∃ m2, n1 = m2 + 1 := ⟨n1 - 1, by omega⟩
  obtain ⟨k1, k2⟩ := @numF_lt u
  obtain ⟨k3, k4⟩ := @takeF_len (numF u).2 (numF u).1
  refine cx_skip ?_
  refine cx_keep rfl rfl (cx_seq (cx_block (cx_ops ?_)))
  refine ax_q (q_mov rfl) ?_
  refine ax_q (q_mov rfl) ?_
  refine ax_q (q_mov rfl) ?_
  refine ax_call rfl (vcall_own (c_num  ?_) hP hmv false (fun _ => 1000) [1000] ⟨rfl, rfl, rfl, rfl, ⟨rfl, trivial⟩, rfl, rfl, rfl⟩ (.pass rfl rfl .nil) ?_)
  ·
   assumption
  rintro r h ⟨rfl, rfl⟩
  refine ⟨fun _ => 1000, [], ⟨rfl, rfl, rfl, rfl, mem1 rfl, rfl, rfl, fun h => absurd h Bool.false_ne_true⟩, ?_⟩
  refine ax_call rfl (vcall_own (c_take (n := (numF u).1) ?_ ?_) hP hmv false (fun _ => 1000) [1000] ⟨rfl, rfl, rfl, rfl, ⟨rfl, trivial⟩, rfl, rfl, rfl⟩ (.pass rfl rfl (.pass rfl rfl .nil)) ?_)
  ·
   first | assumption | omega
  ·
   first | assumption | omega
  rintro r h ⟨rfl, rfl⟩
  refine ⟨fun _ => 1000, [], ⟨rfl, rfl, rfl, rfl, mem1 rfl, rfl, rfl, fun h => absurd h Bool.false_ne_true⟩, ?_⟩
  refine ax_qe (r' := .d (.str (takeF (numF u).2 (numF u).1).1)) (q_b2s rfl (src_sl 1 _) rfl ⟨0, 1, 0, 0, .inr (.inr rfl)⟩) (rfl) ?_
  refine ax_e (e_bslice rfl (by decide) rfl rfl) ?_
  refine ax_e (e_appn (n' := (l ++ [(takeF (numF u).2 (numF u).1).1]).length) (rs' := (l ++ [(takeF (numF u).2 (numF u).1).1]).map strRow) rfl rfl (by simp) rfl (src_osl rfl (by simp)) (.inl (by decide)) (hbnd (by omega) (by simp) (by decide)) (by simp) (app1 rfl)) ?_
  refine ax_q (q_mov rfl) ?_
  refine ax_nil (cx_keep rfl rfl (cx_ops ?_))
  refine ax_qe (r' := int ((k + 1 : Nat) : Int)) (q_ibin rfl rfl rfl) (by rw [wi (by omega) (by omega)]; rfl) ?_
  refine ax_q (q_mov rfl) ?_
  refine ax_nil ?_
  exact ⟨_, (m, k + 1, (takeF (numF u).2 (numF u).1).2, l ++ [(takeF (numF u).2 (numF u).1).1]), by omega, ⟨rfl, by simp only; omega, by simp [hk], by simp only; omega, by rw [← he]; rfl⟩, by repeat constructor⟩
 ·
  have h0 := dF h0
  obtain rfl : n1 = 0 := by omega
  have he2 : fieldsF r0 = (l, u) := he.symm
  refine cx_exit rfl ?_
  refine cx_keep rfl rfl (cx_seq (cx_ops ?_))
  refine ax_q (q_mov rfl) ?_
  refine ax_q (q_mov rfl) ?_
  refine ax_nil (cx_keep rfl rfl ?_)
  refine cx_ret (retN (fun e => bif Nat.beq e 4 then 0 else e) [4, 1000] rfl rfl rfl rfl rfl ?_)
  rw [he2]; exact ⟨rfl, rfl⟩


/- loop.example/g00332/impl.ReadPage -/
def k_c_ReadPage : XCode :=
 .seq (.ops [.op (some 4) (.alloc [.int .i64 0, .nils 1]),
   .op (some 5) (.mov (.k (.int .i64 0)))])
 (.keep [0, 1, 4] (.seq (.seq (.ops [.op (some 11) (.mov (.t 1)),
   .op (some 12) (.lenS (.t 11)),
   .op (some 13) (.bin .gtr (.t 12) (.k (.int .i64 65536)))])
  (.keep [0, 1, 4, 13] (.cond (.t 13)
  (.seq (.ops [.op (some 14) (.build [.int .i64 0, .nils 1] []),
    .op none (.store 2 (.t 4) (.t 14)),
    .op (some 5) (.mov (.k (.int .i64 2)))])
   (.keep [4, 5] (.ret)))
  (.skip))))
 (.keep [0, 1, 4] (.seq (.ops [.op (some 16) (.mov (.t 1)),
   .call (some 17) 211 [.t 16],
   .op (some 15) (.mov (.t 17)),
   .op (some 18) (.ext (.t 15) 0),
   .op (some 19) (.ext (.t 15) 1),
   .op (some 6) (.mov (.t 18)),
   .op (some 7) (.mov (.t 19))])
 (.keep [0, 4, 6, 7] (.seq (.seq (.ops [.op (some 20) (.mov (.t 7)),
   .op (some 21) (.not (.t 20))])
  (.keep [0, 4, 6, 21] (.cond (.t 21)
  (.seq (.ops [.op (some 22) (.build [.int .i64 0, .nils 1] []),
    .op none (.store 2 (.t 4) (.t 22)),
    .op (some 5) (.mov (.k (.int .i64 8)))])
   (.keep [4, 5] (.ret)))
  (.skip))))
 (.keep [0, 4, 6] (.seq (.ops [.op (some 23) (.mov (.t 6)),
   .op (some 24) (.build [.nils 1, .bool false] [(0, 1, .t 23)]),
   .op (some 25) (.box (.t 24)),
   .op (some 8) (.mov (.t 25))])
 (.keep [0, 4, 8] (.seq (.ops [.op (some 26) (.mov (.t 8)),
   .call (some 27) 212 [.t 26, .k (.int .i64 4)],
   .op (some 9) (.mov (.t 27))])
 (.keep [0, 4, 8, 9] (.seq (.ops [.op (some 28) (.mov (.t 9)),
   .op (some 29) (.slc 1 (.t 28) (some (.k (.int .i64 2))) none none),
   .call (some 30) 213 [.t 29],
   .op (some 31) (.mov (.t 8)),
   .call (some 32) 214 [.t 31],
   .op (some 33) (.build [.int .i64 0, .nils 1] [(0, 1, .t 30), (1, 1, .t 32)]),
   .op (some 10) (.alloc [.int .i64 0, .nils 1]),
   .op none (.store 2 (.t 10) (.t 33))])
 (.keep [0, 4, 8, 9, 10] (.seq (.seq (.ops [.op (some 34) (.mov (.t 8)),
   .call (some 35) 215 [.t 34],
   .op (some 36) (.not (.t 35)),
   .op (some 37) (.mov (.t 36)),
   .andor 42 false 3 37 [.op (some 38) (.mov (.t 9)), .op (some 39) (.iadr 1 (.t 38) (.k (.int .i64 0))), .op (some 40) (.load1 (.t 39)), .op (some 41) (.bin .neq (.t 40) (.k (.int .u8 112)))] (.t 41),
   .op (some 43) (.mov (.t 42)),
   .andor 50 false 9 43 [.op (some 44) (.mov (.t 9)), .op (some 45) (.iadr 1 (.t 44) (.k (.int .i64 1))), .op (some 46) (.load1 (.t 45)), .op (some 47) (.conv .i64 (.t 46)), .op (some 48) (.mov (.t 0)), .op (some 49) (.bin .neq (.t 47) (.t 48))] (.t 49),
   .op (some 51) (.mov (.t 50)),
   .andor 55 false 17 51 [.op (some 52) (.loadN 2 (.t 10)), .call (some 53) 153 [.t 52], .op (some 54) (.not (.t 53))] (.t 54)])
  (.keep [4, 10, 55] (.cond (.t 55)
  (.seq (.ops [.op (some 56) (.build [.int .i64 0, .nils 1] []),
    .op none (.store 2 (.t 4) (.t 56)),
    .op (some 5) (.mov (.k (.int .i64 3)))])
   (.keep [4, 5] (.ret)))
  (.skip))))
 (.keep [4, 10] (.seq (.ops [.op (some 57) (.loadN 2 (.t 10)),
   .op none (.store 2 (.t 4) (.t 57)),
   .op (some 5) (.mov (.k (.int .i64 0)))])
 (.keep [4, 5] (.ret))))))))))))))))))
theorem k_c_ReadPage_fits : fitsF Tryz.prog 151 ⟨58, k_c_ReadPage, [.cN 4 2, .t 5]⟩ = true := by kernel_rfl
set_option maxHeartbeats 2000000 in
theorem c_ReadPage {no : Int} {b : Str} (hl : b.length ≤ 1048576) : Con Tryz.prog noMv 151 [int no, .d (.sl 1 (b.map byteRow))] [] (fun r h => r = .tup [(rpF no b).1.avO 0, int (rpF no b).2] ∧ h = (rpF no b).1.hO 0) := by
 refine con_of2 k_c_ReadPage_fits rfl fun C hP hmv => ?_
 unfold k_c_ReadPage
 refine cx_seq (cx_ops ?_)
 refine ax_e (e_alloc (by decide) rfl rfl) ?_
 refine ax_q (q_mov rfl) ?_
 refine ax_nil (cx_keep rfl rfl (cx_seq (cx_seq (cx_ops ?_))))
 refine ax_q (q_mov rfl) ?_
 refine ax_q (q_lenS_map rfl) ?_
 refine ax_q (q_ibin rfl rfl rfl) ?_
 refine ax_nil (cx_keep rfl rfl ?_)
 refine cx_cond rfl (fun h0 => ?_) (fun h0 => ?_)
 ·
  have h0 := dT h0
  refine cx_seq (cx_ops ?_)
  refine ax_q (q_build rfl) ?_
  refine ax_e (e_st rfl rfl rfl rfl rfl rfl rfl) ?_
  refine ax_q (q_mov rfl) ?_
  refine ax_nil (cx_keep rfl rfl ?_)
  have e : rpF no b = (.zero, 2) := rpF_1 h0
  refine cx_wk (wk_virt 900 1 rfl rfl rfl) ?_
  refine cx_wk (wk_zsb 4 900 1 rfl rfl rfl) ?_
  refine cx_ret (retN (fun _ => 0) [900] rfl rfl rfl rfl rfl ?_)
  rw [e]; exact ⟨rfl, rfl⟩
 ·
  have h0 := dF h0
  refine cx_skip ?_
  refine cx_keep rfl rfl (cx_seq (cx_ops ?_))
  refine ax_q (q_mov rfl) ?_
  have hul := @unseal_len b
  refine ax_call rfl (vc_pure0 (c_unsealed (l := b) ?_) hP rfl rfl ?_)
  ·
   assumption
  refine ax_q (q_mov rfl) ?_
  refine ax_q (q_ext rfl rfl) ?_
  refine ax_q (q_ext rfl rfl) ?_
  refine ax_q (q_mov rfl) ?_
  refine ax_q (q_mov rfl) ?_
  refine ax_nil (cx_keep rfl rfl (cx_seq (cx_seq (cx_ops ?_))))
  refine ax_q (q_mov rfl) ?_
  refine ax_q (q_not rfl) ?_
  refine ax_nil (cx_keep rfl rfl ?_)
  refine cx_cond rfl (fun h1 => ?_) (fun h1 => ?_)
  ·
   have h1 := bT h1
   refine cx_seq (cx_ops ?_)
   refine ax_q (q_build rfl) ?_
   refine ax_e (e_st rfl rfl rfl rfl rfl rfl rfl) ?_
   refine ax_q (q_mov rfl) ?_
   refine ax_nil (cx_keep rfl rfl ?_)
   have e : rpF no b = (.zero, 8) := rpF_2 h0 h1
   refine cx_wk (wk_virt 900 1 rfl rfl rfl) ?_
   refine cx_wk (wk_zsb 4 900 1 rfl rfl rfl) ?_
   refine cx_ret (retN (fun _ => 0) [900] rfl rfl rfl rfl rfl ?_)
   rw [e]; exact ⟨rfl, rfl⟩
  ·
   have h1 := bF h1
   refine cx_skip ?_
   refine cx_keep rfl rfl (cx_seq (cx_ops ?_))
   refine ax_q (q_mov rfl) ?_
   refine ax_q (q_build rfl) ?_
   refine ax_e (e_box rfl rfl (by decide) rfl rfl rfl) ?_
   refine ax_q (q_mov rfl) ?_
   refine ax_nil (cx_keep rfl rfl (cx_seq (cx_ops ?_)))
   refine ax_q (q_mov rfl) ?_
   refine ax_call rfl (vcall_own (c_take (r0 := ⟨(unsealF b).1, false⟩) (n := 4) ?_ ?_) hP hmv false (fun _ => 25) [1000] ⟨rfl, rfl, rfl, rfl, ⟨rfl, trivial⟩, rfl, rfl, rfl⟩ (.pass rfl rfl (.pass rfl rfl .nil)) ?_)
   ·
    first | assumption | omega
   ·
    first | assumption | omega | (simp; done) | (simp; omega)
   rintro r h ⟨rfl, rfl⟩
   refine ⟨fun _ => 25, [], ⟨rfl, rfl, rfl, rfl, mem1 rfl, rfl, rfl, fun h => absurd h Bool.false_ne_true⟩, ?_⟩
   obtain ⟨t1, t2⟩ := @takeF_len ⟨(unsealF b).1, false⟩ 4
   have hh := @hdF_len (unsealF b).1
   obtain ⟨f1, f2⟩ := @fields_len (takeF ⟨(unsealF b).1, false⟩ 4).2
   refine ax_q (q_mov rfl) ?_
   refine ax_nil (cx_keep rfl rfl (cx_seq (cx_ops ?_)))
   refine ax_q (q_mov rfl) ?_
   refine ax_qe (r' := .d (.sl 1 (((hdF (unsealF b).1).drop 2).map byteRow))) (q_slc rfl rfl rfl (by omega) (by simp; omega) (by simp)) (slc_drop) ?_
   refine ax_call rfl (vc_pure0 (c_big (l := (hdF (unsealF b).1).drop 2) ?_) hP rfl rfl ?_)
   ·
    rw [List.length_drop]; omega
   refine ax_q (q_mov rfl) ?_
   refine ax_call rfl (vcall_own (c_fields (r0 := (takeF ⟨(unsealF b).1, false⟩ 4).2) (by simp only at t2; omega)) hP hmv false (fun _ => 25) [1000] ⟨rfl, rfl, rfl, rfl, ⟨rfl, trivial⟩, rfl, rfl, rfl⟩ (.pass rfl rfl .nil) ?_)
   rintro r h ⟨rfl, rfl⟩
   refine ⟨fun e => bif Nat.beq e 1000 then 25 else 32, [0], ⟨rfl, rfl, rfl, rfl, mem1 rfl, rfl, rfl, fun h => absurd h Bool.false_ne_true⟩, ?_⟩
   refine ax_q (q_build rfl) ?_
   refine ax_e (e_alloc (by decide) rfl rfl) ?_
   refine ax_e (e_st rfl rfl rfl rfl rfl rfl rfl) ?_
   refine ax_nil (cx_keep rfl rfl (cx_seq (cx_seq (cx_ops ?_))))
   refine ax_q (q_mov rfl) ?_
   refine ax_call rfl (vcall_own (c_isDone (r0 := rdE (unsealF b).1) ) hP hmv false (fun _ => 25) [1000] ⟨rfl, rfl, rfl, rfl, ⟨rfl, trivial⟩, rfl, rfl, rfl⟩ (.pass rfl rfl .nil) ?_)
   rintro r h ⟨rfl, rfl⟩
   refine ⟨fun _ => 25, [], ⟨rfl, rfl, rfl, rfl, mem1 rfl, rfl, rfl, fun h => absurd h Bool.false_ne_true⟩, ?_⟩
   refine ax_q (q_not rfl) ?_
   refine ax_q (q_mov rfl) ?_
   apply ax_or rfl rfl
   ·
    intro g
    have g := bF g
    refine ax_q (q_mov rfl) ?_
    refine ax_q (q_ixI rfl rfl (by omega) (mapAt (by show 0 < (hdF _).length; omega))) ?_
    refine ax_qe (r' := .d (.int .u8 (((hdF (unsealF b).1).getD 0 0).toNat : Int))) (q_load1_ip rfl) (by rw [getD_at (by omega)]; rfl) ?_
    refine ax_q (q_ibin rfl rfl rfl) ?_
    exact ax_nil ⟨rfl, by repeat constructor⟩
   refine ax_q (q_mov rfl) ?_
   apply ax_or rfl rfl
   ·
    intro g
    have g := (fun h => And.intro (bF (or_F h).1) (nF (or_F h).2)) g
    refine ax_q (q_mov rfl) ?_
    refine ax_q (q_ixI rfl rfl (by omega) (mapAt (by show 1 < (hdF _).length; omega))) ?_
    refine ax_qe (r' := .d (.int .u8 (((hdF (unsealF b).1).getD 1 0).toNat : Int))) (q_load1_ip rfl) (by rw [getD_at (by omega)]; rfl) ?_
    refine ax_q (q_convB rfl) ?_
    refine ax_q (q_mov rfl) ?_
    refine ax_q (q_ibin rfl rfl rfl) ?_
    exact ax_nil ⟨rfl, by repeat constructor⟩
   refine ax_q (q_mov rfl) ?_
   apply ax_or rfl rfl
   ·
    intro g
    have g := (fun h => And.intro ((fun h => And.intro (bF (or_F h).1) (nF (or_F h).2)) (or_F h).1) (nF (or_F h).2)) g
    refine ax_q (q_ldN rfl rfl rfl) ?_
    first | refine ax_call rfl (vc_pure0 (c_PageOK (p := rdP (unsealF b).1) ?_) hP rfl rfl ?_) | refine ax_call rfl (vc_lend0 (c_PageOK (p := rdP (unsealF b).1) ?_) hP (by repeat (first | exact lal_id _ rfl | exact LAL.nil | refine LAL.cons ?_ ?_ | exact la_id _ rfl | exact LA.lend (lend_whole rfl (by first | (simp; done) | (rw [List.length_map]; rfl))) | refine LA.agg ?_ | refine LA.fn ?_ | refine LA.lend ?_ | exact Lend.d _ | exact Lend.zs _ | exact lend_whole rfl (by first | (simp; done) | (rw [List.length_map]; rfl)) | refine Lend.ptr rfl ?_ | refine Lend.fn ?_ | exact LendL.nil | refine LendL.cons ?_ ?_)) rfl rfl ?_)
    ·
     show (fieldsF _).1.length ≤ _; omega
    refine ax_q (q_not rfl) ?_
    exact ax_nil ⟨rfl, by repeat constructor⟩
   refine ax_nil (cx_keep rfl rfl ?_)
   refine cx_cond rfl (fun h2 => ?_) (fun h2 => ?_)
   ·
    have h2 : badP no (unsealF b).1 = true := h2
    refine cx_seq (cx_ops ?_)
    refine ax_q (q_build rfl) ?_
    refine ax_e (e_st rfl rfl rfl rfl rfl rfl rfl) ?_
    refine ax_q (q_mov rfl) ?_
    refine ax_nil (cx_keep rfl rfl ?_)
    have e : rpF no b = (.zero, 3) := rpF_3 h0 h1 h2
    refine cx_wk (wk_virt 900 1 rfl rfl rfl) ?_
    refine cx_wk (wk_zsb 4 900 1 rfl rfl rfl) ?_
    refine cx_ret (retN (fun _ => 0) [900] rfl rfl rfl rfl rfl ?_)
    rw [e]; exact ⟨rfl, rfl⟩
   ·
    have h2 : badP no (unsealF b).1 = false := h2
    refine cx_skip ?_
    refine cx_keep rfl rfl (cx_seq (cx_ops ?_))
    refine ax_q (q_ldN rfl rfl rfl) ?_
    refine ax_e (e_st rfl rfl rfl rfl rfl rfl rfl) ?_
    refine ax_q (q_mov rfl) ?_
    refine ax_nil (cx_keep rfl rfl ?_)
    have e : rpF no b = (rdP (unsealF b).1, 0) := rpF_4 h0 h1 h2
    refine cx_ret (retN (fun _ => 0) [32] rfl rfl rfl rfl rfl ?_)
    rw [e]; exact ⟨rfl, rfl⟩


/- (ptr loop.example/g00332/impl.Store).diskPage -/
def k_c_diskPage : XCode :=
 .seq (.ops [.op (some 4) (.alloc [.int .i64 0, .nils 1]),
   .op (some 5) (.mov (.k (.bool false)))])
 (.keep [0, 1, 4] (.seq (.ops [.op (some 9) (.mov (.t 0)),
   .op (some 10) (.nilck (.t 9)),
   .op (some 11) (.fadr (.t 10) 0),
   .op (some 12) (.loadN 4 (.t 11)),
   .op (some 13) (.mov (.t 1)),
   .op (some 14) (.bin .add (.k (.int .i64 1)) (.t 13)),
   .call (some 15) 149 [.t 12, .t 14],
   .op (some 6) (.mov (.t 15))])
 (.keep [1, 4, 6] (.seq (.seq (.ops [.op (some 16) (.mov (.t 6)),
   .op (some 17) (.bin .eql (.t 16) (.k (.str [])))])
  (.keep [1, 4, 6, 17] (.cond (.t 17)
  (.seq (.ops [.call (some 18) 150 [],
    .op none (.store 2 (.t 4) (.t 18)),
    .op (some 5) (.mov (.k (.bool true)))])
   (.keep [4, 5] (.ret)))
  (.skip))))
 (.keep [1, 4, 6] (.seq (.ops [.op (some 20) (.mov (.t 1)),
   .op (some 21) (.mov (.t 6)),
   .op (some 22) (.s2b (.t 21)),
   .call (some 23) 151 [.t 20, .t 22],
   .op (some 19) (.mov (.t 23)),
   .op (some 24) (.ext (.t 19) 0),
   .op (some 25) (.ext (.t 19) 1),
   .op (some 7) (.alloc [.int .i64 0, .nils 1]),
   .op none (.store 2 (.t 7) (.t 24)),
   .op (some 8) (.mov (.t 25))])
 (.keep [4, 7, 8] (.seq (.ops [.op (some 26) (.loadN 2 (.t 7)),
   .op (some 27) (.mov (.t 8)),
   .op (some 28) (.bin .eql (.t 27) (.k (.int .i64 0))),
   .op none (.store 2 (.t 4) (.t 26)),
   .op (some 5) (.mov (.t 28))])
 (.keep [4, 5] (.ret))))))))))
theorem k_c_diskPage_fits : fitsF Tryz.prog 73 ⟨29, k_c_diskPage, [.cN 4 2, .t 5]⟩ = true := by kernel_rfl
theorem c_diskPage {s : GStore} {no : Nat} (hd : diskOK s.Disk = true) (hs : s.Disk.Sectors.length = 69) (hn : no < 8) : Con Tryz.prog noMv 73 [.ptr 1000 0, int (no : Nat)] [(1000, .box (s.row.map .d))] (fun r h => h = [(1000, .box (s.row.map .d))] ∧ ∃ p ok, r = .tup [Page.av p, bool ok] ∧ ok = (pageD s.Disk no).2 ∧ (ok = true → p = (pageD s.Disk no).1)) := by
 refine con_of2 k_c_diskPage_fits rfl fun C hP hmv => ?_
 unfold k_c_diskPage
 obtain ⟨q1, q2, q3⟩ := diskOK_head hd
 have htl := diskOK_txt hd (1 + no)
 refine cx_seq (cx_ops ?_)
 refine ax_e (e_alloc (by decide) rfl rfl) ?_
 refine ax_q (q_mov rfl) ?_
 refine ax_nil (cx_keep rfl rfl (cx_seq (cx_ops ?_)))
 refine ax_q (q_mov rfl) ?_
 refine ax_q (q_nilck_ptr rfl) ?_
 refine ax_q (q_fadr_ptr rfl) ?_
 refine ax_q (q_ldN rfl rfl rfl) ?_
 refine ax_q (q_mov rfl) ?_
 refine ax_qe (r' := int ((1 + no : Nat) : Int)) (q_ibin rfl rfl rfl) (by rw [wi (by omega) (by omega)]; rfl) ?_
 refine ax_call rfl (vc_pure0 (c_read (d := s.Disk) (i := 1 + no) ?_ ?_) hP rfl rfl ?_)
 ·
  first | assumption | omega
 ·
  first | assumption | omega
 show AXI _ _ _ _ ⟨(15, str (txtD s.Disk (1 + no))) :: _, _⟩ _
 refine ax_q (q_mov rfl) ?_
 refine ax_nil (cx_keep rfl rfl (cx_seq (cx_seq (cx_ops ?_))))
 refine ax_q (q_mov rfl) ?_
 refine ax_q (q_sbin rfl rfl rfl) ?_
 refine ax_nil (cx_keep rfl rfl ?_)
 refine cx_cond rfl (fun h0 => ?_) (fun h0 => ?_)
 ·
  have h0 := dT h0
  have h0 : txtD s.Disk (1 + no) = [] := h0
  refine cx_seq (cx_ops ?_)
  refine ax_call rfl (vc_pure (c_NewPage  ) hP rfl ?_)
  rintro r h ⟨rfl, rfl⟩
  refine ⟨fun i => 18 + 200 * i, [0], ⟨rfl, rfl, rfl, rfl, rfl, (by first | exact (fun h => absurd h Bool.false_ne_true) | exact (fun _ => ⟨rfl, (noisl_of (by repeat (first | exact trivial | refine ⟨noisl_map (fun _ => rfl), ?_⟩ | refine ⟨?_, ?_⟩)))⟩))⟩, ?_⟩
  skip
  refine ax_wk (wk_frz 18 18 rfl rfl (.agg (.cons (.same rfl) (.cons (.whole rfl) .nil))) rfl) ?_
  refine ax_e (e_st rfl rfl rfl rfl rfl rfl rfl) ?_
  refine ax_q (q_mov rfl) ?_
  refine ax_nil (cx_keep rfl rfl ?_)
  refine cx_ret (retN id [1000] rfl rfl rfl rfl rfl ?_)
  exact ⟨rfl, _, true, rfl, by rw [show pageD s.Disk no = _ from pageT_0 h0], fun _ => by rw [show pageD s.Disk no = _ from pageT_0 h0]; rfl⟩
 ·
  have h0 := dF h0
  have h0 : ¬ txtD s.Disk (1 + no) = [] := h0
  obtain ⟨e1, e2⟩ := @pg_same no (txtD s.Disk (1 + no)) (by omega)
  refine cx_skip ?_
  refine cx_keep rfl rfl (cx_seq (cx_ops ?_))
  refine ax_q (q_mov rfl) ?_
  refine ax_q (q_mov rfl) ?_
  refine ax_e (e_s2b rfl (by decide) rfl rfl) ?_
  first | refine ax_call rfl (vc_pure (c_ReadPage (no := (no : Int)) (b := txtD s.Disk (1 + no)) ?_) hP rfl ?_) | refine ax_call rfl (vc_lend (c_ReadPage (no := (no : Int)) (b := txtD s.Disk (1 + no)) ?_) hP (by repeat (first | exact lal_id _ rfl | exact LAL.nil | refine LAL.cons ?_ ?_ | exact la_id _ rfl | exact LA.lend (lend_whole rfl (by first | (simp; done) | (rw [List.length_map]; rfl))) | refine LA.agg ?_ | refine LA.fn ?_ | refine LA.lend ?_ | exact Lend.d _ | exact Lend.zs _ | exact lend_whole rfl (by first | (simp; done) | (rw [List.length_map]; rfl)) | refine Lend.ptr rfl ?_ | refine Lend.fn ?_ | exact LendL.nil | refine LendL.cons ?_ ?_)) ?_)
  ·
   first | assumption | omega
  rintro r h ⟨rfl, rfl⟩
  refine ⟨fun i => 23 + 200 * i, [0], ⟨rfl, rfl, rfl, rfl, rfl, (by first | exact (fun h => absurd h Bool.false_ne_true) | exact (fun _ => ⟨rfl, (noisl_of (by repeat (first | exact trivial | refine ⟨noisl_map (fun _ => rfl), ?_⟩ | refine ⟨?_, ?_⟩)))⟩))⟩, ?_⟩
  skip
  refine ax_wk (wk_frz 23 23 rfl rfl (.tup (.cons (.agg (.cons (.same rfl) (.cons (.whole (List.length_map _).symm) .nil))) (.cons (.same rfl) .nil))) rfl) ?_
  refine ax_q (q_mov rfl) ?_
  refine ax_q (q_ext rfl rfl) ?_
  refine ax_q (q_ext rfl rfl) ?_
  refine ax_e (e_alloc (by decide) rfl rfl) ?_
  refine ax_e (e_st rfl rfl rfl rfl rfl rfl rfl) ?_
  refine ax_q (q_mov rfl) ?_
  refine ax_nil (cx_keep rfl rfl (cx_seq (cx_ops ?_)))
  refine ax_q (q_ldN rfl rfl rfl) ?_
  refine ax_q (q_mov rfl) ?_
  refine ax_q (q_ibin rfl rfl rfl) ?_
  refine ax_e (e_st rfl rfl rfl rfl rfl rfl rfl) ?_
  refine ax_q (q_mov rfl) ?_
  refine ax_nil (cx_keep rfl rfl ?_)
  refine cx_ret (retN id [1000] rfl rfl rfl rfl rfl ?_)
  exact ⟨rfl, (rpF no (txtD s.Disk (1 + no))).1, _, rfl, by rw [show pageD s.Disk no = _ from pageT_1 h0, Bool.eq_iff_iff, ← e1, decide_eq_true_eq], fun h => by rw [show pageD s.Disk no = _ from pageT_1 h0]; exact e2 (e1.1 (of_decide_eq_true h))⟩


/- slices.IndexFunc[[]loop.example/g00332/impl.Frame,loop.example/g00332/impl.Frame] -/
def k_c_IndexFunc_Frame : XCode :=
 .seq (.ops [.op (some 4) (.mov (.k (.int .i64 0)))])
 (.keep [0, 1] (.seq (.seq (.ops [.op (some 6) (.mov (.t 0)),
   .op (some 7) (.lenS (.t 6)),
   .op (some 8) (.mov (.k (.int .i64 0)))])
  (.keep [0, 1, 7, 8] (.block 0 (.loop (.seq (.ops [.op (some 9) (.bin .lss (.t 8) (.t 7))])
   (.keep [0, 1, 7, 8, 9] (.seq (.cond (.t 9)
    (.skip)
    (.exit 0))
   (.keep [0, 1, 7, 8] (.seq (.block 1 (.seq (.ops [.op (some 10) (.mov (.t 8)),
     .op (some 5) (.mov (.t 10))])
    (.keep [0, 1, 5, 7, 8] (.seq (.ops [.op (some 11) (.mov (.t 1)),
     .op (some 12) (.mov (.t 0)),
     .op (some 13) (.mov (.t 5)),
     .op (some 14) (.iadr 5 (.t 12) (.t 13)),
     .op (some 15) (.loadN 5 (.t 14)),
     .callv (some 16) (.t 11) [.t 15]])
    (.keep [0, 1, 5, 7, 8, 16] (.cond (.t 16)
    (.seq (.ops [.op (some 17) (.mov (.t 5)),
      .op (some 4) (.mov (.t 17))])
     (.keep [4] (.ret)))
    (.skip)))))))
   (.keep [0, 1, 7, 8] (.ops [.op (some 18) (.bin .add (.t 8) (.k (.int .i64 1))),
    .op (some 8) (.mov (.t 18))])))))))))))
 (.keep [] (.seq (.ops [.op (some 4) (.mov (.k (.int .i64 (-1))))])
 (.keep [4] (.ret))))))
theorem k_c_IndexFunc_Frame_fits : fitsF Tryz.prog 216 ⟨19, k_c_IndexFunc_Frame, [.t 4]⟩ = true := by kernel_rfl
theorem c_IndexFunc_Frame {xs : List GFrame} {f : Nat} {ds : List D} (p : GFrame → Bool) (hw : xs.length ≤ 9223372036854775807) (hb : hasBody Tryz.prog f = true) (hf : ∀ s ∈ xs, Con Tryz.prog noMv f (s.av :: ds.map AV.d) [] (fun r h => r = bool (p s) ∧ h = [])) : Con Tryz.prog noMv 216 [.d (.sl 5 (xs.map GFrame.row)), .d (.fn (.func f) ds)] [] (fun r h => r = int (idxOf p xs 0) ∧ h = []) := by
 refine con_of2 k_c_IndexFunc_Frame_fits rfl fun C hP hmv => ?_
 unfold k_c_IndexFunc_Frame
 refine cx_seq (cx_ops ?_)
 refine ax_q (q_mov rfl) ?_
 refine ax_nil (cx_keep rfl rfl (cx_seq (cx_seq (cx_ops ?_))))
 refine ax_q (q_mov rfl) ?_
 refine ax_q (q_lenS_map rfl) ?_
 refine ax_q (q_mov rfl) ?_
 refine ax_nil (cx_keep rfl rfl (cx_block ?_))
 refine cx_loopU (fun n k => k ≤ xs.length ∧ n = xs.length - k ∧ ∀ i, i < k → ∀ x, xs[i]? = some x → p x = false) (fun k : Nat => [(8, int k)]) (fun _ => []) ⟨_, 0, ⟨by omega, rfl, fun i hi => by omega⟩, by repeat constructor⟩ ?_
 rintro n k ⟨hk, rfl, ht⟩
 refine cx_seq (cx_ops ?_)
 refine ax_q (q_ibin rfl rfl rfl) ?_
 refine ax_nil (cx_keep rfl rfl (cx_seq ?_))
 refine cx_cond rfl (fun h0 => ?_) (fun h0 => ?_)
 ·
  have h0 := dT h0
  have h0x : k < xs.length := by omega
  refine cx_skip ?_
  refine cx_keep rfl rfl (cx_seq (cx_block (cx_seq (cx_ops ?_))))
  refine ax_q (q_mov rfl) ?_
  refine ax_q (q_mov rfl) ?_
  refine ax_nil (cx_keep rfl rfl (cx_seq (cx_ops ?_)))
  refine ax_q (q_mov rfl) ?_
  refine ax_q (q_mov rfl) ?_
  refine ax_q (q_mov rfl) ?_
  refine ax_q (q_ix rfl rfl (mapAt h0x)) ?_
  first | refine ax_q (q_ldN rfl rfl rfl) ?_ | refine ax_q (q_loadN_ip rfl (Nat.le_refl _)) ?_
  refine ax_callvD rfl (by rw [hP]; exact hb) rfl (vc_pure0 (hf _ (List.getElem_mem h0x)) hP (refs_cons rfl ds) rfl ?_)
  refine ax_nil (cx_keep rfl rfl ?_)
  refine cx_cond rfl (fun h1 => ?_) (fun h1 => ?_)
  ·
   skip
   refine cx_seq (cx_ops ?_)
   refine ax_q (q_mov rfl) ?_
   refine ax_q (q_mov rfl) ?_
   refine ax_nil (cx_keep rfl rfl ?_)
   refine cx_ret (ret0 rfl rfl ?_)
   exact ⟨by rw [idxOf_hit h0x ht h1]; rfl, rfl⟩
  ·
   skip
   refine cx_skip ?_
   refine cx_keep rfl rfl (cx_ops ?_)
   refine ax_qe (r' := int ((k + 1 : Nat) : Int)) (q_ibin rfl rfl rfl) (by rw [wi (by omega) (by omega)]; rfl) ?_
   refine ax_q (q_mov rfl) ?_
   refine ax_nil ?_
   exact ⟨_, k + 1, by omega, ⟨by omega, rfl, before_step h0x ht h1⟩, by repeat constructor⟩
 ·
  have h0 := dF h0
  have h0x : k = xs.length := by omega
  refine cx_exit rfl ?_
  refine cx_keep rfl rfl (cx_seq (cx_ops ?_))
  refine ax_q (q_mov rfl) ?_
  refine ax_nil (cx_keep rfl rfl ?_)
  refine cx_ret (ret0 rfl rfl ?_)
  exact ⟨by rw [idxOf_none (fun i hi => ht i (by omega))]; rfl, rfl⟩


/- (ptr loop.example/g00332/impl.Store).frameAt$1 -/
def k_c_frameAt1 : XCode :=
 .seq (.ops [.op (some 2) (.box (.t 0)),
   .op (some 3) (.mov (.k (.bool false)))])
 (.keep [1, 2] (.seq (.ops [.op (some 4) (.fadr (.t 2) 0),
   .op (some 5) (.load1 (.t 4)),
   .op (some 6) (.load1 (.t 1)),
   .op (some 7) (.bin .eql (.t 5) (.t 6)),
   .op (some 3) (.mov (.t 7))])
 (.keep [3] (.ret))))
theorem k_c_frameAt1_fits : fitsF Tryz.prog 217 ⟨8, k_c_frameAt1, [.t 3]⟩ = true := by kernel_rfl
theorem c_frameAt1 {a : GFrame} {no : Int} : Con Tryz.prog noMv 217 [a.av, .d (.ip [.int .i64 no])] [] (fun r h => r = bool (decide (a.No = no)) ∧ h = []) := by
 refine con_of2 k_c_frameAt1_fits rfl fun C hP hmv => ?_
 unfold k_c_frameAt1
 refine cx_seq (cx_ops ?_)
 refine ax_e (e_box rfl rfl (by decide) rfl rfl rfl) ?_
 refine ax_q (q_mov rfl) ?_
 refine ax_nil (cx_keep rfl rfl (cx_seq (cx_ops ?_)))
 refine ax_q (q_fadr_ptr rfl) ?_
 refine ax_q (q_load1_ptr rfl rfl rfl) ?_
 first | refine ax_q (q_load1_ptr rfl rfl rfl) ?_ | refine ax_q (q_load1_ip rfl) ?_
 refine ax_q (q_ibin rfl rfl rfl) ?_
 refine ax_q (q_mov rfl) ?_
 refine ax_nil (cx_keep rfl rfl ?_)
 refine cx_ret (ret0 rfl rfl ?_)
 exact ⟨rfl, rfl⟩


/- (ptr loop.example/g00332/impl.Store).frameAt -/
def k_c_frameAt : XCode :=
 .seq (.ops [.op (some 3) (.box (.t 1)),
   .op (some 4) (.mov (.k (.int .i64 0)))])
 (.keep [0, 3] (.seq (.ops [.op (some 5) (.mov (.t 0)),
   .op (some 6) (.nilck (.t 5)),
   .op (some 7) (.fadr (.t 6) 7),
   .op (some 8) (.load1 (.t 7)),
   .op (some 9) (.mkfn 217 [.t 3]),
   .call (some 10) 216 [.t 8, .t 9],
   .op (some 4) (.mov (.t 10))])
 (.keep [4] (.ret))))
theorem k_c_frameAt_fits : fitsF Tryz.prog 152 ⟨11, k_c_frameAt, [.t 4]⟩ = true := by kernel_rfl
theorem c_frameAt {s : GStore} {no : Int} (hf : s.Frames.length ≤ 1048576) : Con Tryz.prog noMv 152 [.d (.ip s.row), int no] [] (fun r h => r = int (frameAt s no) ∧ h = []) := by
 refine con_of2 k_c_frameAt_fits rfl fun C hP hmv => ?_
 unfold k_c_frameAt
 refine cx_seq (cx_ops ?_)
 refine ax_e (e_box rfl rfl (by decide) rfl rfl rfl) ?_
 refine ax_q (q_mov rfl) ?_
 refine ax_nil (cx_keep rfl rfl (cx_seq (cx_ops ?_)))
 refine ax_q (q_mov rfl) ?_
 first | refine ax_q (q_nilck_ptr rfl) ?_ | refine ax_q (q_nilck_rptr rfl) ?_ | refine ax_q (q_nilck_ip rfl) ?_
 first | refine ax_q (q_fadr_ptr rfl) ?_ | refine ax_q (q_fadr_rptr rfl) ?_ | refine ax_q (q_fadr_ip rfl) ?_
 first | refine ax_q (q_load1_ptr rfl rfl rfl) ?_ | refine ax_q (q_load1_ip rfl) ?_
 refine ax_q (q_mkfn rfl) ?_
 refine ax_call rfl (vc_lend0 (c_IndexFunc_Frame (xs := s.Frames) (ds := [.ip [.int .i64 no]]) (fun f => decide (f.No = no)) (by omega) (by kernel_rfl) (fun f _ => c_frameAt1)) hP (by repeat (first | exact lal_id _ rfl | exact LAL.nil | refine LAL.cons ?_ ?_ | exact la_id _ rfl | exact LA.lend (lend_whole rfl (by first | (simp; done) | (rw [List.length_map]; rfl))) | refine LA.agg ?_ | refine LA.fn ?_ | refine LA.lend ?_ | exact Lend.d _ | exact Lend.zs _ | exact lend_whole rfl (by first | (simp; done) | (rw [List.length_map]; rfl)) | refine Lend.ptr rfl ?_ | refine Lend.fn ?_ | exact LendL.nil | refine LendL.cons ?_ ?_)) rfl rfl ?_)
 refine ax_q (q_mov rfl) ?_
 refine ax_nil (cx_keep rfl rfl ?_)
 refine cx_ret (ret0 rfl rfl ?_)
 exact ⟨rfl, rfl⟩


/- (ptr loop.example/g00332/impl.Store).framesOK -/
def k_c_framesOK : XCode :=
 .seq (.ops [.op (some 2) (.mov (.k (.bool false)))])
 (.keep [0] (.seq (.seq (.ops [.op (some 5) (.mov (.t 0)),
   .op (some 6) (.nilck (.t 5)),
   .op (some 7) (.fadr (.t 6) 7),
   .op (some 8) (.load1 (.t 7)),
   .op (some 9) (.lenS (.t 8)),
   .op (some 10) (.mov (.k (.int .i64 0)))])
  (.keep [0, 8, 9, 10] (.block 0 (.loop (.seq (.ops [.op (some 11) (.bin .lss (.t 10) (.t 9))])
   (.keep [0, 8, 9, 10, 11] (.seq (.cond (.t 11)
    (.skip)
    (.exit 0))
   (.keep [0, 8, 9, 10] (.seq (.block 1 (.seq (.ops [.op (some 12) (.mov (.t 10)),
     .op (some 13) (.iadr 5 (.t 8) (.t 10)),
     .op (some 14) (.loadN 5 (.t 13)),
     .op (some 4) (.alloc [.int .i64 0, .int .i64 0, .nils 1, .bool false, .int .i64 0]),
     .op (some 3) (.mov (.t 12)),
     .op none (.store 5 (.t 4) (.t 14))])
    (.keep [0, 3, 4, 8, 9, 10] (.seq (.draw [.op (some 15) (.fadr (.t 4) 0),
     .op (some 16) (.load1 (.t 15)),
     .call (some 17) 75 [.t 16, .k (.int .i64 8)],
     .op (some 18) (.not (.t 17)),
     .op (some 19) (.mov (.t 18)),
     .andor 26 false 4 19 [.op (some 20) (.mov (.t 0)), .op (some 21) (.fadr (.t 4) 0), .op (some 22) (.load1 (.t 21)), .call (some 23) 152 [.t 20, .t 22], .op (some 24) (.mov (.t 3)), .op (some 25) (.bin .neq (.t 23) (.t 24))] (.t 25),
     .op (some 27) (.mov (.t 26)),
     .andor 32 false 12 27 [.op (some 28) (.fadr (.t 4) 1), .op (some 29) (.loadN 2 (.t 28)), .call (some 30) 153 [.t 29], .op (some 31) (.not (.t 30))] (.t 31),
     .op (some 33) (.mov (.t 32)),
     .andor 43 false 18 33 [.op (some 34) (.fadr (.t 4) 1), .op (some 35) (.fadr (.t 34) 0), .op (some 36) (.load1 (.t 35)), .op (some 37) (.mov (.t 0)), .op (some 38) (.nilck (.t 37)), .op (some 39) (.fadr (.t 38) 5), .op (some 40) (.load1 (.t 39)), .op (some 41) (.lenS (.t 40)), .op (some 42) (.bin .gtr (.t 36) (.t 41))] (.t 42),
     .op (some 44) (.mov (.t 43)),
     .andor 54 false 29 44 [.op (some 45) (.fadr (.t 4) 4), .op (some 46) (.load1 (.t 45)), .op (some 47) (.mov (.t 0)), .op (some 48) (.nilck (.t 47)), .op (some 49) (.fadr (.t 48) 5), .op (some 50) (.load1 (.t 49)), .op (some 51) (.lenS (.t 50)), .call (some 52) 63 [.t 46, .k (.int .i64 0), .t 51], .op (some 53) (.not (.t 52))] (.t 53),
     .op (some 55) (.mov (.t 54)),
     .andor 62 false 40 55 [.op (some 56) (.fadr (.t 4) 4), .op (some 57) (.load1 (.t 56)), .op (some 58) (.bin .gtr (.t 57) (.k (.int .i64 0))), .op (some 59) (.fadr (.t 4) 3), .op (some 60) (.load1 (.t 59)), .op (some 61) (.eqb true (.t 58) (.t 60))] (.t 61)])
    (.keep [0, 8, 9, 10, 62] (.cond (.t 62)
    (.seq (.ops [.op (some 2) (.mov (.k (.bool false)))])
     (.keep [2] (.ret)))
    (.skip)))))))
   (.keep [0, 8, 9, 10] (.ops [.op (some 63) (.bin .add (.t 10) (.k (.int .i64 1))),
    .op (some 10) (.mov (.t 63))])))))))))))
 (.keep [0] (.seq (.ops [.op (some 64) (.mov (.t 0)),
   .op (some 65) (.nilck (.t 64)),
   .op (some 66) (.fadr (.t 65) 7),
   .op (some 67) (.load1 (.t 66)),
   .op (some 68) (.lenS (.t 67)),
   .op (some 69) (.bin .leq (.t 68) (.k (.int .i64 3))),
   .op (some 2) (.mov (.t 69))])
 (.keep [2] (.ret))))))
theorem k_c_framesOK_fits : fitsF Tryz.prog 74 ⟨70, k_c_framesOK, [.t 2]⟩ = true := by kernel_rfl
set_option maxHeartbeats 4000000 in
theorem c_framesOK {s : GStore} (hb0 : StB s) : Con Tryz.prog noMv 74 [.d (.ip s.row)] [] (fun r h => r = bool (framesOK s && decide ((s.Frames.length : Int) ≤ 3)) ∧ h = []) := by
 refine con_of2 k_c_framesOK_fits rfl fun C hP hmv => ?_
 unfold k_c_framesOK
 have hfl := hb0.fr
 have hll := hb0.lo
 refine cx_seq (cx_ops ?_)
 refine ax_q (q_mov rfl) ?_
 refine ax_nil (cx_keep rfl rfl (cx_seq (cx_seq (cx_ops ?_))))
 refine ax_q (q_mov rfl) ?_
 first | refine ax_q (q_nilck_ptr rfl) ?_ | refine ax_q (q_nilck_rptr rfl) ?_ | refine ax_q (q_nilck_ip rfl) ?_
 first | refine ax_q (q_fadr_ptr rfl) ?_ | refine ax_q (q_fadr_rptr rfl) ?_ | refine ax_q (q_fadr_ip rfl) ?_
 first | refine ax_q (q_load1_ptr rfl rfl rfl) ?_ | refine ax_q (q_load1_ip rfl) ?_
 refine ax_q (q_lenS_map rfl) ?_
 refine ax_q (q_mov rfl) ?_
 refine ax_nil (cx_keep rfl rfl (cx_block ?_))
 refine cx_loopU (fun n k => k ≤ s.Frames.length ∧ n = s.Frames.length - k ∧ ∀ j (hj : j < s.Frames.length), j < k → frameBad s j s.Frames[j] = false) (fun k : Nat => [(10, int k)]) (fun _ => []) ⟨_, 0, ⟨Nat.zero_le _, rfl, fun j _ hj => by omega⟩, by repeat constructor⟩ ?_
 rintro n k ⟨hk, rfl, hb⟩
 refine cx_seq (cx_ops ?_)
 refine ax_q (q_ibin rfl rfl rfl) ?_
 refine ax_nil (cx_keep rfl rfl (cx_seq ?_))
 refine cx_cond rfl (fun h0 => ?_) (fun h0 => ?_)
 ·
  have h0 := dT h0
  have h0x : k < s.Frames.length := by omega
  have hwk := hb0.sw _ (List.getElem_mem h0x)
  have hsk := hb0.sl _ (List.getElem_mem h0x)
  refine cx_skip ?_
  refine cx_keep rfl rfl (cx_seq (cx_block (cx_seq (cx_ops ?_))))
  refine ax_q (q_mov rfl) ?_
  refine ax_q (q_ix rfl rfl (mapAt h0x)) ?_
  first | refine ax_q (q_ldN rfl rfl rfl) ?_ | refine ax_q (q_loadN_ip rfl (Nat.le_refl _)) ?_
  refine ax_e (e_alloc (by decide) rfl rfl) ?_
  refine ax_q (q_mov rfl) ?_
  refine ax_e (e_st rfl rfl rfl rfl rfl rfl rfl) ?_
  refine ax_nil (cx_keep rfl rfl (cx_seq (cx_draw ?_)))
  refine ax_q (q_fadr_ptr rfl) ?_
  refine ax_q (q_load1_ptr rfl rfl rfl) ?_
  refine ax_callq rfl (c_isPlace  ?_) hP (lal_id _ rfl) rfl ?_
  ·
   first | assumption | omega
  refine ax_q (q_not rfl) ?_
  refine ax_q (q_mov rfl) ?_
  apply ax_or rfl rfl
  ·
   intro g
   have g := bF g
   refine ax_q (q_mov rfl) ?_
   refine ax_q (q_fadr_ptr rfl) ?_
   refine ax_q (q_load1_ptr rfl rfl rfl) ?_
   refine ax_callq rfl (c_frameAt (s := s) (no := s.Frames[k].No) ?_) hP (lal_id _ rfl) rfl ?_
   ·
    assumption
   refine ax_q (q_mov rfl) ?_
   refine ax_q (q_ibin rfl rfl rfl) ?_
   exact ax_nil ⟨rfl, by repeat constructor⟩
  refine ax_q (q_mov rfl) ?_
  apply ax_or rfl rfl
  ·
   intro g
   have g := (fun h => And.intro (bF (or_F h).1) (nF (or_F h).2)) g
   refine ax_q (q_fadr_ptr rfl) ?_
   refine ax_q (q_ldN rfl rfl rfl) ?_
   refine ax_callq rfl (c_PageOK (p := s.Frames[k].Page) ?_) hP (lal_id _ rfl) rfl ?_
   ·
    assumption
   refine ax_q (q_not rfl) ?_
   exact ax_nil ⟨rfl, by repeat constructor⟩
  refine ax_q (q_mov rfl) ?_
  apply ax_or rfl rfl
  ·
   intro g
   have g := (fun h => And.intro ((fun h => And.intro (bF (or_F h).1) (nF (or_F h).2)) (or_F h).1) (bF (or_F h).2)) g
   refine ax_q (q_fadr_ptr rfl) ?_
   refine ax_q (q_fadr_ptr rfl) ?_
   refine ax_q (q_load1_ptr rfl rfl rfl) ?_
   refine ax_q (q_mov rfl) ?_
   first | refine ax_q (q_nilck_ptr rfl) ?_ | refine ax_q (q_nilck_rptr rfl) ?_ | refine ax_q (q_nilck_ip rfl) ?_
   first | refine ax_q (q_fadr_ptr rfl) ?_ | refine ax_q (q_fadr_rptr rfl) ?_ | refine ax_q (q_fadr_ip rfl) ?_
   first | refine ax_q (q_load1_ptr rfl rfl rfl) ?_ | refine ax_q (q_load1_ip rfl) ?_
   refine ax_q (q_lenS_map rfl) ?_
   refine ax_q (q_ibin rfl rfl rfl) ?_
   exact ax_nil ⟨rfl, by repeat constructor⟩
  refine ax_q (q_mov rfl) ?_
  apply ax_or rfl rfl
  ·
   intro g
   have g := (fun h => And.intro ((fun h => And.intro ((fun h => And.intro (bF (or_F h).1) (nF (or_F h).2)) (or_F h).1) (bF (or_F h).2)) (or_F h).1) (dF (or_F h).2)) g
   refine ax_q (q_fadr_ptr rfl) ?_
   refine ax_q (q_load1_ptr rfl rfl rfl) ?_
   refine ax_q (q_mov rfl) ?_
   first | refine ax_q (q_nilck_ptr rfl) ?_ | refine ax_q (q_nilck_rptr rfl) ?_ | refine ax_q (q_nilck_ip rfl) ?_
   first | refine ax_q (q_fadr_ptr rfl) ?_ | refine ax_q (q_fadr_rptr rfl) ?_ | refine ax_q (q_fadr_ip rfl) ?_
   first | refine ax_q (q_load1_ptr rfl rfl rfl) ?_ | refine ax_q (q_load1_ip rfl) ?_
   refine ax_q (q_lenS_map rfl) ?_
   refine ax_callq rfl (c_inRange  ) hP (lal_id _ rfl) rfl ?_
   refine ax_q (q_not rfl) ?_
   exact ax_nil ⟨rfl, by repeat constructor⟩
  refine ax_q (q_mov rfl) ?_
  apply ax_or rfl rfl
  ·
   intro g
   have g := (fun h => And.intro ((fun h => And.intro ((fun h => And.intro ((fun h => And.intro (bF (or_F h).1) (nF (or_F h).2)) (or_F h).1) (bF (or_F h).2)) (or_F h).1) (dF (or_F h).2)) (or_F h).1) (bF (or_F h).2)) g
   refine ax_q (q_fadr_ptr rfl) ?_
   refine ax_q (q_load1_ptr rfl rfl rfl) ?_
   refine ax_q (q_ibin rfl rfl rfl) ?_
   refine ax_q (q_fadr_ptr rfl) ?_
   refine ax_q (q_load1_ptr rfl rfl rfl) ?_
   refine ax_q (q_eqb rfl rfl) ?_
   exact ax_nil ⟨rfl, by repeat constructor⟩
  refine ax_nil (cx_keep rfl rfl ?_)
  refine cx_cond rfl (fun h1 => ?_) (fun h1 => ?_)
  ·
   have h1 : frameBad s k s.Frames[k] = true := h1
   refine cx_seq (cx_ops ?_)
   refine ax_q (q_mov rfl) ?_
   refine ax_nil (cx_keep rfl rfl ?_)
   refine cx_ret (ret0 rfl rfl ?_)
   exact ⟨by rw [frames_no h0x h1]; rfl, rfl⟩
  ·
   have hbk : frameBad s k s.Frames[k] = false := h1
   refine cx_skip ?_
   refine cx_keep rfl rfl (cx_ops ?_)
   refine ax_qe (r' := int ((k + 1 : Nat) : Int)) (q_ibin rfl rfl rfl) (by rw [wi (by omega) (by omega)]; rfl) ?_
   refine ax_q (q_mov rfl) ?_
   refine ax_nil ?_
   exact ⟨_, k + 1, by omega, ⟨by omega, rfl, fun j hj hjk => by
    rcases Nat.lt_succ_iff_lt_or_eq.1 hjk with q | rfl
    ·
     exact hb j hj q
    ·
     exact hbk⟩, by repeat constructor⟩
 ·
  have h0 := dF h0
  have hfa := frames_all (s := s) (fun j hj => hb j hj (by omega))
  refine cx_exit rfl ?_
  refine cx_keep rfl rfl (cx_seq (cx_ops ?_))
  refine ax_q (q_mov rfl) ?_
  first | refine ax_q (q_nilck_ptr rfl) ?_ | refine ax_q (q_nilck_rptr rfl) ?_ | refine ax_q (q_nilck_ip rfl) ?_
  first | refine ax_q (q_fadr_ptr rfl) ?_ | refine ax_q (q_fadr_rptr rfl) ?_ | refine ax_q (q_fadr_ip rfl) ?_
  first | refine ax_q (q_load1_ptr rfl rfl rfl) ?_ | refine ax_q (q_load1_ip rfl) ?_
  refine ax_q (q_lenS_map rfl) ?_
  refine ax_q (q_ibin rfl rfl rfl) ?_
  refine ax_q (q_mov rfl) ?_
  refine ax_nil (cx_keep rfl rfl ?_)
  refine cx_ret (ret0 rfl rfl ?_)
  exact ⟨by rw [hfa, Bool.true_and]; rfl, rfl⟩


/- loop.example/g00332/impl.StoreOK -/
def k_c_StoreOK : XCode :=
 .seq (.ops [.op (some 1) (.box (.t 0)),
   .op (some 2) (.mov (.k (.bool false)))])
 (.keep [1] (.seq (.seq (.ops [.op (some 9) (.fadr (.t 1) 0),
   .op (some 10) (.loadN 4 (.t 9)),
   .call (some 11) 71 [.t 10],
   .op (some 12) (.not (.t 11)),
   .op (some 13) (.mov (.t 12)),
   .andor 19 false 4 13 [.op (some 14) (.fadr (.t 1) 0), .op (some 15) (.fadr (.t 14) 0), .op (some 16) (.load1 (.t 15)), .op (some 17) (.lenS (.t 16)), .op (some 18) (.bin .neq (.t 17) (.k (.int .i64 69)))] (.t 18),
   .op (some 20) (.mov (.t 19)),
   .andor 25 false 11 20 [.op (some 21) (.fadr (.t 1) 4), .op (some 22) (.load1 (.t 21)), .call (some 23) 63 [.t 22, .k (.int .i64 1), .k (.int .i64 60)], .op (some 24) (.not (.t 23))] (.t 24),
   .op (some 26) (.mov (.t 25)),
   .andor 31 false 17 26 [.op (some 27) (.fadr (.t 1) 5), .op (some 28) (.load1 (.t 27)), .op (some 29) (.lenS (.t 28)), .op (some 30) (.bin .gtr (.t 29) (.k (.int .i64 60)))] (.t 30),
   .op (some 32) (.mov (.t 31)),
   .andor 37 false 23 32 [.op (some 33) (.fadr (.t 1) 5), .op (some 34) (.load1 (.t 33)), .call (some 35) 72 [.t 34], .op (some 36) (.not (.t 35))] (.t 36),
   .op (some 38) (.mov (.t 37)),
   .andor 46 false 29 38 [.op (some 39) (.fadr (.t 1) 6), .op (some 40) (.load1 (.t 39)), .op (some 41) (.fadr (.t 1) 5), .op (some 42) (.load1 (.t 41)), .op (some 43) (.lenS (.t 42)), .call (some 44) 63 [.t 40, .k (.int .i64 0), .t 43], .op (some 45) (.not (.t 44))] (.t 45)])
  (.keep [1, 46] (.cond (.t 46)
  (.seq (.ops [.op (some 2) (.mov (.k (.bool false)))])
   (.keep [2] (.ret)))
  (.skip))))
 (.keep [1] (.seq (.ops [.op (some 3) (.mov (.k (.int .i64 1)))])
 (.keep [1, 3] (.seq (.seq (.ops [.op (some 47) (.fadr (.t 1) 5),
   .op (some 48) (.load1 (.t 47)),
   .op (some 49) (.lenS (.t 48)),
   .op (some 50) (.mov (.k (.int .i64 0)))])
  (.keep [1, 3, 48, 49, 50] (.block 0 (.loop (.seq (.ops [.op (some 51) (.bin .lss (.t 50) (.t 49))])
   (.keep [1, 3, 48, 49, 50, 51] (.seq (.cond (.t 51)
    (.skip)
    (.exit 0))
   (.keep [1, 3, 48, 49, 50] (.seq (.block 1 (.seq (.ops [.op (some 52) (.iadr 10 (.t 48) (.t 50)),
     .op (some 53) (.loadN 10 (.t 52)),
     .op (some 5) (.alloc [.int .i64 0, .int .i64 0, .int .i64 0, .int .i64 0, .int .i64 0, .int .i64 0, .int .i64 0, .int .i64 0, .str [], .str []]),
     .op none (.store 10 (.t 5) (.t 53))])
    (.keep [1, 3, 5, 48, 49, 50] (.seq (.seq (.ops [.op (some 54) (.fadr (.t 5) 0),
      .op (some 55) (.load1 (.t 54)),
      .op (some 56) (.mov (.t 3)),
      .op (some 57) (.fadr (.t 1) 4),
      .op (some 58) (.load1 (.t 57)),
      .call (some 59) 63 [.t 55, .t 56, .t 58],
      .op (some 60) (.not (.t 59))])
    (.keep [1, 5, 48, 49, 50, 60] (.cond (.t 60)
     (.seq (.ops [.op (some 2) (.mov (.k (.bool false)))])
     (.keep [2] (.ret)))
     (.skip))))
    (.keep [1, 5, 48, 49, 50] (.ops [.op (some 61) (.fadr (.t 5) 0),
     .op (some 62) (.load1 (.t 61)),
     .op (some 3) (.mov (.t 62))]))))))
   (.keep [1, 3, 48, 49, 50] (.ops [.op (some 63) (.bin .add (.t 50) (.k (.int .i64 1))),
    .op (some 50) (.mov (.t 63))])))))))))))
 (.keep [1] (.seq (.seq (.ops [.op (some 64) (.mov (.k (.int .i64 0)))])
  (.keep [1, 64] (.block 2 (.loop (.seq (.ops [.op (some 65) (.bin .lss (.t 64) (.k (.int .i64 8)))])
   (.keep [1, 64, 65] (.seq (.cond (.t 65)
    (.skip)
    (.exit 2))
   (.keep [1, 64] (.seq (.block 3 (.seq (.ops [.op (some 66) (.mov (.t 64)),
     .op (some 6) (.mov (.t 66))])
    (.keep [1, 6, 64] (.seq (.ops [.op (some 68) (.mov (.t 6)),
     .call (some 69) 73 [.t 1, .t 68],
     .op (some 67) (.mov (.t 69)),
     .op (some 70) (.ext (.t 67) 0),
     .op (some 71) (.ext (.t 67) 1),
     .op (some 7) (.alloc [.int .i64 0, .nils 1]),
     .op none (.store 2 (.t 7) (.t 70)),
     .op (some 8) (.mov (.t 71))])
    (.keep [1, 7, 8, 64] (.seq (.ops [.op (some 72) (.mov (.t 8)),
     .op (some 73) (.not (.t 72)),
     .op (some 74) (.mov (.t 73)),
     .andor 80 false 2 74 [.op (some 75) (.fadr (.t 7) 0), .op (some 76) (.load1 (.t 75)), .op (some 77) (.fadr (.t 1) 6), .op (some 78) (.load1 (.t 77)), .op (some 79) (.bin .gtr (.t 76) (.t 78))] (.t 79)])
    (.keep [1, 64, 80] (.cond (.t 80)
    (.seq (.ops [.op (some 2) (.mov (.k (.bool false)))])
     (.keep [2] (.ret)))
    (.skip)))))))))
   (.keep [1, 64] (.ops [.op (some 81) (.bin .add (.t 64) (.k (.int .i64 1))),
    .op (some 64) (.mov (.t 81))])))))))))))
 (.keep [1] (.seq (.ops [.call (some 82) 74 [.t 1],
   .op (some 83) (.mov (.t 82)),
   .andor 87 true 1 83 [.op (some 84) (.fadr (.t 1) 8), .op (some 85) (.load1 (.t 84)), .call (some 86) 75 [.t 85, .k (.int .i64 3)]] (.t 86),
   .op (some 2) (.mov (.t 87))])
 (.keep [2] (.ret))))))))))))
theorem k_c_StoreOK_fits : fitsF Tryz.prog 28 ⟨88, k_c_StoreOK, [.t 2]⟩ = true := by kernel_rfl
set_option maxHeartbeats 8000000 in
theorem c_StoreOK {s : GStore} (hb0 : StB s) : Con Tryz.prog noMv 28 [s.av] [] (fun r h => r = bool (storeOK s) ∧ h = []) := by
 refine con_of2 k_c_StoreOK_fits rfl fun C hP hmv => ?_
 unfold k_c_StoreOK
 obtain ⟨hw0, hw1, hw2, hw3, hwa, hw4, hw5, hw6⟩ := id hb0
 refine cx_seq (cx_ops ?_)
 refine ax_e (e_box rfl rfl (by decide) rfl rfl rfl) ?_
 refine ax_q (q_mov rfl) ?_
 refine ax_nil (cx_keep rfl rfl (cx_seq (cx_seq (cx_ops ?_))))
 refine ax_q (q_fadr_ptr rfl) ?_
 refine ax_q (q_ldN rfl rfl rfl) ?_
 refine ax_call rfl (vc_pure0 (c_DiskOK (d := s.Disk) ?_ ?_ ?_) hP rfl rfl ?_)
 ·
  assumption
 ·
  assumption
 ·
  assumption
 refine ax_q (q_not rfl) ?_
 refine ax_q (q_mov rfl) ?_
 apply ax_or rfl rfl
 ·
  intro g
  have g := bF g
  refine ax_q (q_fadr_ptr rfl) ?_
  refine ax_q (q_fadr_ptr rfl) ?_
  refine ax_q (q_load1_ptr rfl rfl rfl) ?_
  refine ax_q (q_lenS_map rfl) ?_
  refine ax_q (q_ibin rfl rfl rfl) ?_
  exact ax_nil ⟨rfl, by repeat constructor⟩
 refine ax_q (q_mov rfl) ?_
 apply ax_or rfl rfl
 ·
  intro g
  have g := (fun h => And.intro (bF (or_F h).1) (nF (or_F h).2)) g
  refine ax_q (q_fadr_ptr rfl) ?_
  refine ax_q (q_load1_ptr rfl rfl rfl) ?_
  refine ax_call rfl (vc_pure0 (c_inRange  ) hP rfl rfl ?_)
  refine ax_q (q_not rfl) ?_
  exact ax_nil ⟨rfl, by repeat constructor⟩
 refine ax_q (q_mov rfl) ?_
 apply ax_or rfl rfl
 ·
  intro g
  have g := (fun h => And.intro ((fun h => And.intro (bF (or_F h).1) (nF (or_F h).2)) (or_F h).1) (bF (or_F h).2)) g
  refine ax_q (q_fadr_ptr rfl) ?_
  refine ax_q (q_load1_ptr rfl rfl rfl) ?_
  refine ax_q (q_lenS_map rfl) ?_
  refine ax_q (q_ibin rfl rfl rfl) ?_
  exact ax_nil ⟨rfl, by repeat constructor⟩
 refine ax_q (q_mov rfl) ?_
 apply ax_or rfl rfl
 ·
  intro g
  have g := (fun h => And.intro ((fun h => And.intro ((fun h => And.intro (bF (or_F h).1) (nF (or_F h).2)) (or_F h).1) (bF (or_F h).2)) (or_F h).1) (dF (or_F h).2)) g
  have g9 := g.2
  refine ax_q (q_fadr_ptr rfl) ?_
  refine ax_q (q_load1_ptr rfl rfl rfl) ?_
  refine ax_call rfl (vc_pure0 (c_areRecords (log := s.Log) ?_ ?_) hP rfl rfl ?_)
  ·
   first | assumption | omega
  ·
   exact hb0.af
  refine ax_q (q_not rfl) ?_
  exact ax_nil ⟨rfl, by repeat constructor⟩
 refine ax_q (q_mov rfl) ?_
 apply ax_or rfl rfl
 ·
  intro g
  have g := (fun h => And.intro ((fun h => And.intro ((fun h => And.intro ((fun h => And.intro (bF (or_F h).1) (nF (or_F h).2)) (or_F h).1) (bF (or_F h).2)) (or_F h).1) (dF (or_F h).2)) (or_F h).1) (bF (or_F h).2)) g
  refine ax_q (q_fadr_ptr rfl) ?_
  refine ax_q (q_load1_ptr rfl rfl rfl) ?_
  refine ax_q (q_fadr_ptr rfl) ?_
  refine ax_q (q_load1_ptr rfl rfl rfl) ?_
  refine ax_q (q_lenS_map rfl) ?_
  refine ax_call rfl (vc_pure0 (c_inRange  ) hP rfl rfl ?_)
  refine ax_q (q_not rfl) ?_
  exact ax_nil ⟨rfl, by repeat constructor⟩
 refine ax_nil (cx_keep rfl rfl ?_)
 refine cx_cond rfl (fun h0 => ?_) (fun h0 => ?_)
 ·
  have h0 : badHd s = true := h0
  refine cx_seq (cx_ops ?_)
  refine ax_q (q_mov rfl) ?_
  refine ax_nil (cx_keep rfl rfl ?_)
  refine cx_ret (ret0 rfl rfl ?_)
  exact ⟨by rw [storeOK_0 h0]; rfl, rfl⟩
 ·
  have h0 : badHd s = false := h0
  obtain ⟨HD, hg⟩ := hd_of h0
  have hll := HD.lo
  have hsu := HD.su
  refine cx_skip ?_
  refine cx_keep rfl rfl (cx_seq (cx_ops ?_))
  refine ax_q (q_mov rfl) ?_
  refine ax_nil (cx_keep rfl rfl (cx_seq (cx_seq (cx_ops ?_))))
  refine ax_q (q_fadr_ptr rfl) ?_
  refine ax_q (q_load1_ptr rfl rfl rfl) ?_
  refine ax_q (q_lenS_map rfl) ?_
  refine ax_q (q_mov rfl) ?_
  refine ax_nil (cx_keep rfl rfl (cx_block ?_))
  refine cx_loopU (fun n k => k ≤ s.Log.length ∧ n = s.Log.length - k ∧ epochsOK s.Epoch 1 s.Log = epochsOK s.Epoch (lowAt s.Log k) (s.Log.drop k)) (fun k : Nat => [(50, int k), (3, int (lowAt s.Log k))]) (fun _ => [(1, .box (s.row.map .d))]) ⟨_, 0, ⟨Nat.zero_le _, rfl, rfl⟩, by repeat constructor⟩ ?_
  rintro n k ⟨hk, rfl, he⟩
  refine cx_seq (cx_ops ?_)
  refine ax_q (q_ibin rfl rfl rfl) ?_
  refine ax_nil (cx_keep rfl rfl (cx_seq ?_))
  refine cx_cond rfl (fun h1 => ?_) (fun h1 => ?_)
  ·
   have h1 := dT h1
   have h1x : k < s.Log.length := by omega
   refine cx_skip ?_
   refine cx_keep rfl rfl (cx_seq (cx_block (cx_seq (cx_ops ?_))))
   refine ax_q (q_ix rfl rfl (mapAt h1x)) ?_
   first | refine ax_q (q_ldN rfl rfl rfl) ?_ | refine ax_q (q_loadN_ip rfl (Nat.le_refl _)) ?_
   refine ax_e (e_alloc (by decide) rfl rfl) ?_
   refine ax_e (e_st rfl rfl rfl rfl rfl rfl rfl) ?_
   refine ax_nil (cx_keep rfl rfl (cx_seq (cx_seq (cx_ops ?_))))
   refine ax_q (q_fadr_ptr rfl) ?_
   refine ax_q (q_load1_ptr rfl rfl rfl) ?_
   refine ax_q (q_mov rfl) ?_
   refine ax_q (q_fadr_ptr rfl) ?_
   refine ax_q (q_load1_ptr rfl rfl rfl) ?_
   refine ax_call rfl (vc_pure0 (c_inRange  ) hP rfl rfl ?_)
   refine ax_q (q_not rfl) ?_
   refine ax_nil (cx_keep rfl rfl ?_)
   refine cx_cond rfl (fun h2 => ?_) (fun h2 => ?_)
   ·
    have h2 : inR s.Log[k].Epoch (lowAt s.Log k) s.Epoch = false := by simpa using h2
    refine cx_seq (cx_ops ?_)
    refine ax_q (q_mov rfl) ?_
    refine ax_nil (cx_keep rfl rfl ?_)
    refine cx_ret (ret0 rfl rfl ?_)
    exact ⟨by rw [storeOK_e (by rw [he, epochs_step h1x, h2, Bool.false_and])]; rfl, rfl⟩
   ·
    have h2 : inR s.Log[k].Epoch (lowAt s.Log k) s.Epoch = true := by simpa using h2
    refine cx_skip ?_
    refine cx_keep rfl rfl (cx_ops ?_)
    refine ax_q (q_fadr_ptr rfl) ?_
    refine ax_q (q_load1_ptr rfl rfl rfl) ?_
    refine ax_q (q_mov rfl) ?_
    refine ax_nil (cx_keep rfl rfl (cx_ops ?_))
    refine ax_qe (r' := int ((k + 1 : Nat) : Int)) (q_ibin rfl rfl rfl) (by rw [wi (by omega) (by omega)]; rfl) ?_
    refine ax_q (q_mov rfl) ?_
    refine ax_nil ?_
    exact ⟨_, k + 1, by omega, ⟨by omega, rfl, by rw [he, epochs_step h1x, h2, Bool.true_and, lowAt_s h1x]⟩, by rw [lowAt_s h1x]; exact (by repeat constructor)⟩
  ·
   have h1 := dF h1
   obtain rfl : k = s.Log.length := by omega
   rw [epochs_end] at he
   refine cx_exit rfl ?_
   refine cx_keep rfl rfl (cx_seq (cx_seq (cx_ops ?_)))
   refine ax_q (q_mov rfl) ?_
   refine ax_nil (cx_keep rfl rfl (cx_block ?_))
   refine cx_loopU (fun n k => k ≤ 8 ∧ n = 8 - k ∧ ∀ j, j < k → pageBad s j = false) (fun k : Nat => [(64, int k)]) (fun _ => [(1, .box (s.row.map .d))]) ⟨_, 0, ⟨Nat.zero_le _, rfl, fun j hj => by omega⟩, by repeat constructor⟩ ?_
   rintro n k ⟨hk, rfl, hp⟩
   refine cx_seq (cx_ops ?_)
   refine ax_q (q_ibin rfl rfl rfl) ?_
   refine ax_nil (cx_keep rfl rfl (cx_seq ?_))
   refine cx_cond rfl (fun h3 => ?_) (fun h3 => ?_)
   ·
    have h3 := dT h3
    have h3x : k < 8 := by omega
    refine cx_skip ?_
    refine cx_keep rfl rfl (cx_seq (cx_block (cx_seq (cx_ops ?_))))
    refine ax_q (q_mov rfl) ?_
    refine ax_q (q_mov rfl) ?_
    refine ax_nil (cx_keep rfl rfl (cx_seq (cx_ops ?_)))
    refine ax_q (q_mov rfl) ?_
    refine ax_call rfl (vcall_own (c_diskPage (s := s) (no := k) HD.di HD.se (by omega)) hP hmv false (fun _ => 1) [1000] ⟨rfl, rfl, rfl, rfl, ⟨rfl, trivial⟩, rfl, rfl, rfl⟩ (.pass rfl rfl (.pass rfl rfl .nil)) ?_)
    rintro r h ⟨rfl, p, ok, rfl, hok, hpp⟩
    refine ⟨fun _ => 1, [], ⟨rfl, rfl, rfl, rfl, (mem1 rfl), rfl, rfl, fun h => absurd h Bool.false_ne_true⟩, ?_⟩
    refine ax_q (q_mov rfl) ?_
    refine ax_q (q_ext rfl rfl) ?_
    refine ax_q (q_ext rfl rfl) ?_
    refine ax_e (e_alloc (by decide) rfl rfl) ?_
    refine ax_e (e_st rfl rfl rfl rfl rfl rfl rfl) ?_
    refine ax_q (q_mov rfl) ?_
    refine ax_nil (cx_keep rfl rfl (cx_seq (cx_ops ?_)))
    refine ax_q (q_mov rfl) ?_
    refine ax_q (q_not rfl) ?_
    refine ax_q (q_mov rfl) ?_
    apply ax_or rfl rfl
    ·
     intro g
     have g := bF g
     refine ax_q (q_fadr_ptr rfl) ?_
     refine ax_q (q_load1_ptr rfl rfl rfl) ?_
     refine ax_q (q_fadr_ptr rfl) ?_
     refine ax_q (q_load1_ptr rfl rfl rfl) ?_
     refine ax_q (q_ibin rfl rfl rfl) ?_
     exact ax_nil ⟨rfl, by repeat constructor⟩
    refine ax_nil (cx_keep rfl rfl ?_)
    refine cx_cond rfl (fun h4 => ?_) (fun h4 => ?_)
    ·
     have h4 : pageBad s k = true := (pageBad_eq hok hpp).symm.trans h4
     refine cx_seq (cx_ops ?_)
     refine ax_q (q_mov rfl) ?_
     refine ax_nil (cx_keep rfl rfl ?_)
     refine cx_ret (ret0 rfl rfl ?_)
     exact ⟨by rw [storeOK_p (pagesOK_no h3x h4)]; rfl, rfl⟩
    ·
     have hpk : pageBad s k = false := (pageBad_eq hok hpp).symm.trans h4
     refine cx_skip ?_
     refine cx_keep rfl rfl (cx_ops ?_)
     refine ax_qe (r' := int ((k + 1 : Nat) : Int)) (q_ibin rfl rfl rfl) (by rw [wi (by omega) (by omega)]; rfl) ?_
     refine ax_q (q_mov rfl) ?_
     refine ax_nil ?_
     exact ⟨_, k + 1, by omega, ⟨by omega, rfl, fun j hjk => by
      rcases Nat.lt_succ_iff_lt_or_eq.1 hjk with q | rfl
      ·
       exact hp j q
      ·
       exact hpk⟩, by repeat constructor⟩
   ·
    have h3 := dF h3
    have hpo := pagesOK_all (s := s) (fun j hj => hp j (by omega))
    refine cx_exit rfl ?_
    refine cx_keep rfl rfl (cx_seq (cx_ops ?_))
    first | refine ax_call rfl (vc_pure0 (c_framesOK (s := s) ?_) hP rfl rfl ?_) | refine ax_call rfl (vc_lend0 (c_framesOK (s := s) ?_) hP (by repeat (first | exact lal_id _ rfl | exact LAL.nil | refine LAL.cons ?_ ?_ | exact la_id _ rfl | exact LA.lend (lend_whole rfl (by first | (simp; done) | (rw [List.length_map]; rfl))) | refine LA.agg ?_ | refine LA.fn ?_ | refine LA.lend ?_ | exact Lend.d _ | exact Lend.zs _ | exact lend_whole rfl (by first | (simp; done) | (rw [List.length_map]; rfl)) | refine Lend.ptr rfl ?_ | refine Lend.fn ?_ | exact LendL.nil | refine LendL.cons ?_ ?_)) rfl rfl ?_)
    ·
     assumption
    refine ax_q (q_mov rfl) ?_
    apply ax_and rfl rfl
    ·
     intro g
     refine ax_q (q_fadr_ptr rfl) ?_
     refine ax_q (q_load1_ptr rfl rfl rfl) ?_
     refine ax_call rfl (vc_pure0 (c_isPlace  ?_) hP rfl rfl ?_)
     ·
      first | assumption | omega
     exact ax_nil ⟨rfl, by repeat constructor⟩
    refine ax_q (q_mov rfl) ?_
    refine ax_nil (cx_keep rfl rfl ?_)
    refine cx_ret (ret0 rfl rfl ?_)
    exact ⟨by rw [storeOK_t h0 he hpo]; rfl, rfl⟩


/- slices.IndexFunc[[]loop.example/g00332/impl.Lock,loop.example/g00332/impl.Lock] -/
def k_c_IndexFunc_Lock : XCode :=
 .seq (.ops [.op (some 4) (.mov (.k (.int .i64 0)))])
 (.keep [0, 1] (.seq (.seq (.ops [.op (some 6) (.mov (.t 0)),
   .op (some 7) (.lenS (.t 6)),
   .op (some 8) (.mov (.k (.int .i64 0)))])
  (.keep [0, 1, 7, 8] (.block 0 (.loop (.seq (.ops [.op (some 9) (.bin .lss (.t 8) (.t 7))])
   (.keep [0, 1, 7, 8, 9] (.seq (.cond (.t 9)
    (.skip)
    (.exit 0))
   (.keep [0, 1, 7, 8] (.seq (.block 1 (.seq (.ops [.op (some 10) (.mov (.t 8)),
     .op (some 5) (.mov (.t 10))])
    (.keep [0, 1, 5, 7, 8] (.seq (.ops [.op (some 11) (.mov (.t 1)),
     .op (some 12) (.mov (.t 0)),
     .op (some 13) (.mov (.t 5)),
     .op (some 14) (.iadr 4 (.t 12) (.t 13)),
     .op (some 15) (.loadN 4 (.t 14)),
     .callv (some 16) (.t 11) [.t 15]])
    (.keep [0, 1, 5, 7, 8, 16] (.cond (.t 16)
    (.seq (.ops [.op (some 17) (.mov (.t 5)),
      .op (some 4) (.mov (.t 17))])
     (.keep [4] (.ret)))
    (.skip)))))))
   (.keep [0, 1, 7, 8] (.ops [.op (some 18) (.bin .add (.t 8) (.k (.int .i64 1))),
    .op (some 8) (.mov (.t 18))])))))))))))
 (.keep [] (.seq (.ops [.op (some 4) (.mov (.k (.int .i64 (-1))))])
 (.keep [4] (.ret))))))
theorem k_c_IndexFunc_Lock_fits : fitsF Tryz.prog 171 ⟨19, k_c_IndexFunc_Lock, [.t 4]⟩ = true := by kernel_rfl
theorem c_IndexFunc_Lock {xs : List GLock} {f : Nat} {ds : List D} (p : GLock → Bool) (hw : xs.length ≤ 9223372036854775807) (hb : hasBody Tryz.prog f = true) (hf : ∀ s ∈ xs, Con Tryz.prog noMv f (s.av :: ds.map AV.d) [] (fun r h => r = bool (p s) ∧ h = [])) : Con Tryz.prog noMv 171 [.d (.sl 4 (xs.map GLock.row)), .d (.fn (.func f) ds)] [] (fun r h => r = int (idxOf p xs 0) ∧ h = []) := by
 refine con_of2 k_c_IndexFunc_Lock_fits rfl fun C hP hmv => ?_
 unfold k_c_IndexFunc_Lock
 refine cx_seq (cx_ops ?_)
 refine ax_q (q_mov rfl) ?_
 refine ax_nil (cx_keep rfl rfl (cx_seq (cx_seq (cx_ops ?_))))
 refine ax_q (q_mov rfl) ?_
 refine ax_q (q_lenS_map rfl) ?_
 refine ax_q (q_mov rfl) ?_
 refine ax_nil (cx_keep rfl rfl (cx_block ?_))
 refine cx_loopU (fun n k => k ≤ xs.length ∧ n = xs.length - k ∧ ∀ i, i < k → ∀ x, xs[i]? = some x → p x = false) (fun k : Nat => [(8, int k)]) (fun _ => []) ⟨_, 0, ⟨by omega, rfl, fun i hi => by omega⟩, by repeat constructor⟩ ?_
 rintro n k ⟨hk, rfl, ht⟩
 refine cx_seq (cx_ops ?_)
 refine ax_q (q_ibin rfl rfl rfl) ?_
 refine ax_nil (cx_keep rfl rfl (cx_seq ?_))
 refine cx_cond rfl (fun h0 => ?_) (fun h0 => ?_)
 ·
  have h0 := dT h0
  have h0x : k < xs.length := by omega
  refine cx_skip ?_
  refine cx_keep rfl rfl (cx_seq (cx_block (cx_seq (cx_ops ?_))))
  refine ax_q (q_mov rfl) ?_
  refine ax_q (q_mov rfl) ?_
  refine ax_nil (cx_keep rfl rfl (cx_seq (cx_ops ?_)))
  refine ax_q (q_mov rfl) ?_
  refine ax_q (q_mov rfl) ?_
  refine ax_q (q_mov rfl) ?_
  refine ax_q (q_ix rfl rfl (mapAt h0x)) ?_
  first | refine ax_q (q_ldN rfl rfl rfl) ?_ | refine ax_q (q_loadN_ip rfl (Nat.le_refl _)) ?_
  refine ax_callvD rfl (by rw [hP]; exact hb) rfl (vc_pure0 (hf _ (List.getElem_mem h0x)) hP (refs_cons rfl ds) rfl ?_)
  refine ax_nil (cx_keep rfl rfl ?_)
  refine cx_cond rfl (fun h1 => ?_) (fun h1 => ?_)
  ·
   skip
   refine cx_seq (cx_ops ?_)
   refine ax_q (q_mov rfl) ?_
   refine ax_q (q_mov rfl) ?_
   refine ax_nil (cx_keep rfl rfl ?_)
   refine cx_ret (ret0 rfl rfl ?_)
   exact ⟨by rw [idxOf_hit h0x ht h1]; rfl, rfl⟩
  ·
   skip
   refine cx_skip ?_
   refine cx_keep rfl rfl (cx_ops ?_)
   refine ax_qe (r' := int ((k + 1 : Nat) : Int)) (q_ibin rfl rfl rfl) (by rw [wi (by omega) (by omega)]; rfl) ?_
   refine ax_q (q_mov rfl) ?_
   refine ax_nil ?_
   exact ⟨_, k + 1, by omega, ⟨by omega, rfl, before_step h0x ht h1⟩, by repeat constructor⟩
 ·
  have h0 := dF h0
  have h0x : k = xs.length := by omega
  refine cx_exit rfl ?_
  refine cx_keep rfl rfl (cx_seq (cx_ops ?_))
  refine ax_q (q_mov rfl) ?_
  refine ax_nil (cx_keep rfl rfl ?_)
  refine cx_ret (ret0 rfl rfl ?_)
  exact ⟨by rw [idxOf_none (fun i hi => ht i (by omega))]; rfl, rfl⟩


/- slices.ContainsFunc[[]loop.example/g00332/impl.Lock,loop.example/g00332/impl.Lock] -/
def k_c_ContainsFunc_Lock : XCode :=
 .seq (.ops [.op (some 4) (.mov (.k (.bool false)))])
 (.keep [0, 1] (.seq (.ops [.op (some 5) (.mov (.t 0)),
   .op (some 6) (.mov (.t 1)),
   .call (some 7) 171 [.t 5, .t 6],
   .op (some 8) (.bin .geq (.t 7) (.k (.int .i64 0))),
   .op (some 4) (.mov (.t 8))])
 (.keep [4] (.ret))))
theorem k_c_ContainsFunc_Lock_fits : fitsF Tryz.prog 94 ⟨9, k_c_ContainsFunc_Lock, [.t 4]⟩ = true := by kernel_rfl
theorem c_ContainsFunc_Lock {xs : List GLock} {f : Nat} {ds : List D} (p : GLock → Bool) (hw : xs.length ≤ 9223372036854775807) (hb : hasBody Tryz.prog f = true) (hf : ∀ s ∈ xs, Con Tryz.prog noMv f (s.av :: ds.map AV.d) [] (fun r h => r = bool (p s) ∧ h = [])) : Con Tryz.prog noMv 94 [.d (.sl 4 (xs.map GLock.row)), .d (.fn (.func f) ds)] [] (fun r h => r = bool (xs.any p) ∧ h = []) := by
 refine con_of2 k_c_ContainsFunc_Lock_fits rfl fun C hP hmv => ?_
 unfold k_c_ContainsFunc_Lock
 refine cx_seq (cx_ops ?_)
 refine ax_q (q_mov rfl) ?_
 refine ax_nil (cx_keep rfl rfl (cx_seq (cx_ops ?_)))
 refine ax_q (q_mov rfl) ?_
 refine ax_q (q_mov rfl) ?_
 refine ax_call rfl (vc_pure0 (c_IndexFunc_Lock p hw hb hf) hP rfl rfl ?_)
 refine ax_qe (r' := bool (xs.any p)) (q_ibin rfl rfl rfl) (congrArg AM.bool any_idxOf) ?_
 refine ax_q (q_mov rfl) ?_
 refine ax_nil (cx_keep rfl rfl ?_)
 refine cx_ret (ret0 rfl rfl ?_)
 exact ⟨rfl, rfl⟩


/- slices.IndexFunc[[]loop.example/g00332/impl.Wait,loop.example/g00332/impl.Wait] -/
def k_c_IndexFunc_Wait : XCode :=
 .seq (.ops [.op (some 4) (.mov (.k (.int .i64 0)))])
 (.keep [0, 1] (.seq (.seq (.ops [.op (some 6) (.mov (.t 0)),
   .op (some 7) (.lenS (.t 6)),
   .op (some 8) (.mov (.k (.int .i64 0)))])
  (.keep [0, 1, 7, 8] (.block 0 (.loop (.seq (.ops [.op (some 9) (.bin .lss (.t 8) (.t 7))])
   (.keep [0, 1, 7, 8, 9] (.seq (.cond (.t 9)
    (.skip)
    (.exit 0))
   (.keep [0, 1, 7, 8] (.seq (.block 1 (.seq (.ops [.op (some 10) (.mov (.t 8)),
     .op (some 5) (.mov (.t 10))])
    (.keep [0, 1, 5, 7, 8] (.seq (.ops [.op (some 11) (.mov (.t 1)),
     .op (some 12) (.mov (.t 0)),
     .op (some 13) (.mov (.t 5)),
     .op (some 14) (.iadr 2 (.t 12) (.t 13)),
     .op (some 15) (.loadN 2 (.t 14)),
     .callv (some 16) (.t 11) [.t 15]])
    (.keep [0, 1, 5, 7, 8, 16] (.cond (.t 16)
    (.seq (.ops [.op (some 17) (.mov (.t 5)),
      .op (some 4) (.mov (.t 17))])
     (.keep [4] (.ret)))
    (.skip)))))))
   (.keep [0, 1, 7, 8] (.ops [.op (some 18) (.bin .add (.t 8) (.k (.int .i64 1))),
    .op (some 8) (.mov (.t 18))])))))))))))
 (.keep [] (.seq (.ops [.op (some 4) (.mov (.k (.int .i64 (-1))))])
 (.keep [4] (.ret))))))
theorem k_c_IndexFunc_Wait_fits : fitsF Tryz.prog 174 ⟨19, k_c_IndexFunc_Wait, [.t 4]⟩ = true := by kernel_rfl
theorem c_IndexFunc_Wait {xs : List GWait} {f : Nat} {ds : List D} (p : GWait → Bool) (hw : xs.length ≤ 9223372036854775807) (hb : hasBody Tryz.prog f = true) (hf : ∀ s ∈ xs, Con Tryz.prog noMv f (s.av :: ds.map AV.d) [] (fun r h => r = bool (p s) ∧ h = [])) : Con Tryz.prog noMv 174 [.d (.sl 2 (xs.map GWait.row)), .d (.fn (.func f) ds)] [] (fun r h => r = int (idxOf p xs 0) ∧ h = []) := by
 refine con_of2 k_c_IndexFunc_Wait_fits rfl fun C hP hmv => ?_
 unfold k_c_IndexFunc_Wait
 refine cx_seq (cx_ops ?_)
 refine ax_q (q_mov rfl) ?_
 refine ax_nil (cx_keep rfl rfl (cx_seq (cx_seq (cx_ops ?_))))
 refine ax_q (q_mov rfl) ?_
 refine ax_q (q_lenS_map rfl) ?_
 refine ax_q (q_mov rfl) ?_
 refine ax_nil (cx_keep rfl rfl (cx_block ?_))
 refine cx_loopU (fun n k => k ≤ xs.length ∧ n = xs.length - k ∧ ∀ i, i < k → ∀ x, xs[i]? = some x → p x = false) (fun k : Nat => [(8, int k)]) (fun _ => []) ⟨_, 0, ⟨by omega, rfl, fun i hi => by omega⟩, by repeat constructor⟩ ?_
 rintro n k ⟨hk, rfl, ht⟩
 refine cx_seq (cx_ops ?_)
 refine ax_q (q_ibin rfl rfl rfl) ?_
 refine ax_nil (cx_keep rfl rfl (cx_seq ?_))
 refine cx_cond rfl (fun h0 => ?_) (fun h0 => ?_)
 ·
  have h0 := dT h0
  have h0x : k < xs.length := by omega
  refine cx_skip ?_
  refine cx_keep rfl rfl (cx_seq (cx_block (cx_seq (cx_ops ?_))))
  refine ax_q (q_mov rfl) ?_
  refine ax_q (q_mov rfl) ?_
  refine ax_nil (cx_keep rfl rfl (cx_seq (cx_ops ?_)))
  refine ax_q (q_mov rfl) ?_
  refine ax_q (q_mov rfl) ?_
  refine ax_q (q_mov rfl) ?_
  refine ax_q (q_ix rfl rfl (mapAt h0x)) ?_
  first | refine ax_q (q_ldN rfl rfl rfl) ?_ | refine ax_q (q_loadN_ip rfl (Nat.le_refl _)) ?_
  refine ax_callvD rfl (by rw [hP]; exact hb) rfl (vc_pure0 (hf _ (List.getElem_mem h0x)) hP (refs_cons rfl ds) rfl ?_)
  refine ax_nil (cx_keep rfl rfl ?_)
  refine cx_cond rfl (fun h1 => ?_) (fun h1 => ?_)
  ·
   skip
   refine cx_seq (cx_ops ?_)
   refine ax_q (q_mov rfl) ?_
   refine ax_q (q_mov rfl) ?_
   refine ax_nil (cx_keep rfl rfl ?_)
   refine cx_ret (ret0 rfl rfl ?_)
   exact ⟨by rw [idxOf_hit h0x ht h1]; rfl, rfl⟩
  ·
   skip
   refine cx_skip ?_
   refine cx_keep rfl rfl (cx_ops ?_)
   refine ax_qe (r' := int ((k + 1 : Nat) : Int)) (q_ibin rfl rfl rfl) (by rw [wi (by omega) (by omega)]; rfl) ?_
   refine ax_q (q_mov rfl) ?_
   refine ax_nil ?_
   exact ⟨_, k + 1, by omega, ⟨by omega, rfl, before_step h0x ht h1⟩, by repeat constructor⟩
 ·
  have h0 := dF h0
  have h0x : k = xs.length := by omega
  refine cx_exit rfl ?_
  refine cx_keep rfl rfl (cx_seq (cx_ops ?_))
  refine ax_q (q_mov rfl) ?_
  refine ax_nil (cx_keep rfl rfl ?_)
  refine cx_ret (ret0 rfl rfl ?_)
  exact ⟨by rw [idxOf_none (fun i hi => ht i (by omega))]; rfl, rfl⟩


/- slices.ContainsFunc[[]loop.example/g00332/impl.Wait,loop.example/g00332/impl.Wait] -/
def k_c_ContainsFunc_Wait : XCode :=
 .seq (.ops [.op (some 4) (.mov (.k (.bool false)))])
 (.keep [0, 1] (.seq (.ops [.op (some 5) (.mov (.t 0)),
   .op (some 6) (.mov (.t 1)),
   .call (some 7) 174 [.t 5, .t 6],
   .op (some 8) (.bin .geq (.t 7) (.k (.int .i64 0))),
   .op (some 4) (.mov (.t 8))])
 (.keep [4] (.ret))))
theorem k_c_ContainsFunc_Wait_fits : fitsF Tryz.prog 97 ⟨9, k_c_ContainsFunc_Wait, [.t 4]⟩ = true := by kernel_rfl
theorem c_ContainsFunc_Wait {xs : List GWait} {f : Nat} {ds : List D} (p : GWait → Bool) (hw : xs.length ≤ 9223372036854775807) (hb : hasBody Tryz.prog f = true) (hf : ∀ s ∈ xs, Con Tryz.prog noMv f (s.av :: ds.map AV.d) [] (fun r h => r = bool (p s) ∧ h = [])) : Con Tryz.prog noMv 97 [.d (.sl 2 (xs.map GWait.row)), .d (.fn (.func f) ds)] [] (fun r h => r = bool (xs.any p) ∧ h = []) := by
 refine con_of2 k_c_ContainsFunc_Wait_fits rfl fun C hP hmv => ?_
 unfold k_c_ContainsFunc_Wait
 refine cx_seq (cx_ops ?_)
 refine ax_q (q_mov rfl) ?_
 refine ax_nil (cx_keep rfl rfl (cx_seq (cx_ops ?_)))
 refine ax_q (q_mov rfl) ?_
 refine ax_q (q_mov rfl) ?_
 refine ax_call rfl (vc_pure0 (c_IndexFunc_Wait p hw hb hf) hP rfl rfl ?_)
 refine ax_qe (r' := bool (xs.any p)) (q_ibin rfl rfl rfl) (congrArg AM.bool any_idxOf) ?_
 refine ax_q (q_mov rfl) ?_
 refine ax_nil (cx_keep rfl rfl ?_)
 refine cx_ret (ret0 rfl rfl ?_)
 exact ⟨rfl, rfl⟩


/- loop.example/g00332/impl.isTx -/
def k_c_isTx : XCode :=
 .seq (.ops [.op (some 2) (.mov (.k (.bool false)))])
 (.keep [0] (.seq (.ops [.op (some 3) (.mov (.t 0)),
   .call (some 4) 63 [.t 3, .k (.int .i64 1), .k (.int .i64 60)],
   .op (some 2) (.mov (.t 4))])
 (.keep [2] (.ret))))
theorem k_c_isTx_fits : fitsF Tryz.prog 169 ⟨5, k_c_isTx, [.t 2]⟩ = true := by kernel_rfl
theorem c_isTx {n : Int} : Con Tryz.prog noMv 169 [int n] [] (fun r h => r = bool (isTx n) ∧ h = []) := by
 refine con_of2 k_c_isTx_fits rfl fun C hP hmv => ?_
 unfold k_c_isTx
 refine cx_seq (cx_ops ?_)
 refine ax_q (q_mov rfl) ?_
 refine ax_nil (cx_keep rfl rfl (cx_seq (cx_ops ?_)))
 refine ax_q (q_mov rfl) ?_
 refine ax_call rfl (vc_pure0 (c_inRange  ) hP rfl rfl ?_)
 refine ax_q (q_mov rfl) ?_
 refine ax_nil (cx_keep rfl rfl ?_)
 refine cx_ret (ret0 rfl rfl ?_)
 exact ⟨rfl, rfl⟩

end Go.Proofs.YtbanegjijhmojaaGreat
