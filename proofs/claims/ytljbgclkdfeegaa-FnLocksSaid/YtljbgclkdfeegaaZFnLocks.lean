/- The law FnLocks of the given program returns true for all arguments, and its arguments read behind the call as they read before: the statement FnLocksSaid, with no condition. -/
import Derived.Test.YtljbgclkdfeegaaW1
import Derived.Test.YtljbgclkdfeegaaRows
namespace Go.Proofs.Ytljbgclkdfeegaa
open Go Go.AM Go.ChangeShapes Go.RowKit
set_option linter.unusedVariables false
namespace fnLocks
set_option maxRecDepth 10000
/- loop.example/g00332/laws.FnLocks -/
def k_c_FnLocks : XCode :=
  .seq (.ops [.op (some 4) (.mov (.k (.bool false)))])
  (.keep [0, 1] (.seq (.seq (.ops [.op (some 26) (.mov (.t 0)),
      .op (some 27) (.lenS (.t 26)),
      .op (some 28) (.bin .gtr (.t 27) (.k (.int .i64 1048576))),
      .op (some 29) (.mov (.t 28)),
      .andor 33 false 3 29 [.op (some 30) (.mov (.t 1)), .op (some 31) (.lenS (.t 30)), .op (some 32) (.bin .gtr (.t 31) (.k (.int .i64 1048576)))] (.t 32)])
   (.keep [0, 1, 33] (.cond (.t 33)
    (.seq (.ops [.op (some 4) (.mov (.k (.bool true)))])
     (.keep [4] (.ret)))
    (.skip))))
  (.keep [0, 1] (.seq (.ops [.op (some 34) (.mov (.t 0)),
     .call (some 35) 8 [.t 34],
     .op (some 5) (.alloc [.nils 4, .nils 2]),
     .op none (.store 2 (.t 5) (.t 35))])
  (.keep [1, 5] (.seq (.ops [.op (some 36) (.mov (.t 1)),
     .call (some 37) 23 [.t 36],
     .op (some 6) (.mov (.t 37))])
  (.keep [5, 6] (.seq (.drawE [[], [], [1], [1, 2], [], [4], [4, 5], [], [7], [7, 8], [], [10], [10, 11], [0, 1, 2, 3, 4, 5, 6, 7, 8, 9, 10, 11, 12], [0, 1, 2, 3, 4, 5, 6, 7, 8, 9, 10, 11, 12, 13], [0, 1, 2, 3, 4, 5, 6, 7, 8, 9, 10, 11, 12, 13, 14], [0, 1, 2, 3, 4, 5, 6, 7, 8, 9, 10, 11, 12, 13, 14], [], [0, 1, 2, 3, 4, 5, 6, 7, 8, 9, 10, 11, 12, 13, 14, 15, 17], [0, 1, 2, 3, 4, 5, 6, 7, 8, 9, 10, 11, 12, 13, 14, 15, 16, 17, 18]] [.op (some 39) (.loadN 2 (.t 5)),
     .op (some 40) (.mov (.t 6)),
     .op (some 41) (.iadr 1 (.t 40) (.k (.int .i64 0))),
     .op (some 42) (.load1 (.t 41)),
     .op (some 43) (.mov (.t 6)),
     .op (some 44) (.iadr 1 (.t 43) (.k (.int .i64 1))),
     .op (some 45) (.load1 (.t 44)),
     .op (some 46) (.mov (.t 6)),
     .op (some 47) (.iadr 1 (.t 46) (.k (.int .i64 2))),
     .op (some 48) (.load1 (.t 47)),
     .op (some 49) (.mov (.t 6)),
     .op (some 50) (.iadr 1 (.t 49) (.k (.int .i64 3))),
     .op (some 51) (.load1 (.t 50)),
     .call (some 52) 19 [.t 39, .t 42, .t 45, .t 48, .t 51],
     .op (some 38) (.mov (.t 52)),
     .op (some 53) (.ext (.t 38) 0),
     .op (some 54) (.ext (.t 38) 1),
     .op (some 7) (.alloc [.nils 4, .nils 2]),
     .op none (.store 2 (.t 7) (.t 53))]
    [.op (some 8) (.mov (.t 54))])
  (.keep [5, 6, 7, 8] (.seq (.drawE [[], [], [1], [1, 2], [], [4], [4, 5], [], [7], [7, 8], [], [10], [10, 11], [0, 1, 2, 3, 4, 5, 6, 7, 8, 9, 10, 11, 12], [0, 1, 2, 3, 4, 5, 6, 7, 8, 9, 10, 11, 12, 13], [0, 1, 2, 3, 4, 5, 6, 7, 8, 9, 10, 11, 12, 13, 14], [0, 1, 2, 3, 4, 5, 6, 7, 8, 9, 10, 11, 12, 13, 14], [], [0, 1, 2, 3, 4, 5, 6, 7, 8, 9, 10, 11, 12, 13, 14, 15, 17], [0, 1, 2, 3, 4, 5, 6, 7, 8, 9, 10, 11, 12, 13, 14, 15, 16, 17, 18]] [.op (some 56) (.loadN 2 (.t 5)),
     .op (some 57) (.mov (.t 6)),
     .op (some 58) (.iadr 1 (.t 57) (.k (.int .i64 0))),
     .op (some 59) (.load1 (.t 58)),
     .op (some 60) (.mov (.t 6)),
     .op (some 61) (.iadr 1 (.t 60) (.k (.int .i64 1))),
     .op (some 62) (.load1 (.t 61)),
     .op (some 63) (.mov (.t 6)),
     .op (some 64) (.iadr 1 (.t 63) (.k (.int .i64 2))),
     .op (some 65) (.load1 (.t 64)),
     .op (some 66) (.mov (.t 6)),
     .op (some 67) (.iadr 1 (.t 66) (.k (.int .i64 3))),
     .op (some 68) (.load1 (.t 67)),
     .call (some 69) 20 [.t 56, .t 59, .t 62, .t 65, .t 68],
     .op (some 55) (.mov (.t 69)),
     .op (some 70) (.ext (.t 55) 0),
     .op (some 71) (.ext (.t 55) 1),
     .op (some 9) (.alloc [.nils 4, .nils 2]),
     .op none (.store 2 (.t 9) (.t 70))]
    [.op (some 10) (.mov (.t 71))])
  (.keep [5, 6, 7, 8, 9, 10] (.seq (.seq (.ops [.op (some 72) (.mov (.t 8)),
      .op (some 73) (.mov (.t 10)),
      .op (some 74) (.bin .neq (.t 72) (.t 73)),
      .op (some 75) (.mov (.t 74)),
      .andor 80 false 3 75 [.op (some 76) (.loadN 2 (.t 7)), .op (some 77) (.loadN 2 (.t 9)), .call (some 78) 13 [.t 76, .t 77], .op (some 79) (.not (.t 78))] (.t 79),
      .op (some 81) (.mov (.t 80)),
      .andor 85 false 9 81 [.op (some 82) (.loadN 2 (.t 7)), .call (some 83) 24 [.t 82], .op (some 84) (.not (.t 83))] (.t 84)])
   (.keep [5, 6, 7, 8, 85] (.cond (.t 85)
    (.seq (.ops [.op (some 4) (.mov (.k (.bool false)))])
     (.keep [4] (.ret)))
    (.skip))))
  (.keep [5, 6, 7, 8] (.seq (.ops [.op (some 11) (.mov (.k (.bool false)))])
  (.keep [5, 6, 7, 8, 11] (.seq (.seq (.ops [.op (some 12) (.mov (.k (.int .i64 0)))])
   (.keep [5, 6, 7, 8, 11, 12] (.block 0 (.loop (.seq (.seq (.ops [.op (some 86) (.mov (.t 12)),
         .op (some 87) (.fadr (.t 5) 0),
         .op (some 88) (.load1 (.t 87)),
         .op (some 89) (.lenS (.t 88)),
         .op (some 90) (.bin .lss (.t 86) (.t 89))])
      (.keep [5, 6, 7, 8, 11, 12, 90] (.cond (.t 90)
       (.skip)
       (.exit 0))))
     (.keep [5, 6, 7, 8, 11, 12] (.seq (.block 1 (.seq (.ops [.op (some 93) (.fadr (.t 5) 0),
          .op (some 94) (.load1 (.t 93)),
          .op (some 95) (.mov (.t 12)),
          .op (some 96) (.iadr 4 (.t 94) (.t 95)),
          .op (some 97) (.loadN 4 (.t 96)),
          .op (some 13) (.alloc [.int .i64 0, .int .i64 0, .int .i64 0, .int .i64 0]),
          .op none (.store 4 (.t 13) (.t 97))])
       (.keep [5, 6, 7, 8, 11, 12, 13] (.seq (.seq (.draw [.op (some 98) (.fadr (.t 13) 1),
           .op (some 99) (.load1 (.t 98)),
           .op (some 100) (.mov (.t 6)),
           .op (some 101) (.iadr 1 (.t 100) (.k (.int .i64 1))),
           .op (some 102) (.load1 (.t 101)),
           .op (some 103) (.bin .neq (.t 99) (.t 102)),
           .op (some 104) (.mov (.t 103)),
           .andor 111 false 6 104 [.op (some 105) (.fadr (.t 13) 2), .op (some 106) (.load1 (.t 105)), .op (some 107) (.mov (.t 6)), .op (some 108) (.iadr 1 (.t 107) (.k (.int .i64 2))), .op (some 109) (.load1 (.t 108)), .op (some 110) (.bin .neq (.t 106) (.t 109))] (.t 110),
           .op (some 112) (.mov (.t 111)),
           .andor 119 false 14 112 [.op (some 113) (.fadr (.t 13) 0), .op (some 114) (.load1 (.t 113)), .op (some 115) (.mov (.t 6)), .op (some 116) (.iadr 1 (.t 115) (.k (.int .i64 0))), .op (some 117) (.load1 (.t 116)), .op (some 118) (.bin .eql (.t 114) (.t 117))] (.t 118)])
        (.keep [5, 6, 7, 8, 11, 12, 13, 119] (.cond (.t 119)
         (.exit 1)
         (.skip))))
       (.keep [5, 6, 7, 8, 11, 12, 13] (.seq (.draw [.op (some 121) (.fadr (.t 13) 3),
          .op (some 122) (.load1 (.t 121)),
          .op (some 123) (.mov (.t 6)),
          .op (some 124) (.iadr 1 (.t 123) (.k (.int .i64 3))),
          .op (some 125) (.load1 (.t 124)),
          .call (some 126) 25 [.t 122, .t 125],
          .op (some 120) (.mov (.t 126)),
          .op (some 127) (.ext (.t 120) 0),
          .op (some 128) (.ext (.t 120) 1),
          .op (some 14) (.mov (.t 127)),
          .op (some 15) (.mov (.t 128))])
       (.keep [5, 6, 7, 8, 11, 12, 13, 14, 15] (.seq (.draw [.op (some 130) (.mov (.t 6)),
          .op (some 131) (.iadr 1 (.t 130) (.k (.int .i64 3))),
          .op (some 132) (.load1 (.t 131)),
          .op (some 133) (.fadr (.t 13) 3),
          .op (some 134) (.load1 (.t 133)),
          .call (some 135) 25 [.t 132, .t 134],
          .op (some 129) (.mov (.t 135)),
          .op (some 136) (.ext (.t 129) 0),
          .op (some 137) (.ext (.t 129) 1),
          .op (some 16) (.mov (.t 136)),
          .op (some 17) (.mov (.t 137))])
       (.keep [5, 6, 7, 8, 11, 12, 14, 15, 16, 17] (.seq (.seq (.ops [.op (some 138) (.mov (.t 15)),
           .op (some 139) (.bin .neq (.t 138) (.k (.int .i64 0))),
           .op (some 140) (.mov (.t 139)),
           .andor 143 false 2 140 [.op (some 141) (.mov (.t 17)), .op (some 142) (.bin .neq (.t 141) (.k (.int .i64 0)))] (.t 142),
           .op (some 144) (.mov (.t 143)),
           .andor 148 false 6 144 [.op (some 145) (.mov (.t 14)), .op (some 146) (.mov (.t 16)), .op (some 147) (.eqb true (.t 145) (.t 146))] (.t 147)])
        (.keep [5, 6, 7, 8, 11, 12, 14, 148] (.cond (.t 148)
         (.seq (.ops [.op (some 4) (.mov (.k (.bool false)))])
          (.keep [4] (.ret)))
         (.skip))))
       (.keep [5, 6, 7, 8, 11, 12, 14] (.ops [.op (some 149) (.mov (.t 11)),
         .op (some 150) (.mov (.t 149)),
         .andor 153 false 1 150 [.op (some 151) (.mov (.t 14)), .op (some 152) (.not (.t 151))] (.t 152),
         .op (some 11) (.mov (.t 153))]))))))))))))
     (.keep [5, 6, 7, 8, 11, 12] (.ops [.op (some 91) (.mov (.t 12)),
       .op (some 92) (.bin .add (.t 91) (.k (.int .i64 1))),
       .op (some 12) (.mov (.t 92))])))))))))
  (.keep [6, 7, 8, 11] (.seq (.draw [.op (some 155) (.loadN 2 (.t 7)),
     .op (some 156) (.mov (.t 6)),
     .op (some 157) (.iadr 1 (.t 156) (.k (.int .i64 0))),
     .op (some 158) (.load1 (.t 157)),
     .op (some 159) (.mov (.t 6)),
     .op (some 160) (.iadr 1 (.t 159) (.k (.int .i64 1))),
     .op (some 161) (.load1 (.t 160)),
     .op (some 162) (.mov (.t 6)),
     .op (some 163) (.iadr 1 (.t 162) (.k (.int .i64 2))),
     .op (some 164) (.load1 (.t 163)),
     .op (some 165) (.mov (.t 6)),
     .op (some 166) (.iadr 1 (.t 165) (.k (.int .i64 3))),
     .op (some 167) (.load1 (.t 166)),
     .call (some 168) 22 [.t 155, .t 158, .t 161, .t 164, .t 167],
     .op (some 154) (.mov (.t 168)),
     .op (some 169) (.ext (.t 154) 0),
     .op (some 170) (.ext (.t 154) 1),
     .op (some 18) (.mov (.t 169)),
     .op (some 19) (.mov (.t 170))])
  (.keep [6, 7, 8, 11, 18, 19] (.seq (.seq (.ops [.op (some 171) (.mov (.t 19)),
      .op (some 172) (.bin .neq (.t 171) (.k (.int .i64 0))),
      .op (some 173) (.mov (.t 172)),
      .andor 178 false 2 173 [.op (some 174) (.mov (.t 18)), .op (some 175) (.mov (.t 8)), .op (some 176) (.bin .eql (.t 175) (.k (.int .i64 0))), .op (some 177) (.eqb true (.t 174) (.t 176))] (.t 177)])
   (.keep [6, 7, 8, 11, 178] (.cond (.t 178)
    (.seq (.ops [.op (some 4) (.mov (.k (.bool false)))])
     (.keep [4] (.ret)))
    (.skip))))
  (.keep [6, 7, 8, 11] (.seq (.draw [.op (some 180) (.loadN 2 (.t 7)),
     .op (some 181) (.mov (.t 6)),
     .op (some 182) (.iadr 1 (.t 181) (.k (.int .i64 0))),
     .op (some 183) (.load1 (.t 182)),
     .call (some 184) 21 [.t 180, .t 183],
     .op (some 179) (.mov (.t 184)),
     .op (some 185) (.ext (.t 179) 0),
     .op (some 186) (.ext (.t 179) 1),
     .op (some 20) (.mov (.t 185)),
     .op (some 21) (.mov (.t 186))])
  (.keep [6, 7, 8, 11, 20, 21] (.seq (.drawE [[], [], [1], [1, 2], [0, 1, 2, 3], [0, 1, 2, 3, 4], [0, 1, 2, 3, 4, 5], [0, 1, 2, 3, 4, 5], [0, 1, 2, 3, 4, 5, 6], [0, 1, 2, 3, 4, 5, 6, 7, 8]] [.op (some 188) (.loadN 2 (.t 7)),
     .op (some 189) (.mov (.t 6)),
     .op (some 190) (.iadr 1 (.t 189) (.k (.int .i64 0))),
     .op (some 191) (.load1 (.t 190)),
     .call (some 192) 12 [.t 188, .t 191],
     .op (some 187) (.mov (.t 192)),
     .op (some 193) (.ext (.t 187) 0),
     .op (some 194) (.ext (.t 187) 1),
     .op (some 22) (.mov (.t 193))]
    [.op (some 23) (.mov (.t 194))])
  (.keep [6, 7, 8, 11, 20, 21, 22, 23] (.seq (.drawE [[], [], [1], [1, 2], [0, 1, 2, 3], [0, 1, 2, 3, 4], [0, 1, 2, 3, 4, 5], [0, 1, 2, 3, 4, 5], [0, 1, 2, 3, 4, 5, 6], [0, 1, 2, 3, 4, 5, 6, 7, 8]] [.op (some 196) (.loadN 2 (.t 7)),
     .op (some 197) (.mov (.t 6)),
     .op (some 198) (.iadr 1 (.t 197) (.k (.int .i64 0))),
     .op (some 199) (.load1 (.t 198)),
     .call (some 200) 26 [.t 196, .t 199],
     .op (some 195) (.mov (.t 200)),
     .op (some 201) (.ext (.t 195) 0),
     .op (some 202) (.ext (.t 195) 1),
     .op (some 24) (.mov (.t 201))]
    [.op (some 25) (.mov (.t 202))])
  (.keep [8, 11, 20, 21, 22, 23, 24] (.seq (.ops [.op (some 203) (.mov (.t 21)),
     .op (some 204) (.bin .eql (.t 203) (.k (.int .i64 0))),
     .op (some 205) (.mov (.t 204)),
     .andor 208 true 2 205 [.op (some 206) (.mov (.t 20)), .op (some 207) (.not (.t 206))] (.t 207),
     .op (some 209) (.mov (.t 208)),
     .andor 212 true 6 209 [.op (some 210) (.mov (.t 23)), .op (some 211) (.bin .eql (.t 210) (.k (.int .i64 0)))] (.t 211),
     .op (some 213) (.mov (.t 212)),
     .andor 219 true 10 213 [.op (some 214) (.mov (.t 22)), .op (some 215) (.lenS (.t 214)), .op (some 216) (.mov (.t 24)), .op (some 217) (.lenS (.t 216)), .op (some 218) (.bin .eql (.t 215) (.t 217))] (.t 218),
     .op (some 220) (.mov (.t 219)),
     .andor 230 true 17 220 [.op (some 221) (.mov (.t 8)), .op (some 222) (.bin .eql (.t 221) (.k (.int .i64 0))), .op (some 223) (.mov (.t 222)), .andor 226 false 20 223 [.op (some 224) (.mov (.t 8)), .op (some 225) (.bin .eql (.t 224) (.k (.int .i64 7)))] (.t 225), .op (some 227) (.mov (.t 226)), .andor 229 false 24 227 [.op (some 228) (.mov (.t 11))] (.t 228)] (.t 229),
     .op (some 4) (.mov (.t 230))])
  (.keep [4] (.ret))))))))))))))))))))))))))))))
theorem k_c_FnLocks_fits : fitsF Try.prog 6 ⟨231, k_c_FnLocks, [.t 4]⟩ = true := by kernel_rfl
set_option maxHeartbeats 4000000 in
theorem c_FnLocks {code more : Str} : Con Try.prog noMv 6 [.d (.sl 1 (code.map byteRow)), .d (.sl 1 (more.map byteRow))] [] (fun r h => r = bool true ∧ h = []) := by
  refine con_of2 k_c_FnLocks_fits rfl fun C hP hmv => ?_
  unfold k_c_FnLocks
  refine cx_seq ?_
  refine cx_ops ?_
  refine ax_q (q_mov rfl) ?_
  refine ax_nil ?_
  refine cx_keep rfl rfl ?_
  refine cx_seq ?_
  refine cx_seq ?_
  refine cx_ops ?_
  refine ax_q (q_mov rfl) ?_
  first | refine ax_q (q_lenS_map rfl) ?_ | refine ax_q (q_lenS_osl rfl) ?_ | refine ax_q (q_lenS_zs rfl) ?_ | refine ax_q (q_lenS rfl) ?_
  refine ax_q (q_ibin rfl rfl rfl) ?_
  refine ax_q (q_mov rfl) ?_
  apply ax_or rfl rfl
  · intro g
    have g := dF g
    refine ax_q (q_mov rfl) ?_
    first | refine ax_q (q_lenS_map rfl) ?_ | refine ax_q (q_lenS_osl rfl) ?_ | refine ax_q (q_lenS_zs rfl) ?_ | refine ax_q (q_lenS rfl) ?_
    refine ax_q (q_ibin rfl rfl rfl) ?_
    exact ax_nil ⟨rfl, by repeat (first | exact trivial | refine ⟨rfl, ?_⟩ | refine ⟨?_, ?_⟩)⟩
  refine ax_nil ?_
  refine cx_keep rfl rfl ?_
  refine cx_cond rfl (fun h0 => ?_) (fun h0 => ?_)
  · have h0 := (fun h => (or_T h).imp dT dT) h0
    refine cx_seq ?_
    refine cx_ops ?_
    refine ax_q (q_mov rfl) ?_
    refine ax_nil ?_
    refine cx_keep rfl rfl ?_
    refine cx_ret (ret0 rfl rfl ?_)
    exact ⟨rfl, rfl⟩
  · have h0 := (fun h => And.intro (dF (or_F h).1) (dF (or_F h).2)) h0
    have hc : code.length ≤ 1048576 := by omega
    have hm : more.length ≤ 1048576 := by omega
    refine cx_skip ?_
    refine cx_keep rfl rfl ?_
    refine cx_seq ?_
    refine cx_ops ?_
    refine ax_q (q_mov rfl) ?_
    first | refine ax_call rfl (vc_pure (c_LocksOf  ?_) hP rfl ?_) | refine ax_call rfl (vc_lend (c_LocksOf  ?_) hP (by repeat (first | exact lal_id _ rfl | exact LAL.nil | refine LAL.cons ?_ ?_ | exact la_id _ rfl | exact LA.lend (lend_whole rfl (by first | (simp; done) | (rw [List.length_map]; rfl))) | refine LA.agg ?_ | refine LA.fn ?_ | refine LA.lend ?_ | exact Lend.d _ | exact Lend.zs _ | exact lend_whole rfl (by first | (simp; done) | (rw [List.length_map]; rfl)) | refine Lend.ptr rfl ?_ | refine Lend.fn ?_ | exact LendL.nil | refine LendL.cons ?_ ?_)) ?_)
    · first | assumption | omega | (simp; done) | (simp; omega)
    rintro r h ⟨l, hl, rfl, rfl⟩
    refine ⟨fun i => 35 + 200 * i, [0, 1], ⟨rfl, rfl, rfl, rfl, rfl, (by first | exact (fun h => absurd h Bool.false_ne_true) | exact (fun _ => ⟨rfl, (noisl_of (by repeat (first | exact trivial | refine ⟨noisl_map (fun _ => rfl), ?_⟩ | refine ⟨?_, ?_⟩)))⟩))⟩, ?_⟩
    skip
    refine ax_e (e_alloc (by decide) rfl rfl) ?_
    refine ax_e (e_st rfl rfl rfl rfl rfl rfl rfl) ?_
    refine ax_nil ?_
    refine cx_keep rfl rfl ?_
    refine cx_seq ?_
    refine cx_ops ?_
    refine ax_q (q_mov rfl) ?_
    first | refine ax_call rfl (vc_pure (c_AskOf  ?_) hP rfl ?_) | refine ax_call rfl (vc_lend (c_AskOf  ?_) hP (by repeat (first | exact lal_id _ rfl | exact LAL.nil | refine LAL.cons ?_ ?_ | exact la_id _ rfl | exact LA.lend (lend_whole rfl (by first | (simp; done) | (rw [List.length_map]; rfl))) | refine LA.agg ?_ | refine LA.fn ?_ | refine LA.lend ?_ | exact Lend.d _ | exact Lend.zs _ | exact lend_whole rfl (by first | (simp; done) | (rw [List.length_map]; rfl)) | refine Lend.ptr rfl ?_ | refine Lend.fn ?_ | exact LendL.nil | refine LendL.cons ?_ ?_)) ?_)
    · first | assumption | omega | (simp; done) | (simp; omega)
    rintro r h ⟨x, hx, rfl, rfl⟩
    refine ⟨fun i => 37 + 200 * i, [0], ⟨rfl, rfl, rfl, rfl, rfl, (by first | exact (fun h => absurd h Bool.false_ne_true) | exact (fun _ => ⟨rfl, (noisl_of (by repeat (first | exact trivial | refine ⟨noisl_map (fun _ => rfl), ?_⟩ | refine ⟨?_, ?_⟩)))⟩))⟩, ?_⟩
    skip
    obtain ⟨hl1, _, hb0, hb1, _⟩ := locksOK_iff.1 hl
    have hwf := locksOK_wf hl
    have htk := takeLock_ok hl hx
    have htl := takeL_ok hl hx
    have htr := @takeL_round l x
    have hth := @takeL_holds l x
    have htc := @takeL_code l x
    rw [← htk] at htl htr hth htc
    obtain ⟨hl2, _, hb2, hb3, _⟩ := locksOK_iff.1 htl
    have hxb := lock_bounds hx
    have hwf2 := locksOK_wf htl
    have htx : isTx x.Tx = true := isTx_mk (by omega)
    have hmx : isMode x.Mode = true := isMode_mk (by omega)
    have hhl := holdsLock_3 htl hx
    have hrl := roundL_3 htl htx
    have hlt := locksOfTx_3 htl htx
    refine ax_q (q_mov rfl) ?_
    refine ax_nil ?_
    refine cx_keep rfl rfl ?_
    refine cx_seq ?_
    refine cx_drawL 18 5000 (fun _ => false) (fun _ => true) [] ([(7, .box [.osl 52 4 0 ((takeLock l x).1).Held.length, .osl 252 2 0 ((takeLock l x).1).Waits.length])]) [[5], [6], [40], [41], [6], [43], [44], [6], [46], [47], [6], [49], [50], [39, 42, 45, 48, 51], [52], [38], [38], [], [7, 53]] [[], [], [], [], [], [], [], [], [], [], [], [], [], [], [], [], [7], [], [7]] rfl ?_
    first | refine ⟨_, .inr ⟨rfl, _, rfl, .inl rfl, loc_q (q_ldN rfl rfl rfl)⟩, ?_⟩ | refine ⟨_, .inr ⟨rfl, _, rfl, .inl rfl, loc_q (q_loadN_ip rfl (Nat.le_refl _))⟩, ?_⟩ | refine ⟨_, .inr ⟨rfl, _, rfl, .inl rfl, loc_q (q_loadN_ip rfl (by decide))⟩, ?_⟩ | refine ⟨_, .inr ⟨rfl, _, rfl, .inl rfl, loc_q (q_loadN_rptr rfl rfl (by assumption) (by decide))⟩, ?_⟩ | refine ⟨_, .inr ⟨rfl, _, rfl, .inl rfl, loc_q (q_loadN_rptr rfl rfl (mapAt (by first | assumption | omega)) (by decide))⟩, ?_⟩
    first | refine ⟨_, .inr ⟨rfl, _, rfl, .inl rfl, loc_q (q_mov rfl)⟩, ?_⟩
    first | refine ⟨_, .inr ⟨rfl, _, rfl, .inl rfl, loc_q (q_ix rfl rfl (by assumption))⟩, ?_⟩ | refine ⟨_, .inr ⟨rfl, _, rfl, .inl rfl, loc_q (q_ix rfl rfl (mapAt (by first | assumption | omega)))⟩, ?_⟩ | refine ⟨_, .inr ⟨rfl, _, rfl, .inl rfl, loc_q (q_ixo rfl rfl (by first | assumption | omega))⟩, ?_⟩ | refine ⟨_, .inr ⟨rfl, _, rfl, .inl rfl, loc_q (q_ixI rfl rfl (by omega) (mapAt (by first | assumption | omega)))⟩, ?_⟩ | refine ⟨_, .inr ⟨rfl, _, rfl, .inl rfl, loc_q (q_ixoI rfl rfl (by omega) (by omega))⟩, ?_⟩
    first | refine ⟨_, .inr ⟨rfl, _, rfl, .inl rfl, loc_q (q_load1_ptr rfl rfl rfl)⟩, ?_⟩ | refine ⟨_, .inr ⟨rfl, _, rfl, .inl rfl, loc_q (q_load1_ip rfl)⟩, ?_⟩ | refine ⟨_, .inr ⟨rfl, _, rfl, .inl rfl, loc_q (q_load1_rptr rfl rfl rfl rfl)⟩, ?_⟩ | refine ⟨_, .inr ⟨rfl, _, rfl, .inl rfl, loc_q (q_load1_rptr rfl rfl (by assumption) rfl)⟩, ?_⟩ | refine ⟨_, .inr ⟨rfl, _, rfl, .inl rfl, loc_q (q_load1_rptr rfl rfl (mapAt (by first | assumption | omega)) rfl)⟩, ?_⟩
    first | refine ⟨_, .inr ⟨rfl, _, rfl, .inl rfl, loc_q (q_mov rfl)⟩, ?_⟩
    first | refine ⟨_, .inr ⟨rfl, _, rfl, .inl rfl, loc_q (q_ix rfl rfl (by assumption))⟩, ?_⟩ | refine ⟨_, .inr ⟨rfl, _, rfl, .inl rfl, loc_q (q_ix rfl rfl (mapAt (by first | assumption | omega)))⟩, ?_⟩ | refine ⟨_, .inr ⟨rfl, _, rfl, .inl rfl, loc_q (q_ixo rfl rfl (by first | assumption | omega))⟩, ?_⟩ | refine ⟨_, .inr ⟨rfl, _, rfl, .inl rfl, loc_q (q_ixI rfl rfl (by omega) (mapAt (by first | assumption | omega)))⟩, ?_⟩ | refine ⟨_, .inr ⟨rfl, _, rfl, .inl rfl, loc_q (q_ixoI rfl rfl (by omega) (by omega))⟩, ?_⟩
    first | refine ⟨_, .inr ⟨rfl, _, rfl, .inl rfl, loc_q (q_load1_ptr rfl rfl rfl)⟩, ?_⟩ | refine ⟨_, .inr ⟨rfl, _, rfl, .inl rfl, loc_q (q_load1_ip rfl)⟩, ?_⟩ | refine ⟨_, .inr ⟨rfl, _, rfl, .inl rfl, loc_q (q_load1_rptr rfl rfl rfl rfl)⟩, ?_⟩ | refine ⟨_, .inr ⟨rfl, _, rfl, .inl rfl, loc_q (q_load1_rptr rfl rfl (by assumption) rfl)⟩, ?_⟩ | refine ⟨_, .inr ⟨rfl, _, rfl, .inl rfl, loc_q (q_load1_rptr rfl rfl (mapAt (by first | assumption | omega)) rfl)⟩, ?_⟩
    first | refine ⟨_, .inr ⟨rfl, _, rfl, .inl rfl, loc_q (q_mov rfl)⟩, ?_⟩
    first | refine ⟨_, .inr ⟨rfl, _, rfl, .inl rfl, loc_q (q_ix rfl rfl (by assumption))⟩, ?_⟩ | refine ⟨_, .inr ⟨rfl, _, rfl, .inl rfl, loc_q (q_ix rfl rfl (mapAt (by first | assumption | omega)))⟩, ?_⟩ | refine ⟨_, .inr ⟨rfl, _, rfl, .inl rfl, loc_q (q_ixo rfl rfl (by first | assumption | omega))⟩, ?_⟩ | refine ⟨_, .inr ⟨rfl, _, rfl, .inl rfl, loc_q (q_ixI rfl rfl (by omega) (mapAt (by first | assumption | omega)))⟩, ?_⟩ | refine ⟨_, .inr ⟨rfl, _, rfl, .inl rfl, loc_q (q_ixoI rfl rfl (by omega) (by omega))⟩, ?_⟩
    first | refine ⟨_, .inr ⟨rfl, _, rfl, .inl rfl, loc_q (q_load1_ptr rfl rfl rfl)⟩, ?_⟩ | refine ⟨_, .inr ⟨rfl, _, rfl, .inl rfl, loc_q (q_load1_ip rfl)⟩, ?_⟩ | refine ⟨_, .inr ⟨rfl, _, rfl, .inl rfl, loc_q (q_load1_rptr rfl rfl rfl rfl)⟩, ?_⟩ | refine ⟨_, .inr ⟨rfl, _, rfl, .inl rfl, loc_q (q_load1_rptr rfl rfl (by assumption) rfl)⟩, ?_⟩ | refine ⟨_, .inr ⟨rfl, _, rfl, .inl rfl, loc_q (q_load1_rptr rfl rfl (mapAt (by first | assumption | omega)) rfl)⟩, ?_⟩
    first | refine ⟨_, .inr ⟨rfl, _, rfl, .inl rfl, loc_q (q_mov rfl)⟩, ?_⟩
    first | refine ⟨_, .inr ⟨rfl, _, rfl, .inl rfl, loc_q (q_ix rfl rfl (by assumption))⟩, ?_⟩ | refine ⟨_, .inr ⟨rfl, _, rfl, .inl rfl, loc_q (q_ix rfl rfl (mapAt (by first | assumption | omega)))⟩, ?_⟩ | refine ⟨_, .inr ⟨rfl, _, rfl, .inl rfl, loc_q (q_ixo rfl rfl (by first | assumption | omega))⟩, ?_⟩ | refine ⟨_, .inr ⟨rfl, _, rfl, .inl rfl, loc_q (q_ixI rfl rfl (by omega) (mapAt (by first | assumption | omega)))⟩, ?_⟩ | refine ⟨_, .inr ⟨rfl, _, rfl, .inl rfl, loc_q (q_ixoI rfl rfl (by omega) (by omega))⟩, ?_⟩
    first | refine ⟨_, .inr ⟨rfl, _, rfl, .inl rfl, loc_q (q_load1_ptr rfl rfl rfl)⟩, ?_⟩ | refine ⟨_, .inr ⟨rfl, _, rfl, .inl rfl, loc_q (q_load1_ip rfl)⟩, ?_⟩ | refine ⟨_, .inr ⟨rfl, _, rfl, .inl rfl, loc_q (q_load1_rptr rfl rfl rfl rfl)⟩, ?_⟩ | refine ⟨_, .inr ⟨rfl, _, rfl, .inl rfl, loc_q (q_load1_rptr rfl rfl (by assumption) rfl)⟩, ?_⟩ | refine ⟨_, .inr ⟨rfl, _, rfl, .inl rfl, loc_q (q_load1_rptr rfl rfl (mapAt (by first | assumption | omega)) rfl)⟩, ?_⟩
    first | refine ⟨_, .inr ⟨rfl, _, rfl, .inl rfl, loc_call (fun i => 52 + 200 * i) false rfl (c_TakeLock (l := l) (x := x) (by first | assumption | omega | (simp; done) | (simp; omega)) (by first | assumption | omega | (simp; done) | (simp; omega))) hP (.inr ⟨rfl, rfl, rfl⟩) rfl rfl (fun h => by cases h)⟩, ?_⟩ | refine ⟨_, .inr ⟨rfl, _, rfl, .inl rfl, loc_call (fun i => 52 + 200 * i) true rfl (c_TakeLock (l := l) (x := x) (by first | assumption | omega | (simp; done) | (simp; omega)) (by first | assumption | omega | (simp; done) | (simp; omega))) hP (.inl ⟨rfl, (by repeat (first | exact lal_id _ rfl | exact LAL.nil | refine LAL.cons ?_ ?_ | exact la_id _ rfl | exact LA.lend (lend_whole rfl (by first | (simp; done) | (rw [List.length_map]; rfl))) | refine LA.agg ?_ | refine LA.fn ?_ | refine LA.lend ?_ | exact Lend.d _ | exact Lend.zs _ | exact lend_whole rfl (by first | (simp; done) | (rw [List.length_map]; rfl)) | refine Lend.ptr rfl ?_ | refine Lend.fn ?_ | exact LendL.nil | refine LendL.cons ?_ ?_))⟩) rfl rfl (fun _ => ⟨rfl, noisl_of (by repeat (first | exact trivial | refine ⟨noisl_map (fun _ => rfl), ?_⟩ | refine ⟨?_, ?_⟩))⟩)⟩, ?_⟩
    first | refine ⟨_, .inr ⟨rfl, _, rfl, .inl rfl, loc_q (q_mov rfl)⟩, ?_⟩
    first | refine ⟨_, .inr ⟨rfl, _, rfl, .inl rfl, loc_q (q_ext rfl rfl)⟩, ?_⟩
    first | refine ⟨_, .inr ⟨rfl, _, rfl, .inr ⟨rfl, rfl, .inr rfl, rfl, rfl⟩, loc_q (q_ext rfl rfl)⟩, ?_⟩
    first | refine ⟨_, .inr ⟨rfl, _, rfl, .inl rfl, loc_alloc⟩, ?_⟩
    refine ⟨⟨5000, .dead, []⟩, .inl ⟨rfl, rfl, rfl, locl_st rfl rfl rfl rfl rfl rfl rfl⟩, ?_⟩
    refine ⟨rfl, ?_⟩
    refine ax_q (q_mov rfl) ?_
    refine ax_nil ?_
    refine cx_keep rfl rfl ?_
    refine cx_seq ?_
    refine cx_drawL 18 5000 (fun _ => false) (fun _ => true) [] ([(9, .box [.osl 69 4 0 ((takeLock l x).1).Held.length, .osl 269 2 0 ((takeLock l x).1).Waits.length])]) [[5], [6], [57], [58], [6], [60], [61], [6], [63], [64], [6], [66], [67], [56, 59, 62, 65, 68], [69], [55], [55], [], [9, 70]] [[], [], [], [], [], [], [], [], [], [], [], [], [], [], [], [], [9], [], [9]] rfl ?_
    first | refine ⟨_, .inr ⟨rfl, _, rfl, .inl rfl, loc_q (q_ldN rfl rfl rfl)⟩, ?_⟩ | refine ⟨_, .inr ⟨rfl, _, rfl, .inl rfl, loc_q (q_loadN_ip rfl (Nat.le_refl _))⟩, ?_⟩ | refine ⟨_, .inr ⟨rfl, _, rfl, .inl rfl, loc_q (q_loadN_ip rfl (by decide))⟩, ?_⟩ | refine ⟨_, .inr ⟨rfl, _, rfl, .inl rfl, loc_q (q_loadN_rptr rfl rfl (by assumption) (by decide))⟩, ?_⟩ | refine ⟨_, .inr ⟨rfl, _, rfl, .inl rfl, loc_q (q_loadN_rptr rfl rfl (mapAt (by first | assumption | omega)) (by decide))⟩, ?_⟩
    first | refine ⟨_, .inr ⟨rfl, _, rfl, .inl rfl, loc_q (q_mov rfl)⟩, ?_⟩
    first | refine ⟨_, .inr ⟨rfl, _, rfl, .inl rfl, loc_q (q_ix rfl rfl (by assumption))⟩, ?_⟩ | refine ⟨_, .inr ⟨rfl, _, rfl, .inl rfl, loc_q (q_ix rfl rfl (mapAt (by first | assumption | omega)))⟩, ?_⟩ | refine ⟨_, .inr ⟨rfl, _, rfl, .inl rfl, loc_q (q_ixo rfl rfl (by first | assumption | omega))⟩, ?_⟩ | refine ⟨_, .inr ⟨rfl, _, rfl, .inl rfl, loc_q (q_ixI rfl rfl (by omega) (mapAt (by first | assumption | omega)))⟩, ?_⟩ | refine ⟨_, .inr ⟨rfl, _, rfl, .inl rfl, loc_q (q_ixoI rfl rfl (by omega) (by omega))⟩, ?_⟩
    first | refine ⟨_, .inr ⟨rfl, _, rfl, .inl rfl, loc_q (q_load1_ptr rfl rfl rfl)⟩, ?_⟩ | refine ⟨_, .inr ⟨rfl, _, rfl, .inl rfl, loc_q (q_load1_ip rfl)⟩, ?_⟩ | refine ⟨_, .inr ⟨rfl, _, rfl, .inl rfl, loc_q (q_load1_rptr rfl rfl rfl rfl)⟩, ?_⟩ | refine ⟨_, .inr ⟨rfl, _, rfl, .inl rfl, loc_q (q_load1_rptr rfl rfl (by assumption) rfl)⟩, ?_⟩ | refine ⟨_, .inr ⟨rfl, _, rfl, .inl rfl, loc_q (q_load1_rptr rfl rfl (mapAt (by first | assumption | omega)) rfl)⟩, ?_⟩
    first | refine ⟨_, .inr ⟨rfl, _, rfl, .inl rfl, loc_q (q_mov rfl)⟩, ?_⟩
    first | refine ⟨_, .inr ⟨rfl, _, rfl, .inl rfl, loc_q (q_ix rfl rfl (by assumption))⟩, ?_⟩ | refine ⟨_, .inr ⟨rfl, _, rfl, .inl rfl, loc_q (q_ix rfl rfl (mapAt (by first | assumption | omega)))⟩, ?_⟩ | refine ⟨_, .inr ⟨rfl, _, rfl, .inl rfl, loc_q (q_ixo rfl rfl (by first | assumption | omega))⟩, ?_⟩ | refine ⟨_, .inr ⟨rfl, _, rfl, .inl rfl, loc_q (q_ixI rfl rfl (by omega) (mapAt (by first | assumption | omega)))⟩, ?_⟩ | refine ⟨_, .inr ⟨rfl, _, rfl, .inl rfl, loc_q (q_ixoI rfl rfl (by omega) (by omega))⟩, ?_⟩
    first | refine ⟨_, .inr ⟨rfl, _, rfl, .inl rfl, loc_q (q_load1_ptr rfl rfl rfl)⟩, ?_⟩ | refine ⟨_, .inr ⟨rfl, _, rfl, .inl rfl, loc_q (q_load1_ip rfl)⟩, ?_⟩ | refine ⟨_, .inr ⟨rfl, _, rfl, .inl rfl, loc_q (q_load1_rptr rfl rfl rfl rfl)⟩, ?_⟩ | refine ⟨_, .inr ⟨rfl, _, rfl, .inl rfl, loc_q (q_load1_rptr rfl rfl (by assumption) rfl)⟩, ?_⟩ | refine ⟨_, .inr ⟨rfl, _, rfl, .inl rfl, loc_q (q_load1_rptr rfl rfl (mapAt (by first | assumption | omega)) rfl)⟩, ?_⟩
    first | refine ⟨_, .inr ⟨rfl, _, rfl, .inl rfl, loc_q (q_mov rfl)⟩, ?_⟩
    first | refine ⟨_, .inr ⟨rfl, _, rfl, .inl rfl, loc_q (q_ix rfl rfl (by assumption))⟩, ?_⟩ | refine ⟨_, .inr ⟨rfl, _, rfl, .inl rfl, loc_q (q_ix rfl rfl (mapAt (by first | assumption | omega)))⟩, ?_⟩ | refine ⟨_, .inr ⟨rfl, _, rfl, .inl rfl, loc_q (q_ixo rfl rfl (by first | assumption | omega))⟩, ?_⟩ | refine ⟨_, .inr ⟨rfl, _, rfl, .inl rfl, loc_q (q_ixI rfl rfl (by omega) (mapAt (by first | assumption | omega)))⟩, ?_⟩ | refine ⟨_, .inr ⟨rfl, _, rfl, .inl rfl, loc_q (q_ixoI rfl rfl (by omega) (by omega))⟩, ?_⟩
    first | refine ⟨_, .inr ⟨rfl, _, rfl, .inl rfl, loc_q (q_load1_ptr rfl rfl rfl)⟩, ?_⟩ | refine ⟨_, .inr ⟨rfl, _, rfl, .inl rfl, loc_q (q_load1_ip rfl)⟩, ?_⟩ | refine ⟨_, .inr ⟨rfl, _, rfl, .inl rfl, loc_q (q_load1_rptr rfl rfl rfl rfl)⟩, ?_⟩ | refine ⟨_, .inr ⟨rfl, _, rfl, .inl rfl, loc_q (q_load1_rptr rfl rfl (by assumption) rfl)⟩, ?_⟩ | refine ⟨_, .inr ⟨rfl, _, rfl, .inl rfl, loc_q (q_load1_rptr rfl rfl (mapAt (by first | assumption | omega)) rfl)⟩, ?_⟩
    first | refine ⟨_, .inr ⟨rfl, _, rfl, .inl rfl, loc_q (q_mov rfl)⟩, ?_⟩
    first | refine ⟨_, .inr ⟨rfl, _, rfl, .inl rfl, loc_q (q_ix rfl rfl (by assumption))⟩, ?_⟩ | refine ⟨_, .inr ⟨rfl, _, rfl, .inl rfl, loc_q (q_ix rfl rfl (mapAt (by first | assumption | omega)))⟩, ?_⟩ | refine ⟨_, .inr ⟨rfl, _, rfl, .inl rfl, loc_q (q_ixo rfl rfl (by first | assumption | omega))⟩, ?_⟩ | refine ⟨_, .inr ⟨rfl, _, rfl, .inl rfl, loc_q (q_ixI rfl rfl (by omega) (mapAt (by first | assumption | omega)))⟩, ?_⟩ | refine ⟨_, .inr ⟨rfl, _, rfl, .inl rfl, loc_q (q_ixoI rfl rfl (by omega) (by omega))⟩, ?_⟩
    first | refine ⟨_, .inr ⟨rfl, _, rfl, .inl rfl, loc_q (q_load1_ptr rfl rfl rfl)⟩, ?_⟩ | refine ⟨_, .inr ⟨rfl, _, rfl, .inl rfl, loc_q (q_load1_ip rfl)⟩, ?_⟩ | refine ⟨_, .inr ⟨rfl, _, rfl, .inl rfl, loc_q (q_load1_rptr rfl rfl rfl rfl)⟩, ?_⟩ | refine ⟨_, .inr ⟨rfl, _, rfl, .inl rfl, loc_q (q_load1_rptr rfl rfl (by assumption) rfl)⟩, ?_⟩ | refine ⟨_, .inr ⟨rfl, _, rfl, .inl rfl, loc_q (q_load1_rptr rfl rfl (mapAt (by first | assumption | omega)) rfl)⟩, ?_⟩
    first | refine ⟨_, .inr ⟨rfl, _, rfl, .inl rfl, loc_call (fun i => 69 + 200 * i) false rfl (c_sTakeLock (l := l) (x := x) (by first | assumption | omega | (simp; done) | (simp; omega)) (by first | assumption | omega | (simp; done) | (simp; omega)) (by first | assumption | omega | (simp; done) | (simp; omega))) hP (.inr ⟨rfl, rfl, rfl⟩) rfl rfl (fun h => by cases h)⟩, ?_⟩ | refine ⟨_, .inr ⟨rfl, _, rfl, .inl rfl, loc_call (fun i => 69 + 200 * i) true rfl (c_sTakeLock (l := l) (x := x) (by first | assumption | omega | (simp; done) | (simp; omega)) (by first | assumption | omega | (simp; done) | (simp; omega)) (by first | assumption | omega | (simp; done) | (simp; omega))) hP (.inl ⟨rfl, (by repeat (first | exact lal_id _ rfl | exact LAL.nil | refine LAL.cons ?_ ?_ | exact la_id _ rfl | exact LA.lend (lend_whole rfl (by first | (simp; done) | (rw [List.length_map]; rfl))) | refine LA.agg ?_ | refine LA.fn ?_ | refine LA.lend ?_ | exact Lend.d _ | exact Lend.zs _ | exact lend_whole rfl (by first | (simp; done) | (rw [List.length_map]; rfl)) | refine Lend.ptr rfl ?_ | refine Lend.fn ?_ | exact LendL.nil | refine LendL.cons ?_ ?_))⟩) rfl rfl (fun _ => ⟨rfl, noisl_of (by repeat (first | exact trivial | refine ⟨noisl_map (fun _ => rfl), ?_⟩ | refine ⟨?_, ?_⟩))⟩)⟩, ?_⟩
    first | refine ⟨_, .inr ⟨rfl, _, rfl, .inl rfl, loc_q (q_mov rfl)⟩, ?_⟩
    first | refine ⟨_, .inr ⟨rfl, _, rfl, .inl rfl, loc_q (q_ext rfl rfl)⟩, ?_⟩
    first | refine ⟨_, .inr ⟨rfl, _, rfl, .inr ⟨rfl, rfl, .inr rfl, rfl, rfl⟩, loc_q (q_ext rfl rfl)⟩, ?_⟩
    first | refine ⟨_, .inr ⟨rfl, _, rfl, .inl rfl, loc_alloc⟩, ?_⟩
    refine ⟨⟨5000, .dead, []⟩, .inl ⟨rfl, rfl, rfl, locl_st rfl rfl rfl rfl rfl rfl rfl⟩, ?_⟩
    refine ⟨rfl, ?_⟩
    refine ax_q (q_mov rfl) ?_
    refine ax_nil ?_
    refine cx_keep rfl rfl ?_
    refine cx_seq ?_
    refine cx_seq ?_
    refine cx_ops ?_
    refine ax_q (q_mov rfl) ?_
    refine ax_q (q_mov rfl) ?_
    refine ax_q (q_ibin rfl rfl rfl) ?_
    refine ax_q (q_mov rfl) ?_
    apply ax_or rfl rfl
    · intro g
      have g := nF g
      first | refine ax_q (q_ldN rfl rfl rfl) ?_ | refine ax_q (q_loadN_ip rfl (Nat.le_refl _)) ?_ | refine ax_q (q_loadN_ip rfl (by decide)) ?_ | refine ax_q (q_loadN_rptr rfl rfl (by assumption) (by decide)) ?_ | refine ax_q (q_loadN_rptr rfl rfl (mapAt (by first | assumption | omega)) (by decide)) ?_
      first | refine ax_q (q_ldN rfl rfl rfl) ?_ | refine ax_q (q_loadN_ip rfl (Nat.le_refl _)) ?_ | refine ax_q (q_loadN_ip rfl (by decide)) ?_ | refine ax_q (q_loadN_rptr rfl rfl (by assumption) (by decide)) ?_ | refine ax_q (q_loadN_rptr rfl rfl (mapAt (by first | assumption | omega)) (by decide)) ?_
      first | refine ax_call rfl (vc_pure0 (c_sameLocks  ?_ ?_) hP rfl rfl ?_) | refine ax_call rfl (vc_lend0 (c_sameLocks  ?_ ?_) hP (by repeat (first | exact lal_id _ rfl | exact LAL.nil | refine LAL.cons ?_ ?_ | exact la_id _ rfl | exact LA.lend (lend_whole rfl (by first | (simp; done) | (rw [List.length_map]; rfl))) | refine LA.agg ?_ | refine LA.fn ?_ | refine LA.lend ?_ | exact Lend.d _ | exact Lend.zs _ | exact lend_whole rfl (by first | (simp; done) | (rw [List.length_map]; rfl)) | refine Lend.ptr rfl ?_ | refine Lend.fn ?_ | exact LendL.nil | refine LendL.cons ?_ ?_)) rfl rfl ?_)
      · first | assumption | omega | (simp; done) | (simp; omega)
      · first | assumption | omega | (simp; done) | (simp; omega)
      refine ax_q (q_not rfl) ?_
      exact ax_nil ⟨rfl, by repeat (first | exact trivial | refine ⟨rfl, ?_⟩ | refine ⟨?_, ?_⟩)⟩
    refine ax_q (q_mov rfl) ?_
    apply ax_or rfl rfl
    · intro g
      have g := (fun h => And.intro (nF (or_F h).1) (bF (or_F h).2)) g
      first | refine ax_q (q_ldN rfl rfl rfl) ?_ | refine ax_q (q_loadN_ip rfl (Nat.le_refl _)) ?_ | refine ax_q (q_loadN_ip rfl (by decide)) ?_ | refine ax_q (q_loadN_rptr rfl rfl (by assumption) (by decide)) ?_ | refine ax_q (q_loadN_rptr rfl rfl (mapAt (by first | assumption | omega)) (by decide)) ?_
      first | refine ax_call rfl (vc_pure0 (c_LocksOK  ?_ ?_) hP rfl rfl ?_) | refine ax_call rfl (vc_lend0 (c_LocksOK  ?_ ?_) hP (by repeat (first | exact lal_id _ rfl | exact LAL.nil | refine LAL.cons ?_ ?_ | exact la_id _ rfl | exact LA.lend (lend_whole rfl (by first | (simp; done) | (rw [List.length_map]; rfl))) | refine LA.agg ?_ | refine LA.fn ?_ | refine LA.lend ?_ | exact Lend.d _ | exact Lend.zs _ | exact lend_whole rfl (by first | (simp; done) | (rw [List.length_map]; rfl)) | refine Lend.ptr rfl ?_ | refine Lend.fn ?_ | exact LendL.nil | refine LendL.cons ?_ ?_)) rfl rfl ?_)
      · first | assumption | omega | (simp; done) | (simp; omega)
      · first | assumption | omega | (simp; done) | (simp; omega)
      refine ax_q (q_not rfl) ?_
      exact ax_nil ⟨rfl, by repeat (first | exact trivial | refine ⟨rfl, ?_⟩ | refine ⟨?_, ?_⟩)⟩
    refine ax_nil ?_
    refine cx_keep rfl rfl ?_
    refine cx_cond rfl (fun h1 => ?_) (fun h1 => ?_)
    · have h1 := (fun h => (or_T h).imp (fun h => (or_T h).imp nT bT) bT) h1
      exact absurd h1 (by simp [eqb_rfl, htl])
    · have h1 := (fun h => And.intro ((fun h => And.intro (nF (or_F h).1) (bF (or_F h).2)) (or_F h).1) (bF (or_F h).2)) h1
      refine cx_skip ?_
      refine cx_keep rfl rfl ?_
      refine cx_seq ?_
      refine cx_ops ?_
      refine ax_q (q_mov rfl) ?_
      refine ax_nil ?_
      refine cx_keep rfl rfl ?_
      refine cx_seq ?_
      refine cx_seq ?_
      refine cx_ops ?_
      refine ax_q (q_mov rfl) ?_
      refine ax_nil ?_
      refine cx_keep rfl rfl ?_
      refine cx_block ?_
      refine cx_loopU (fun n k => k ≤ l.Held.length ∧ n = l.Held.length - k) (fun k : Nat => [(11, bool ((l.Held.take k).any (fun h => clashes h x))), (12, int k)]) (fun _ => [(5, .box [.osl 35 4 0 (l).Held.length, .osl 235 2 0 (l).Waits.length]), (35, .rows 4 ((l).Held.map GLock.row)), (235, .rows 2 ((l).Waits.map GWait.row)), (37, .rows 1 [[.int .i64 x.Tx], [.int .i64 x.Table], [.int .i64 x.Row], [.int .i64 x.Mode]]), (7, .box [.osl 52 4 0 ((takeLock l x).1).Held.length, .osl 252 2 0 ((takeLock l x).1).Waits.length]), (52, .rows 4 (((takeLock l x).1).Held.map GLock.row)), (252, .rows 2 (((takeLock l x).1).Waits.map GWait.row))]) ⟨_, 0, ⟨Nat.zero_le _, rfl⟩, by repeat (first | exact trivial | refine ⟨rfl, ?_⟩ | refine ⟨?_, ?_⟩)⟩ ?_
      rintro n k ⟨hk, rfl⟩
      refine cx_seq ?_
      refine cx_seq ?_
      refine cx_ops ?_
      refine ax_q (q_mov rfl) ?_
      first | refine ax_q (q_fadr_ptr rfl) ?_ | refine ax_q (q_fadr_rptr rfl) ?_ | refine ax_q (q_fadr_ip rfl) ?_
      first | refine ax_q (q_load1_ptr rfl rfl rfl) ?_ | refine ax_q (q_load1_ip rfl) ?_ | refine ax_q (q_load1_rptr rfl rfl rfl rfl) ?_ | refine ax_q (q_load1_rptr rfl rfl (by assumption) rfl) ?_ | refine ax_q (q_load1_rptr rfl rfl (mapAt (by first | assumption | omega)) rfl) ?_
      first | refine ax_q (q_lenS_map rfl) ?_ | refine ax_q (q_lenS_osl rfl) ?_ | refine ax_q (q_lenS_zs rfl) ?_ | refine ax_q (q_lenS rfl) ?_
      refine ax_q (q_ibin rfl rfl rfl) ?_
      refine ax_nil ?_
      refine cx_keep rfl rfl ?_
      refine cx_cond rfl (fun h2 => ?_) (fun h2 => ?_)
      · have h2 := dT h2
        have h2x : k < l.Held.length := by omega
        have hkb := lock_bounds (hl1 _ (List.getElem_mem h2x))
        have hmk : isMode l.Held[k].Mode = true := isMode_mk (by omega)
        refine cx_skip ?_
        refine cx_keep rfl rfl ?_
        refine cx_seq ?_
        refine cx_block ?_
        refine cx_seq ?_
        refine cx_ops ?_
        first | refine ax_q (q_fadr_ptr rfl) ?_ | refine ax_q (q_fadr_rptr rfl) ?_ | refine ax_q (q_fadr_ip rfl) ?_
        first | refine ax_q (q_load1_ptr rfl rfl rfl) ?_ | refine ax_q (q_load1_ip rfl) ?_ | refine ax_q (q_load1_rptr rfl rfl rfl rfl) ?_ | refine ax_q (q_load1_rptr rfl rfl (by assumption) rfl) ?_ | refine ax_q (q_load1_rptr rfl rfl (mapAt (by first | assumption | omega)) rfl) ?_
        refine ax_q (q_mov rfl) ?_
        refine ax_q (q_ixo rfl rfl h2x) ?_
        first | refine ax_q (q_ldN rfl rfl rfl) ?_ | refine ax_q (q_loadN_ip rfl (Nat.le_refl _)) ?_ | refine ax_q (q_loadN_ip rfl (by decide)) ?_ | refine ax_q (q_loadN_rptr rfl rfl (by assumption) (by decide)) ?_ | refine ax_q (q_loadN_rptr rfl rfl (mapAt (by first | assumption | omega)) (by decide)) ?_
        refine ax_e (e_alloc (by decide) rfl rfl) ?_
        refine ax_e (e_st rfl rfl rfl rfl rfl rfl rfl) ?_
        refine ax_nil ?_
        refine cx_keep rfl rfl ?_
        refine cx_seq ?_
        refine cx_seq ?_
        refine cx_draw ?_
        first | refine ax_q (q_fadr_ptr rfl) ?_ | refine ax_q (q_fadr_rptr rfl) ?_ | refine ax_q (q_fadr_ip rfl) ?_
        first | refine ax_q (q_load1_ptr rfl rfl rfl) ?_ | refine ax_q (q_load1_ip rfl) ?_ | refine ax_q (q_load1_rptr rfl rfl rfl rfl) ?_ | refine ax_q (q_load1_rptr rfl rfl (by assumption) rfl) ?_ | refine ax_q (q_load1_rptr rfl rfl (mapAt (by first | assumption | omega)) rfl) ?_
        refine ax_q (q_mov rfl) ?_
        first | refine ax_q (q_ix rfl rfl (by assumption)) ?_ | refine ax_q (q_ix rfl rfl (mapAt (by first | assumption | omega))) ?_ | refine ax_q (q_ixo rfl rfl (by first | assumption | omega)) ?_ | refine ax_q (q_ixI rfl rfl (by omega) (mapAt (by first | assumption | omega))) ?_ | refine ax_q (q_ixoI rfl rfl (by omega) (by omega)) ?_
        first | refine ax_q (q_load1_ptr rfl rfl rfl) ?_ | refine ax_q (q_load1_ip rfl) ?_ | refine ax_q (q_load1_rptr rfl rfl rfl rfl) ?_ | refine ax_q (q_load1_rptr rfl rfl (by assumption) rfl) ?_ | refine ax_q (q_load1_rptr rfl rfl (mapAt (by first | assumption | omega)) rfl) ?_
        refine ax_q (q_ibin rfl rfl rfl) ?_
        refine ax_q (q_mov rfl) ?_
        apply ax_or rfl rfl
        · intro g
          have g := nF g
          first | refine ax_q (q_fadr_ptr rfl) ?_ | refine ax_q (q_fadr_rptr rfl) ?_ | refine ax_q (q_fadr_ip rfl) ?_
          first | refine ax_q (q_load1_ptr rfl rfl rfl) ?_ | refine ax_q (q_load1_ip rfl) ?_ | refine ax_q (q_load1_rptr rfl rfl rfl rfl) ?_ | refine ax_q (q_load1_rptr rfl rfl (by assumption) rfl) ?_ | refine ax_q (q_load1_rptr rfl rfl (mapAt (by first | assumption | omega)) rfl) ?_
          refine ax_q (q_mov rfl) ?_
          first | refine ax_q (q_ix rfl rfl (by assumption)) ?_ | refine ax_q (q_ix rfl rfl (mapAt (by first | assumption | omega))) ?_ | refine ax_q (q_ixo rfl rfl (by first | assumption | omega)) ?_ | refine ax_q (q_ixI rfl rfl (by omega) (mapAt (by first | assumption | omega))) ?_ | refine ax_q (q_ixoI rfl rfl (by omega) (by omega)) ?_
          first | refine ax_q (q_load1_ptr rfl rfl rfl) ?_ | refine ax_q (q_load1_ip rfl) ?_ | refine ax_q (q_load1_rptr rfl rfl rfl rfl) ?_ | refine ax_q (q_load1_rptr rfl rfl (by assumption) rfl) ?_ | refine ax_q (q_load1_rptr rfl rfl (mapAt (by first | assumption | omega)) rfl) ?_
          refine ax_q (q_ibin rfl rfl rfl) ?_
          exact ax_nil ⟨rfl, by repeat (first | exact trivial | refine ⟨rfl, ?_⟩ | refine ⟨?_, ?_⟩)⟩
        refine ax_q (q_mov rfl) ?_
        apply ax_or rfl rfl
        · intro g
          have g := (fun h => And.intro (nF (or_F h).1) (nF (or_F h).2)) g
          first | refine ax_q (q_fadr_ptr rfl) ?_ | refine ax_q (q_fadr_rptr rfl) ?_ | refine ax_q (q_fadr_ip rfl) ?_
          first | refine ax_q (q_load1_ptr rfl rfl rfl) ?_ | refine ax_q (q_load1_ip rfl) ?_ | refine ax_q (q_load1_rptr rfl rfl rfl rfl) ?_ | refine ax_q (q_load1_rptr rfl rfl (by assumption) rfl) ?_ | refine ax_q (q_load1_rptr rfl rfl (mapAt (by first | assumption | omega)) rfl) ?_
          refine ax_q (q_mov rfl) ?_
          first | refine ax_q (q_ix rfl rfl (by assumption)) ?_ | refine ax_q (q_ix rfl rfl (mapAt (by first | assumption | omega))) ?_ | refine ax_q (q_ixo rfl rfl (by first | assumption | omega)) ?_ | refine ax_q (q_ixI rfl rfl (by omega) (mapAt (by first | assumption | omega))) ?_ | refine ax_q (q_ixoI rfl rfl (by omega) (by omega)) ?_
          first | refine ax_q (q_load1_ptr rfl rfl rfl) ?_ | refine ax_q (q_load1_ip rfl) ?_ | refine ax_q (q_load1_rptr rfl rfl rfl rfl) ?_ | refine ax_q (q_load1_rptr rfl rfl (by assumption) rfl) ?_ | refine ax_q (q_load1_rptr rfl rfl (mapAt (by first | assumption | omega)) rfl) ?_
          refine ax_q (q_ibin rfl rfl rfl) ?_
          exact ax_nil ⟨rfl, by repeat (first | exact trivial | refine ⟨rfl, ?_⟩ | refine ⟨?_, ?_⟩)⟩
        refine ax_nil ?_
        refine cx_keep rfl rfl ?_
        refine cx_cond rfl (fun h3 => ?_) (fun h3 => ?_)
        · have h3 := (fun h => (or_T h).imp (fun h => (or_T h).imp nT nT) dT) h3
          rw [any_clash_same h2x h3]
          refine cx_exit rfl ?_
          refine cx_keep rfl rfl ?_
          refine cx_ops ?_
          refine ax_q (q_mov rfl) ?_
          try rw [any_clash_nextM h2x h3 hmk hmx]
          refine ax_qe (r' := int ((k + 1 : Nat) : Int)) (q_ibin rfl rfl rfl) (by rw [wi (by omega) (by omega)]; rfl) ?_
          refine ax_q (q_mov rfl) ?_
          refine ax_nil ?_
          exact ⟨_, k + 1, by omega, ⟨by omega, rfl⟩, by repeat (first | exact trivial | refine ⟨rfl, ?_⟩ | refine ⟨?_, ?_⟩)⟩
        · have h3 := (fun h => And.intro ((fun h => And.intro (nF (or_F h).1) (nF (or_F h).2)) (or_F h).1) (dF (or_F h).2)) h3
          refine cx_skip ?_
          refine cx_keep rfl rfl ?_
          refine cx_seq ?_
          refine cx_draw ?_
          first | refine ax_q (q_fadr_ptr rfl) ?_ | refine ax_q (q_fadr_rptr rfl) ?_ | refine ax_q (q_fadr_ip rfl) ?_
          first | refine ax_q (q_load1_ptr rfl rfl rfl) ?_ | refine ax_q (q_load1_ip rfl) ?_ | refine ax_q (q_load1_rptr rfl rfl rfl rfl) ?_ | refine ax_q (q_load1_rptr rfl rfl (by assumption) rfl) ?_ | refine ax_q (q_load1_rptr rfl rfl (mapAt (by first | assumption | omega)) rfl) ?_
          refine ax_q (q_mov rfl) ?_
          first | refine ax_q (q_ix rfl rfl (by assumption)) ?_ | refine ax_q (q_ix rfl rfl (mapAt (by first | assumption | omega))) ?_ | refine ax_q (q_ixo rfl rfl (by first | assumption | omega)) ?_ | refine ax_q (q_ixI rfl rfl (by omega) (mapAt (by first | assumption | omega))) ?_ | refine ax_q (q_ixoI rfl rfl (by omega) (by omega)) ?_
          first | refine ax_q (q_load1_ptr rfl rfl rfl) ?_ | refine ax_q (q_load1_ip rfl) ?_ | refine ax_q (q_load1_rptr rfl rfl rfl rfl) ?_ | refine ax_q (q_load1_rptr rfl rfl (by assumption) rfl) ?_ | refine ax_q (q_load1_rptr rfl rfl (mapAt (by first | assumption | omega)) rfl) ?_
          refine ax_callq rfl (c_ModesFit) hP (lal_id _ rfl) rfl ?_
          refine ax_q (q_mov rfl) ?_
          refine ax_q (q_ext rfl rfl) ?_
          refine ax_q (q_ext rfl rfl) ?_
          refine ax_q (q_mov rfl) ?_
          refine ax_q (q_mov rfl) ?_
          refine ax_nil ?_
          refine cx_keep rfl rfl ?_
          refine cx_seq ?_
          refine cx_draw ?_
          refine ax_q (q_mov rfl) ?_
          first | refine ax_q (q_ix rfl rfl (by assumption)) ?_ | refine ax_q (q_ix rfl rfl (mapAt (by first | assumption | omega))) ?_ | refine ax_q (q_ixo rfl rfl (by first | assumption | omega)) ?_ | refine ax_q (q_ixI rfl rfl (by omega) (mapAt (by first | assumption | omega))) ?_ | refine ax_q (q_ixoI rfl rfl (by omega) (by omega)) ?_
          first | refine ax_q (q_load1_ptr rfl rfl rfl) ?_ | refine ax_q (q_load1_ip rfl) ?_ | refine ax_q (q_load1_rptr rfl rfl rfl rfl) ?_ | refine ax_q (q_load1_rptr rfl rfl (by assumption) rfl) ?_ | refine ax_q (q_load1_rptr rfl rfl (mapAt (by first | assumption | omega)) rfl) ?_
          first | refine ax_q (q_fadr_ptr rfl) ?_ | refine ax_q (q_fadr_rptr rfl) ?_ | refine ax_q (q_fadr_ip rfl) ?_
          first | refine ax_q (q_load1_ptr rfl rfl rfl) ?_ | refine ax_q (q_load1_ip rfl) ?_ | refine ax_q (q_load1_rptr rfl rfl rfl rfl) ?_ | refine ax_q (q_load1_rptr rfl rfl (by assumption) rfl) ?_ | refine ax_q (q_load1_rptr rfl rfl (mapAt (by first | assumption | omega)) rfl) ?_
          refine ax_callq rfl (c_ModesFit) hP (lal_id _ rfl) rfl ?_
          refine ax_q (q_mov rfl) ?_
          refine ax_q (q_ext rfl rfl) ?_
          refine ax_q (q_ext rfl rfl) ?_
          refine ax_q (q_mov rfl) ?_
          refine ax_q (q_mov rfl) ?_
          refine ax_nil ?_
          refine cx_keep rfl rfl ?_
          refine cx_seq ?_
          refine cx_seq ?_
          refine cx_ops ?_
          refine ax_q (q_mov rfl) ?_
          refine ax_q (q_ibin rfl rfl rfl) ?_
          refine ax_q (q_mov rfl) ?_
          apply ax_or rfl rfl
          · intro g
            have g := nF g
            refine ax_q (q_mov rfl) ?_
            refine ax_q (q_ibin rfl rfl rfl) ?_
            exact ax_nil ⟨rfl, by repeat (first | exact trivial | refine ⟨rfl, ?_⟩ | refine ⟨?_, ?_⟩)⟩
          refine ax_q (q_mov rfl) ?_
          apply ax_or rfl rfl
          · intro g
            have g := (fun h => And.intro (nF (or_F h).1) (nF (or_F h).2)) g
            refine ax_q (q_mov rfl) ?_
            refine ax_q (q_mov rfl) ?_
            refine ax_q (q_eqb rfl rfl) ?_
            exact ax_nil ⟨rfl, by repeat (first | exact trivial | refine ⟨rfl, ?_⟩ | refine ⟨?_, ?_⟩)⟩
          refine ax_nil ?_
          refine cx_keep rfl rfl ?_
          refine cx_cond rfl (fun h4 => ?_) (fun h4 => ?_)
          · have h4 := (fun h => (or_T h).imp (fun h => (or_T h).imp nT nT) bneT) h4
            exact absurd h4 (by simp [hmk, hmx, fit_comm x.Mode])
          · have h4 := (fun h => And.intro ((fun h => And.intro (nF (or_F h).1) (nF (or_F h).2)) (or_F h).1) (bneF (or_F h).2)) h4
            refine cx_skip ?_
            refine cx_keep rfl rfl ?_
            refine cx_ops ?_
            refine ax_q (q_mov rfl) ?_
            refine ax_q (q_mov rfl) ?_
            apply ax_or rfl rfl
            · intro g
              refine ax_q (q_mov rfl) ?_
              refine ax_q (q_not rfl) ?_
              exact ax_nil ⟨rfl, by repeat (first | exact trivial | refine ⟨rfl, ?_⟩ | refine ⟨?_, ?_⟩)⟩
            refine ax_q (q_mov rfl) ?_
            refine ax_nil ?_
            refine cx_keep rfl rfl ?_
            refine cx_ops ?_
            refine ax_q (q_mov rfl) ?_
            try rw [any_clash_nextM h2x h3 hmk hmx]
            refine ax_qe (r' := int ((k + 1 : Nat) : Int)) (q_ibin rfl rfl rfl) (by rw [wi (by omega) (by omega)]; rfl) ?_
            refine ax_q (q_mov rfl) ?_
            refine ax_nil ?_
            exact ⟨_, k + 1, by omega, ⟨by omega, rfl⟩, by repeat (first | exact trivial | refine ⟨rfl, ?_⟩ | refine ⟨?_, ?_⟩)⟩
      · have h2 := dF h2
        have h2x : k = l.Held.length := by omega
        subst h2x
        rw [List.take_length]
        refine cx_exit rfl ?_
        refine cx_keep rfl rfl ?_
        refine cx_seq ?_
        refine cx_draw ?_
        first | refine ax_q (q_ldN rfl rfl rfl) ?_ | refine ax_q (q_loadN_ip rfl (Nat.le_refl _)) ?_ | refine ax_q (q_loadN_ip rfl (by decide)) ?_ | refine ax_q (q_loadN_rptr rfl rfl (by assumption) (by decide)) ?_ | refine ax_q (q_loadN_rptr rfl rfl (mapAt (by first | assumption | omega)) (by decide)) ?_
        refine ax_q (q_mov rfl) ?_
        first | refine ax_q (q_ix rfl rfl (by assumption)) ?_ | refine ax_q (q_ix rfl rfl (mapAt (by first | assumption | omega))) ?_ | refine ax_q (q_ixo rfl rfl (by first | assumption | omega)) ?_ | refine ax_q (q_ixI rfl rfl (by omega) (mapAt (by first | assumption | omega))) ?_ | refine ax_q (q_ixoI rfl rfl (by omega) (by omega)) ?_
        first | refine ax_q (q_load1_ptr rfl rfl rfl) ?_ | refine ax_q (q_load1_ip rfl) ?_ | refine ax_q (q_load1_rptr rfl rfl rfl rfl) ?_ | refine ax_q (q_load1_rptr rfl rfl (by assumption) rfl) ?_ | refine ax_q (q_load1_rptr rfl rfl (mapAt (by first | assumption | omega)) rfl) ?_
        refine ax_q (q_mov rfl) ?_
        first | refine ax_q (q_ix rfl rfl (by assumption)) ?_ | refine ax_q (q_ix rfl rfl (mapAt (by first | assumption | omega))) ?_ | refine ax_q (q_ixo rfl rfl (by first | assumption | omega)) ?_ | refine ax_q (q_ixI rfl rfl (by omega) (mapAt (by first | assumption | omega))) ?_ | refine ax_q (q_ixoI rfl rfl (by omega) (by omega)) ?_
        first | refine ax_q (q_load1_ptr rfl rfl rfl) ?_ | refine ax_q (q_load1_ip rfl) ?_ | refine ax_q (q_load1_rptr rfl rfl rfl rfl) ?_ | refine ax_q (q_load1_rptr rfl rfl (by assumption) rfl) ?_ | refine ax_q (q_load1_rptr rfl rfl (mapAt (by first | assumption | omega)) rfl) ?_
        refine ax_q (q_mov rfl) ?_
        first | refine ax_q (q_ix rfl rfl (by assumption)) ?_ | refine ax_q (q_ix rfl rfl (mapAt (by first | assumption | omega))) ?_ | refine ax_q (q_ixo rfl rfl (by first | assumption | omega)) ?_ | refine ax_q (q_ixI rfl rfl (by omega) (mapAt (by first | assumption | omega))) ?_ | refine ax_q (q_ixoI rfl rfl (by omega) (by omega)) ?_
        first | refine ax_q (q_load1_ptr rfl rfl rfl) ?_ | refine ax_q (q_load1_ip rfl) ?_ | refine ax_q (q_load1_rptr rfl rfl rfl rfl) ?_ | refine ax_q (q_load1_rptr rfl rfl (by assumption) rfl) ?_ | refine ax_q (q_load1_rptr rfl rfl (mapAt (by first | assumption | omega)) rfl) ?_
        refine ax_q (q_mov rfl) ?_
        first | refine ax_q (q_ix rfl rfl (by assumption)) ?_ | refine ax_q (q_ix rfl rfl (mapAt (by first | assumption | omega))) ?_ | refine ax_q (q_ixo rfl rfl (by first | assumption | omega)) ?_ | refine ax_q (q_ixI rfl rfl (by omega) (mapAt (by first | assumption | omega))) ?_ | refine ax_q (q_ixoI rfl rfl (by omega) (by omega)) ?_
        first | refine ax_q (q_load1_ptr rfl rfl rfl) ?_ | refine ax_q (q_load1_ip rfl) ?_ | refine ax_q (q_load1_rptr rfl rfl rfl rfl) ?_ | refine ax_q (q_load1_rptr rfl rfl (by assumption) rfl) ?_ | refine ax_q (q_load1_rptr rfl rfl (mapAt (by first | assumption | omega)) rfl) ?_
        first | refine ax_callq rfl (c_HoldsLock (x := x) ?_ ?_) hP (lal_id _ rfl) rfl ?_ | refine ax_callq rfl (c_HoldsLock (x := x) ?_ ?_) hP (by repeat (first | exact lal_id _ rfl | exact LAL.nil | refine LAL.cons ?_ ?_ | exact la_id _ rfl | exact LA.lend (lend_whole rfl (by first | (simp; done) | (rw [List.length_map]; rfl))) | refine LA.agg ?_ | refine LA.fn ?_ | refine LA.lend ?_ | exact Lend.d _ | exact Lend.zs _ | exact lend_whole rfl (by first | (simp; done) | (rw [List.length_map]; rfl)) | refine Lend.ptr rfl ?_ | refine Lend.fn ?_ | exact LendL.nil | refine LendL.cons ?_ ?_)) rfl ?_
        · first | assumption | omega | (simp; done) | (simp; omega)
        · first | assumption | omega | (simp; done) | (simp; omega)
        refine ax_q (q_mov rfl) ?_
        refine ax_q (q_ext rfl rfl) ?_
        refine ax_q (q_ext rfl rfl) ?_
        refine ax_q (q_mov rfl) ?_
        refine ax_q (q_mov rfl) ?_
        refine ax_nil ?_
        refine cx_keep rfl rfl ?_
        refine cx_seq ?_
        refine cx_seq ?_
        refine cx_ops ?_
        refine ax_q (q_mov rfl) ?_
        refine ax_q (q_ibin rfl rfl rfl) ?_
        refine ax_q (q_mov rfl) ?_
        apply ax_or rfl rfl
        · intro g
          have g := nF g
          refine ax_q (q_mov rfl) ?_
          refine ax_q (q_mov rfl) ?_
          refine ax_q (q_ibin rfl rfl rfl) ?_
          refine ax_q (q_eqb rfl rfl) ?_
          exact ax_nil ⟨rfl, by repeat (first | exact trivial | refine ⟨rfl, ?_⟩ | refine ⟨?_, ?_⟩)⟩
        refine ax_nil ?_
        refine cx_keep rfl rfl ?_
        refine cx_cond rfl (fun h5 => ?_) (fun h5 => ?_)
        · have h5 := (fun h => (or_T h).imp nT bneT) h5
          exact absurd h5 (by simp [hhl, hth])
        · have h5 := (fun h => And.intro (nF (or_F h).1) (bneF (or_F h).2)) h5
          refine cx_skip ?_
          refine cx_keep rfl rfl ?_
          refine cx_seq ?_
          refine cx_draw ?_
          first | refine ax_q (q_ldN rfl rfl rfl) ?_ | refine ax_q (q_loadN_ip rfl (Nat.le_refl _)) ?_ | refine ax_q (q_loadN_ip rfl (by decide)) ?_ | refine ax_q (q_loadN_rptr rfl rfl (by assumption) (by decide)) ?_ | refine ax_q (q_loadN_rptr rfl rfl (mapAt (by first | assumption | omega)) (by decide)) ?_
          refine ax_q (q_mov rfl) ?_
          first | refine ax_q (q_ix rfl rfl (by assumption)) ?_ | refine ax_q (q_ix rfl rfl (mapAt (by first | assumption | omega))) ?_ | refine ax_q (q_ixo rfl rfl (by first | assumption | omega)) ?_ | refine ax_q (q_ixI rfl rfl (by omega) (mapAt (by first | assumption | omega))) ?_ | refine ax_q (q_ixoI rfl rfl (by omega) (by omega)) ?_
          first | refine ax_q (q_load1_ptr rfl rfl rfl) ?_ | refine ax_q (q_load1_ip rfl) ?_ | refine ax_q (q_load1_rptr rfl rfl rfl rfl) ?_ | refine ax_q (q_load1_rptr rfl rfl (by assumption) rfl) ?_ | refine ax_q (q_load1_rptr rfl rfl (mapAt (by first | assumption | omega)) rfl) ?_
          first | refine ax_callq rfl (c_WaitsRound  ?_ ?_) hP (lal_id _ rfl) rfl ?_ | refine ax_callq rfl (c_WaitsRound  ?_ ?_) hP (by repeat (first | exact lal_id _ rfl | exact LAL.nil | refine LAL.cons ?_ ?_ | exact la_id _ rfl | exact LA.lend (lend_whole rfl (by first | (simp; done) | (rw [List.length_map]; rfl))) | refine LA.agg ?_ | refine LA.fn ?_ | refine LA.lend ?_ | exact Lend.d _ | exact Lend.zs _ | exact lend_whole rfl (by first | (simp; done) | (rw [List.length_map]; rfl)) | refine Lend.ptr rfl ?_ | refine Lend.fn ?_ | exact LendL.nil | refine LendL.cons ?_ ?_)) rfl ?_
          · first | assumption | omega | (simp; done) | (simp; omega)
          · first | assumption | omega | (simp; done) | (simp; omega)
          refine ax_q (q_mov rfl) ?_
          refine ax_q (q_ext rfl rfl) ?_
          refine ax_q (q_ext rfl rfl) ?_
          refine ax_q (q_mov rfl) ?_
          refine ax_q (q_mov rfl) ?_
          refine ax_nil ?_
          refine cx_keep rfl rfl ?_
          refine cx_seq ?_
          refine cx_drawL 0 188 (fun _ => false) (fun _ => true) [] ([]) [[7], [6], [189], [190], [188, 191], [192], [187], [187], [193]] [[], [], [], [], [], [], [], [], []] rfl ?_
          first | refine ⟨⟨188, _, []⟩, .inl ⟨rfl, rfl, rfl, locl_of (loc_q (q_ldN rfl rfl rfl))⟩, ?_⟩ | refine ⟨⟨188, _, []⟩, .inl ⟨rfl, rfl, rfl, locl_of (loc_q (q_loadN_ip rfl (Nat.le_refl _)))⟩, ?_⟩ | refine ⟨⟨188, _, []⟩, .inl ⟨rfl, rfl, rfl, locl_of (loc_q (q_loadN_ip rfl (by decide)))⟩, ?_⟩ | refine ⟨⟨188, _, []⟩, .inl ⟨rfl, rfl, rfl, locl_of (loc_q (q_loadN_rptr rfl rfl (by assumption) (by decide)))⟩, ?_⟩ | refine ⟨⟨188, _, []⟩, .inl ⟨rfl, rfl, rfl, locl_of (loc_q (q_loadN_rptr rfl rfl (mapAt (by first | assumption | omega)) (by decide)))⟩, ?_⟩
          first | refine ⟨_, .inr ⟨rfl, _, rfl, .inr ⟨rfl, rfl, .inr rfl, rfl, rfl⟩, loc_q (q_mov rfl)⟩, ?_⟩
          first | refine ⟨_, .inr ⟨rfl, _, rfl, .inr ⟨rfl, rfl, .inr rfl, rfl, rfl⟩, loc_q (q_ix rfl rfl (by assumption))⟩, ?_⟩ | refine ⟨_, .inr ⟨rfl, _, rfl, .inr ⟨rfl, rfl, .inr rfl, rfl, rfl⟩, loc_q (q_ix rfl rfl (mapAt (by first | assumption | omega)))⟩, ?_⟩ | refine ⟨_, .inr ⟨rfl, _, rfl, .inr ⟨rfl, rfl, .inr rfl, rfl, rfl⟩, loc_q (q_ixo rfl rfl (by first | assumption | omega))⟩, ?_⟩ | refine ⟨_, .inr ⟨rfl, _, rfl, .inr ⟨rfl, rfl, .inr rfl, rfl, rfl⟩, loc_q (q_ixI rfl rfl (by omega) (mapAt (by first | assumption | omega)))⟩, ?_⟩ | refine ⟨_, .inr ⟨rfl, _, rfl, .inr ⟨rfl, rfl, .inr rfl, rfl, rfl⟩, loc_q (q_ixoI rfl rfl (by omega) (by omega))⟩, ?_⟩
          first | refine ⟨_, .inr ⟨rfl, _, rfl, .inr ⟨rfl, rfl, .inr rfl, rfl, rfl⟩, loc_q (q_load1_ptr rfl rfl rfl)⟩, ?_⟩ | refine ⟨_, .inr ⟨rfl, _, rfl, .inr ⟨rfl, rfl, .inr rfl, rfl, rfl⟩, loc_q (q_load1_ip rfl)⟩, ?_⟩ | refine ⟨_, .inr ⟨rfl, _, rfl, .inr ⟨rfl, rfl, .inr rfl, rfl, rfl⟩, loc_q (q_load1_rptr rfl rfl rfl rfl)⟩, ?_⟩ | refine ⟨_, .inr ⟨rfl, _, rfl, .inr ⟨rfl, rfl, .inr rfl, rfl, rfl⟩, loc_q (q_load1_rptr rfl rfl (by assumption) rfl)⟩, ?_⟩ | refine ⟨_, .inr ⟨rfl, _, rfl, .inr ⟨rfl, rfl, .inr rfl, rfl, rfl⟩, loc_q (q_load1_rptr rfl rfl (mapAt (by first | assumption | omega)) rfl)⟩, ?_⟩
          first | refine ⟨_, .inr ⟨rfl, _, rfl, .inr ⟨rfl, rfl, .inl rfl, rfl, rfl⟩, loc_call (fun i => 192 + 200 * i) false rfl (c_LocksOfTx (l := (takeLock l x).1) (tx := x.Tx) (by first | assumption | omega | (simp; done) | (simp; omega)) (by first | assumption | omega | (simp; done) | (simp; omega))) hP (.inr ⟨rfl, rfl, rfl⟩) rfl rfl (fun h => by cases h)⟩, ?_⟩ | refine ⟨_, .inr ⟨rfl, _, rfl, .inr ⟨rfl, rfl, .inl rfl, rfl, rfl⟩, loc_call (fun i => 192 + 200 * i) true rfl (c_LocksOfTx (l := (takeLock l x).1) (tx := x.Tx) (by first | assumption | omega | (simp; done) | (simp; omega)) (by first | assumption | omega | (simp; done) | (simp; omega))) hP (.inl ⟨rfl, (by repeat (first | exact lal_id _ rfl | exact LAL.nil | refine LAL.cons ?_ ?_ | exact la_id _ rfl | exact LA.lend (lend_whole rfl (by first | (simp; done) | (rw [List.length_map]; rfl))) | refine LA.agg ?_ | refine LA.fn ?_ | refine LA.lend ?_ | exact Lend.d _ | exact Lend.zs _ | exact lend_whole rfl (by first | (simp; done) | (rw [List.length_map]; rfl)) | refine Lend.ptr rfl ?_ | refine Lend.fn ?_ | exact LendL.nil | refine LendL.cons ?_ ?_))⟩) rfl rfl (fun _ => ⟨rfl, noisl_of (by repeat (first | exact trivial | refine ⟨noisl_map (fun _ => rfl), ?_⟩ | refine ⟨?_, ?_⟩))⟩)⟩, ?_⟩
          first | refine ⟨_, .inr ⟨rfl, _, rfl, .inr ⟨rfl, rfl, .inl rfl, rfl, rfl⟩, loc_q (q_mov rfl)⟩, ?_⟩
          first | refine ⟨_, .inr ⟨rfl, _, rfl, .inr ⟨rfl, rfl, .inl rfl, rfl, rfl⟩, loc_q (q_ext rfl rfl)⟩, ?_⟩
          first | refine ⟨_, .inr ⟨rfl, _, rfl, .inr ⟨rfl, rfl, .inl rfl, rfl, rfl⟩, loc_q (q_ext rfl rfl)⟩, ?_⟩
          first | refine ⟨_, .inr ⟨rfl, _, rfl, .inr ⟨rfl, rfl, .inl rfl, rfl, rfl⟩, loc_q (q_mov rfl)⟩, ?_⟩
          refine ⟨rfl, ?_⟩
          refine ax_q (q_mov rfl) ?_
          refine ax_nil ?_
          refine cx_keep rfl rfl ?_
          refine cx_seq ?_
          refine cx_drawL 0 196 (fun _ => false) (fun _ => true) [] ([]) [[7], [6], [197], [198], [196, 199], [200], [195], [195], [201]] [[], [], [], [], [], [], [], [], []] rfl ?_
          first | refine ⟨⟨196, _, []⟩, .inl ⟨rfl, rfl, rfl, locl_of (loc_q (q_ldN rfl rfl rfl))⟩, ?_⟩ | refine ⟨⟨196, _, []⟩, .inl ⟨rfl, rfl, rfl, locl_of (loc_q (q_loadN_ip rfl (Nat.le_refl _)))⟩, ?_⟩ | refine ⟨⟨196, _, []⟩, .inl ⟨rfl, rfl, rfl, locl_of (loc_q (q_loadN_ip rfl (by decide)))⟩, ?_⟩ | refine ⟨⟨196, _, []⟩, .inl ⟨rfl, rfl, rfl, locl_of (loc_q (q_loadN_rptr rfl rfl (by assumption) (by decide)))⟩, ?_⟩ | refine ⟨⟨196, _, []⟩, .inl ⟨rfl, rfl, rfl, locl_of (loc_q (q_loadN_rptr rfl rfl (mapAt (by first | assumption | omega)) (by decide)))⟩, ?_⟩
          first | refine ⟨_, .inr ⟨rfl, _, rfl, .inr ⟨rfl, rfl, .inr rfl, rfl, rfl⟩, loc_q (q_mov rfl)⟩, ?_⟩
          first | refine ⟨_, .inr ⟨rfl, _, rfl, .inr ⟨rfl, rfl, .inr rfl, rfl, rfl⟩, loc_q (q_ix rfl rfl (by assumption))⟩, ?_⟩ | refine ⟨_, .inr ⟨rfl, _, rfl, .inr ⟨rfl, rfl, .inr rfl, rfl, rfl⟩, loc_q (q_ix rfl rfl (mapAt (by first | assumption | omega)))⟩, ?_⟩ | refine ⟨_, .inr ⟨rfl, _, rfl, .inr ⟨rfl, rfl, .inr rfl, rfl, rfl⟩, loc_q (q_ixo rfl rfl (by first | assumption | omega))⟩, ?_⟩ | refine ⟨_, .inr ⟨rfl, _, rfl, .inr ⟨rfl, rfl, .inr rfl, rfl, rfl⟩, loc_q (q_ixI rfl rfl (by omega) (mapAt (by first | assumption | omega)))⟩, ?_⟩ | refine ⟨_, .inr ⟨rfl, _, rfl, .inr ⟨rfl, rfl, .inr rfl, rfl, rfl⟩, loc_q (q_ixoI rfl rfl (by omega) (by omega))⟩, ?_⟩
          first | refine ⟨_, .inr ⟨rfl, _, rfl, .inr ⟨rfl, rfl, .inr rfl, rfl, rfl⟩, loc_q (q_load1_ptr rfl rfl rfl)⟩, ?_⟩ | refine ⟨_, .inr ⟨rfl, _, rfl, .inr ⟨rfl, rfl, .inr rfl, rfl, rfl⟩, loc_q (q_load1_ip rfl)⟩, ?_⟩ | refine ⟨_, .inr ⟨rfl, _, rfl, .inr ⟨rfl, rfl, .inr rfl, rfl, rfl⟩, loc_q (q_load1_rptr rfl rfl rfl rfl)⟩, ?_⟩ | refine ⟨_, .inr ⟨rfl, _, rfl, .inr ⟨rfl, rfl, .inr rfl, rfl, rfl⟩, loc_q (q_load1_rptr rfl rfl (by assumption) rfl)⟩, ?_⟩ | refine ⟨_, .inr ⟨rfl, _, rfl, .inr ⟨rfl, rfl, .inr rfl, rfl, rfl⟩, loc_q (q_load1_rptr rfl rfl (mapAt (by first | assumption | omega)) rfl)⟩, ?_⟩
          first | refine ⟨_, .inr ⟨rfl, _, rfl, .inr ⟨rfl, rfl, .inl rfl, rfl, rfl⟩, loc_call (fun i => 200 + 200 * i) false rfl (c_sLocksOfTx (l := (takeLock l x).1) (tx := x.Tx) (by first | assumption | omega | (simp; done) | (simp; omega)) (by first | assumption | omega | (simp; done) | (simp; omega)) (by first | assumption | omega | (simp; done) | (simp; omega))) hP (.inr ⟨rfl, rfl, rfl⟩) rfl rfl (fun h => by cases h)⟩, ?_⟩ | refine ⟨_, .inr ⟨rfl, _, rfl, .inr ⟨rfl, rfl, .inl rfl, rfl, rfl⟩, loc_call (fun i => 200 + 200 * i) true rfl (c_sLocksOfTx (l := (takeLock l x).1) (tx := x.Tx) (by first | assumption | omega | (simp; done) | (simp; omega)) (by first | assumption | omega | (simp; done) | (simp; omega)) (by first | assumption | omega | (simp; done) | (simp; omega))) hP (.inl ⟨rfl, (by repeat (first | exact lal_id _ rfl | exact LAL.nil | refine LAL.cons ?_ ?_ | exact la_id _ rfl | exact LA.lend (lend_whole rfl (by first | (simp; done) | (rw [List.length_map]; rfl))) | refine LA.agg ?_ | refine LA.fn ?_ | refine LA.lend ?_ | exact Lend.d _ | exact Lend.zs _ | exact lend_whole rfl (by first | (simp; done) | (rw [List.length_map]; rfl)) | refine Lend.ptr rfl ?_ | refine Lend.fn ?_ | exact LendL.nil | refine LendL.cons ?_ ?_))⟩) rfl rfl (fun _ => ⟨rfl, noisl_of (by repeat (first | exact trivial | refine ⟨noisl_map (fun _ => rfl), ?_⟩ | refine ⟨?_, ?_⟩))⟩)⟩, ?_⟩
          first | refine ⟨_, .inr ⟨rfl, _, rfl, .inr ⟨rfl, rfl, .inl rfl, rfl, rfl⟩, loc_q (q_mov rfl)⟩, ?_⟩
          first | refine ⟨_, .inr ⟨rfl, _, rfl, .inr ⟨rfl, rfl, .inl rfl, rfl, rfl⟩, loc_q (q_ext rfl rfl)⟩, ?_⟩
          first | refine ⟨_, .inr ⟨rfl, _, rfl, .inr ⟨rfl, rfl, .inl rfl, rfl, rfl⟩, loc_q (q_ext rfl rfl)⟩, ?_⟩
          first | refine ⟨_, .inr ⟨rfl, _, rfl, .inr ⟨rfl, rfl, .inl rfl, rfl, rfl⟩, loc_q (q_mov rfl)⟩, ?_⟩
          refine ⟨rfl, ?_⟩
          refine ax_q (q_mov rfl) ?_
          refine ax_nil ?_
          refine cx_keep rfl rfl ?_
          refine cx_seq ?_
          refine cx_ops ?_
          refine ax_q (q_mov rfl) ?_
          refine ax_q (q_ibin rfl rfl rfl) ?_
          refine ax_q (q_mov rfl) ?_
          apply ax_and rfl rfl
          · intro g
            have g := dT g
            refine ax_q (q_mov rfl) ?_
            refine ax_q (q_not rfl) ?_
            exact ax_nil ⟨rfl, by repeat (first | exact trivial | refine ⟨rfl, ?_⟩ | refine ⟨?_, ?_⟩)⟩
          refine ax_q (q_mov rfl) ?_
          apply ax_and rfl rfl
          · intro g
            have g := (fun h => And.intro (dT (and_T h).1) (bT (and_T h).2)) g
            refine ax_q (q_mov rfl) ?_
            refine ax_q (q_ibin rfl rfl rfl) ?_
            exact ax_nil ⟨rfl, by repeat (first | exact trivial | refine ⟨rfl, ?_⟩ | refine ⟨?_, ?_⟩)⟩
          refine ax_q (q_mov rfl) ?_
          apply ax_and rfl rfl
          · intro g
            have g := (fun h => And.intro ((fun h => And.intro (dT (and_T h).1) (bT (and_T h).2)) (and_T h).1) (dT (and_T h).2)) g
            refine ax_q (q_mov rfl) ?_
            first | refine ax_q (q_lenS_map rfl) ?_ | refine ax_q (q_lenS_osl rfl) ?_ | refine ax_q (q_lenS_zs rfl) ?_ | refine ax_q (q_lenS rfl) ?_
            refine ax_q (q_mov rfl) ?_
            first | refine ax_q (q_lenS_map rfl) ?_ | refine ax_q (q_lenS_osl rfl) ?_ | refine ax_q (q_lenS_zs rfl) ?_ | refine ax_q (q_lenS rfl) ?_
            refine ax_q (q_ibin rfl rfl rfl) ?_
            exact ax_nil ⟨rfl, by repeat (first | exact trivial | refine ⟨rfl, ?_⟩ | refine ⟨?_, ?_⟩)⟩
          refine ax_q (q_mov rfl) ?_
          apply ax_and rfl rfl
          · intro g
            have g := (fun h => And.intro ((fun h => And.intro ((fun h => And.intro (dT (and_T h).1) (bT (and_T h).2)) (and_T h).1) (dT (and_T h).2)) (and_T h).1) (dT (and_T h).2)) g
            refine ax_q (q_mov rfl) ?_
            refine ax_q (q_ibin rfl rfl rfl) ?_
            refine ax_q (q_mov rfl) ?_
            apply ax_or rfl rfl
            · intro g
              have g := dF g
              refine ax_q (q_mov rfl) ?_
              refine ax_q (q_ibin rfl rfl rfl) ?_
              exact ax_nil ⟨rfl, by repeat (first | exact trivial | refine ⟨rfl, ?_⟩ | refine ⟨?_, ?_⟩)⟩
            refine ax_q (q_mov rfl) ?_
            apply ax_or rfl rfl
            · intro g
              have g := (fun h => And.intro (dF (or_F h).1) (dF (or_F h).2)) g
              refine ax_q (q_mov rfl) ?_
              exact ax_nil ⟨rfl, by repeat (first | exact trivial | refine ⟨rfl, ?_⟩ | refine ⟨?_, ?_⟩)⟩
            exact ax_nil ⟨rfl, by repeat (first | exact trivial | refine ⟨rfl, ?_⟩ | refine ⟨?_, ?_⟩)⟩
          refine ax_q (q_mov rfl) ?_
          refine ax_nil ?_
          refine cx_keep rfl rfl ?_
          refine cx_ret (ret0 rfl rfl ?_)
          exact ⟨by
            simp [mkRes, hrl, hlt, htr]
            rcases htc with h | h | h
            · exact .inl (.inl h)
            · exact .inl (.inr h)
            · exact .inr (by simpa using h), rfl⟩

theorem own : ownKnob Try.prog.godebug = none := by kernel_rfl
theorem laid : laidOutB Try.prog = true := by kernel_rfl
theorem closedTs : closedT Try.prog [5, 22] = true := by kernel_rfl
theorem con (rows : List (List D)) (h : HasAll Try.prog Try.f6.params.toList rows) : Con Try.prog noMv 6 (argsAV Try.prog Try.f6.params.toList rows) [] (fun r h => r = AM.bool true ∧ h = []) := by
  rw [Try.params6] at h ⊢
  obtain ⟨d0, r0, rfl, h0, h⟩ := h
  obtain ⟨d1, r1, rfl, h1, h⟩ := h
  obtain rfl := h
  obtain ⟨a0, rfl, w0⟩ := (dec_slice (sz := 1) Try.underlying22 (by kernel_rfl) (dec_byte Try.underlying5)) h0
  obtain ⟨a1, rfl, w1⟩ := (dec_slice (sz := 1) Try.underlying22 (by kernel_rfl) (dec_byte Try.underlying5)) h1
  have e : argsAV Try.prog [22, 22] [[.sl 1 (a0.map byteRow)], [.sl 1 (a1.map byteRow)]] = [.d (.sl 1 (a0.map byteRow)), .d (.sl 1 (a1.map byteRow))] := by
    first | (simp only [argsAV, argAV, Try.underlying22]; done) | (simp only [argsAV, argAV, Try.underlying22]; rfl)
  show Con Try.prog noMv 6 (argsAV Try.prog [22, 22] [[.sl 1 (a0.map byteRow)], [.sl 1 (a1.map byteRow)]]) [] _
  rw [e]
  exact c_FnLocks
set_option maxRecDepth 100000 in
theorem lifted (os : Os) (started : os.Started) (H : Type) (enc : TypeId × Value → H) :
    ReturnsInHanded {} Try.checked os 6 .any (Rows.fnLocksSpec.pre6 enc Try.prog Try.f6 Rows.fnLocksRow.domain false) (Rows.fnLocksSpec.post enc Try.prog Try.f6 false true false false) := by
  refine returnsInHanded_of_change (C := Try.checked) own started (by kernel_rfl) Try.func6
    (ChangeSpec.witness6 (enc := enc) (C := Try.checked) false ⟨#[], #[.slice none 0 0, .slice none 0 0], []⟩ 8 (by kernel_rfl) (by kernel_rfl) (by kernel_rfl) (by kernel_rfl)) ?_
  intro W base args ds gs before hval hW hcnd _
  refine law_contract closedTs laid (by kernel_rfl) rfl rfl Try.underlying4 con (fun hl => ?_) hval hW
  match ds, hl with
  | [x0, x1], _ => rfl
theorem over : Rows.fnLocksRow.holds Try.pinned (OpenSpec.ofChange Rows.fnLocksSpec) :=
  OpenClaim.holds_of_wide 6 Try.f6 rfl rfl rfl rfl rfl rfl rfl ⟨rfl, rfl, rfl, rfl, rfl⟩ rfl rfl rfl rfl rfl (by kernel_rfl) Try.func6 (by kernel_rfl)
    (of_decide_eq_true (by kernel_rfl)) (by unfold Func.isWrapper; first | (rw [if_pos (by decide +kernel)]; kernel_rfl) | (rw [if_neg (by decide +kernel)]; exact ⟨rfl, rfl⟩))
    (fun os started H enc _ => lifted os started H enc)
theorem proved : Rows.FnLocksSaid := over
end fnLocks
end Go.Proofs.Ytljbgclkdfeegaa
#print axioms Go.Proofs.Ytljbgclkdfeegaa.fnLocks.proved
