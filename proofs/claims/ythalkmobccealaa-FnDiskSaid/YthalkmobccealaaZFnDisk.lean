/- The law FnDisk of the given program returns true for all arguments, and its arguments read behind the call as they read before: the statement FnDiskSaid, with no condition. -/
import Derived.Test.YthalkmobccealaaW1
import Derived.Test.YthalkmobccealaaRows
namespace Go.Proofs.Ythalkmobccealaa
open Go Go.AM Go.ChangeShapes Go.RowKit
set_option linter.unusedVariables false
set_option linter.unusedSimpArgs false
namespace fnDisk
set_option maxRecDepth 10000
/- loop.example/g00332/laws.FnDisk -/
def k_c_FnDisk : XCode :=
 .seq (.ops [.op (some 4) (.mov (.k (.bool false)))])
 (.keep [0, 1] (.seq (.seq (.ops [.op (some 31) (.mov (.t 0)),
   .op (some 32) (.lenS (.t 31)),
   .op (some 33) (.bin .gtr (.t 32) (.k (.int .i64 1048576))),
   .op (some 34) (.mov (.t 33)),
   .andor 38 false 3 34 [.op (some 35) (.mov (.t 1)), .op (some 36) (.lenS (.t 35)), .op (some 37) (.bin .gtr (.t 36) (.k (.int .i64 1048576)))] (.t 37)])
  (.keep [0, 1, 38] (.cond (.t 38)
  (.seq (.ops [.op (some 4) (.mov (.k (.bool true)))])
   (.keep [4] (.ret)))
  (.skip))))
 (.keep [0, 1] (.seq (.ops [.op (some 39) (.mov (.t 0)),
   .call (some 40) 6 [.t 39],
   .op (some 5) (.alloc [.nils 1, .nils 2, .bool false, .nils 1]),
   .op none (.store 4 (.t 5) (.t 40))])
 (.keep [1, 5] (.seq (.ops [.op (some 41) (.mov (.t 1)),
   .op (some 42) (.fadr (.t 5) 0),
   .op (some 43) (.load1 (.t 42)),
   .op (some 44) (.lenS (.t 43)),
   .call (some 45) 17 [.t 41, .k (.int .i64 0), .t 44],
   .op (some 6) (.mov (.t 45))])
 (.keep [1, 5, 6] (.seq (.ops [.op (some 47) (.loadN 4 (.t 5)),
   .op (some 48) (.mov (.t 6)),
   .call (some 49) 26 [.t 47, .t 48, .k (.str [102, 114, 101, 115, 104])],
   .op (some 46) (.mov (.t 49)),
   .op (some 50) (.ext (.t 46) 0),
   .op (some 51) (.ext (.t 46) 1),
   .op (some 7) (.alloc [.nils 1, .nils 2, .bool false, .nils 1]),
   .op none (.store 4 (.t 7) (.t 50)),
   .op (some 8) (.mov (.t 51))])
 (.keep [1, 5, 6, 7, 8] (.seq (.ops [.op (some 53) (.loadN 4 (.t 5)),
   .op (some 54) (.mov (.t 6)),
   .call (some 55) 27 [.t 53, .t 54, .k (.str [102, 114, 101, 115, 104])],
   .op (some 52) (.mov (.t 55)),
   .op (some 56) (.ext (.t 52) 0),
   .op (some 57) (.ext (.t 52) 1),
   .op (some 9) (.alloc [.nils 1, .nils 2, .bool false, .nils 1]),
   .op none (.store 4 (.t 9) (.t 56)),
   .op (some 10) (.mov (.t 57))])
 (.keep [1, 5, 6, 7, 8, 9] (.seq (.ops [.op (some 59) (.loadN 4 (.t 7)),
   .op (some 60) (.mov (.t 6)),
   .call (some 61) 28 [.t 59, .t 60],
   .op (some 58) (.mov (.t 61)),
   .op (some 62) (.ext (.t 58) 0),
   .op (some 63) (.ext (.t 58) 1),
   .op (some 11) (.mov (.t 62)),
   .op (some 12) (.mov (.t 63))])
 (.keep [1, 5, 7, 8, 9, 11, 12] (.seq (.ops [.op (some 65) (.loadN 4 (.t 7)),
   .call (some 66) 9 [.t 65],
   .op (some 64) (.mov (.t 66)),
   .op (some 67) (.ext (.t 64) 0),
   .op (some 68) (.ext (.t 64) 1),
   .op (some 69) (.ext (.t 64) 2),
   .op (some 13) (.alloc [.nils 1, .nils 2, .bool false, .nils 1]),
   .op none (.store 4 (.t 13) (.t 67)),
   .op (some 14) (.mov (.t 68)),
   .op (some 15) (.mov (.t 69))])
 (.keep [1, 5, 7, 8, 9, 11, 12, 13, 14, 15] (.seq (.drawE [[], [], [1], [0, 1, 2], [0, 1, 2, 3], [0, 1, 2, 3, 4], [0, 1, 2, 3, 4], [], [0, 1, 2, 3, 4, 5, 7], [0, 1, 2, 3, 4, 5, 6, 7, 8]] [.op (some 71) (.loadN 4 (.t 7)),
   .op (some 72) (.mov (.t 1)),
   .call (some 73) 7 [.t 72],
   .call (some 74) 10 [.t 71, .t 73],
   .op (some 70) (.mov (.t 74)),
   .op (some 75) (.ext (.t 70) 0),
   .op (some 76) (.ext (.t 70) 1),
   .op (some 16) (.alloc [.nils 1, .nils 2, .bool false, .nils 1]),
   .op none (.store 4 (.t 16) (.t 75))]
  [.op (some 17) (.mov (.t 76))])
 (.keep [1, 5, 7, 8, 9, 11, 12, 13, 14, 15, 16, 17] (.seq (.drawE [[], [], [1], [0, 1, 2], [0, 1, 2, 3], [0, 1, 2, 3, 4], [0, 1, 2, 3, 4], [], [0, 1, 2, 3, 4, 5, 7], [0, 1, 2, 3, 4, 5, 6, 7, 8]] [.op (some 78) (.loadN 4 (.t 7)),
   .op (some 79) (.mov (.t 1)),
   .call (some 80) 7 [.t 79],
   .call (some 81) 29 [.t 78, .t 80],
   .op (some 77) (.mov (.t 81)),
   .op (some 82) (.ext (.t 77) 0),
   .op (some 83) (.ext (.t 77) 1),
   .op (some 18) (.alloc [.nils 1, .nils 2, .bool false, .nils 1]),
   .op none (.store 4 (.t 18) (.t 82))]
  [.op (some 19) (.mov (.t 83))])
 (.keep [5, 7, 8, 9, 11, 12, 13, 14, 15, 16, 17, 18] (.seq (.ops [.op (some 85) (.loadN 4 (.t 7)),
   .call (some 86) 30 [.t 85],
   .op (some 84) (.mov (.t 86)),
   .op (some 87) (.ext (.t 84) 0),
   .op (some 88) (.ext (.t 84) 1),
   .op (some 20) (.mov (.t 87)),
   .op (some 21) (.mov (.t 88))])
 (.keep [5, 7, 8, 9, 11, 12, 13, 14, 15, 16, 17, 18, 20, 21] (.seq (.seq (.ops [.op (some 89) (.mov (.t 8)),
   .op (some 90) (.bin .neq (.t 89) (.k (.int .i64 0))),
   .op (some 91) (.mov (.t 90)),
   .andor 96 false 2 91 [.op (some 92) (.loadN 4 (.t 7)), .op (some 93) (.loadN 4 (.t 9)), .call (some 94) 12 [.t 92, .t 93], .op (some 95) (.not (.t 94))] (.t 95),
   .op (some 97) (.mov (.t 96)),
   .andor 100 false 8 97 [.op (some 98) (.mov (.t 12)), .op (some 99) (.bin .neq (.t 98) (.k (.int .i64 0)))] (.t 99),
   .op (some 101) (.mov (.t 100)),
   .andor 104 false 12 101 [.op (some 102) (.mov (.t 11)), .op (some 103) (.bin .neq (.t 102) (.k (.str [102, 114, 101, 115, 104])))] (.t 103),
   .op (some 105) (.mov (.t 104)),
   .andor 108 false 16 105 [.op (some 106) (.mov (.t 15)), .op (some 107) (.bin .neq (.t 106) (.k (.int .i64 0)))] (.t 107),
   .op (some 109) (.mov (.t 108)),
   .andor 114 false 20 109 [.op (some 110) (.mov (.t 14)), .op (some 111) (.fadr (.t 5) 2), .op (some 112) (.load1 (.t 111)), .op (some 113) (.eqb false (.t 110) (.t 112))] (.t 113),
   .op (some 115) (.mov (.t 114)),
   .andor 118 false 26 115 [.op (some 116) (.mov (.t 17)), .op (some 117) (.bin .neq (.t 116) (.k (.int .i64 0)))] (.t 117),
   .op (some 119) (.mov (.t 118)),
   .andor 124 false 30 119 [.op (some 120) (.loadN 4 (.t 16)), .op (some 121) (.loadN 4 (.t 18)), .call (some 122) 12 [.t 120, .t 121], .op (some 123) (.not (.t 122))] (.t 123),
   .op (some 125) (.mov (.t 124)),
   .andor 128 false 36 125 [.op (some 126) (.mov (.t 21)), .op (some 127) (.bin .neq (.t 126) (.k (.int .i64 0)))] (.t 127),
   .op (some 129) (.mov (.t 128)),
   .andor 133 false 40 129 [.op (some 130) (.mov (.t 20)), .op (some 131) (.lenS (.t 130)), .op (some 132) (.bin .eql (.t 131) (.k (.int .i64 0)))] (.t 132)])
  (.keep [5, 7, 13, 14, 16, 133] (.cond (.t 133)
  (.seq (.ops [.op (some 4) (.mov (.k (.bool false)))])
   (.keep [4] (.ret)))
  (.skip))))
 (.keep [5, 7, 13, 14, 16] (.seq (.seq (.ops [.op (some 22) (.mov (.k (.int .i64 0)))])
  (.keep [5, 7, 13, 14, 16, 22] (.block 0 (.loop (.seq (.seq (.ops [.op (some 134) (.mov (.t 22)),
     .op (some 135) (.fadr (.t 5) 0),
     .op (some 136) (.load1 (.t 135)),
     .op (some 137) (.lenS (.t 136)),
     .op (some 138) (.bin .lss (.t 134) (.t 137))])
   (.keep [5, 7, 13, 14, 16, 22, 138] (.cond (.t 138)
    (.skip)
    (.exit 0))))
   (.keep [5, 7, 13, 14, 16, 22] (.seq (.block 1 (.seq (.ops [.op (some 142) (.loadN 4 (.t 7)),
     .op (some 143) (.mov (.t 22)),
     .call (some 144) 28 [.t 142, .t 143],
     .op (some 141) (.mov (.t 144)),
     .op (some 145) (.ext (.t 141) 0),
     .op (some 146) (.ext (.t 141) 1),
     .op (some 23) (.mov (.t 145)),
     .op (some 24) (.mov (.t 146))])
    (.keep [5, 7, 13, 14, 16, 22, 23, 24] (.seq (.ops [.op (some 148) (.loadN 4 (.t 13)),
     .op (some 149) (.mov (.t 22)),
     .call (some 150) 28 [.t 148, .t 149],
     .op (some 147) (.mov (.t 150)),
     .op (some 151) (.ext (.t 147) 0),
     .op (some 152) (.ext (.t 147) 1),
     .op (some 25) (.mov (.t 151)),
     .op (some 26) (.mov (.t 152))])
    (.keep [5, 7, 13, 14, 16, 22, 23, 24, 25, 26] (.seq (.ops [.op (some 154) (.loadN 4 (.t 16)),
     .op (some 155) (.mov (.t 22)),
     .call (some 156) 28 [.t 154, .t 155],
     .op (some 153) (.mov (.t 156)),
     .op (some 157) (.ext (.t 153) 0),
     .op (some 158) (.ext (.t 153) 1),
     .op (some 27) (.mov (.t 157)),
     .op (some 28) (.mov (.t 158))])
    (.keep [5, 7, 13, 14, 16, 22, 23, 24, 25, 26, 27, 28] (.seq (.seq (.ops [.op (some 159) (.mov (.t 24)),
      .op (some 160) (.bin .neq (.t 159) (.k (.int .i64 0))),
      .op (some 161) (.mov (.t 160)),
      .andor 164 false 2 161 [.op (some 162) (.mov (.t 26)), .op (some 163) (.bin .neq (.t 162) (.k (.int .i64 0)))] (.t 163),
      .op (some 165) (.mov (.t 164)),
      .andor 168 false 6 165 [.op (some 166) (.mov (.t 28)), .op (some 167) (.bin .neq (.t 166) (.k (.int .i64 0)))] (.t 167),
      .op (some 169) (.mov (.t 168)),
      .andor 176 false 10 169 [.op (some 170) (.mov (.t 14)), .op (some 171) (.mov (.t 170)), .andor 175 true 12 171 [.op (some 172) (.mov (.t 23)), .op (some 173) (.mov (.t 25)), .op (some 174) (.bin .neq (.t 172) (.t 173))] (.t 174)] (.t 175)])
    (.keep [5, 7, 13, 14, 16, 22, 27, 176] (.cond (.t 176)
     (.seq (.ops [.op (some 4) (.mov (.k (.bool false)))])
     (.keep [4] (.ret)))
     (.skip))))
    (.keep [5, 7, 13, 14, 16, 22, 27] (.seq (.ops [.op (some 177) (.mov (.t 27)),
     .op (some 178) (.fadr (.t 5) 0),
     .op (some 179) (.load1 (.t 178)),
     .op (some 180) (.mov (.t 22)),
     .op (some 181) (.iadr 1 (.t 179) (.t 180)),
     .op (some 182) (.load1 (.t 181)),
     .op (some 183) (.bin .eql (.t 177) (.t 182)),
     .op (some 29) (.mov (.t 183))])
    (.keep [5, 7, 13, 14, 16, 22, 27, 29] (.seq (.seq (.ops [.op (some 30) (.mov (.k (.int .i64 0)))])
    (.keep [5, 7, 13, 14, 16, 22, 27, 29, 30] (.block 2 (.loop (.seq (.seq (.ops [.op (some 184) (.mov (.t 30)),
       .op (some 185) (.fadr (.t 7) 1),
       .op (some 186) (.load1 (.t 185)),
       .op (some 187) (.lenS (.t 186)),
       .op (some 188) (.bin .lss (.t 184) (.t 187))])
      (.keep [5, 7, 13, 14, 16, 22, 27, 29, 30, 188] (.cond (.t 188)
      (.skip)
      (.exit 2))))
     (.keep [5, 7, 13, 14, 16, 22, 27, 29, 30] (.seq (.block 3 (.ops [.op (some 191) (.mov (.t 29)),
       .op (some 192) (.mov (.t 191)),
       .andor 211 false 1 192 [.op (some 193) (.fadr (.t 7) 1), .op (some 194) (.load1 (.t 193)), .op (some 195) (.mov (.t 30)), .op (some 196) (.iadr 2 (.t 194) (.t 195)), .op (some 197) (.fadr (.t 196) 0), .op (some 198) (.load1 (.t 197)), .op (some 199) (.mov (.t 22)), .op (some 200) (.bin .eql (.t 198) (.t 199)), .op (some 201) (.mov (.t 200)), .andor 210 true 10 201 [.op (some 202) (.fadr (.t 7) 1), .op (some 203) (.load1 (.t 202)), .op (some 204) (.mov (.t 30)), .op (some 205) (.iadr 2 (.t 203) (.t 204)), .op (some 206) (.fadr (.t 205) 1), .op (some 207) (.load1 (.t 206)), .op (some 208) (.mov (.t 27)), .op (some 209) (.bin .eql (.t 207) (.t 208))] (.t 209)] (.t 210),
       .op (some 29) (.mov (.t 211))]))
     (.keep [5, 7, 13, 14, 16, 22, 27, 29, 30] (.ops [.op (some 189) (.mov (.t 30)),
      .op (some 190) (.bin .add (.t 189) (.k (.int .i64 1))),
      .op (some 30) (.mov (.t 190))])))))))))
    (.keep [5, 7, 13, 14, 16, 22, 29] (.seq (.ops [.op (some 212) (.mov (.t 29)),
     .op (some 213) (.not (.t 212))])
    (.keep [5, 7, 13, 14, 16, 22, 213] (.cond (.t 213)
    (.seq (.ops [.op (some 4) (.mov (.k (.bool false)))])
     (.keep [4] (.ret)))
    (.skip)))))))))))))))))
   (.keep [5, 7, 13, 14, 16, 22] (.ops [.op (some 139) (.mov (.t 22)),
    .op (some 140) (.bin .add (.t 139) (.k (.int .i64 1))),
    .op (some 22) (.mov (.t 140))])))))))))
 (.keep [7, 13, 16] (.seq (.ops [.op (some 214) (.loadN 4 (.t 7)),
   .call (some 215) 31 [.t 214],
   .op (some 216) (.mov (.t 215)),
   .andor 219 true 2 216 [.op (some 217) (.loadN 4 (.t 13)), .call (some 218) 31 [.t 217]] (.t 218),
   .op (some 220) (.mov (.t 219)),
   .andor 223 true 6 220 [.op (some 221) (.loadN 4 (.t 16)), .call (some 222) 31 [.t 221]] (.t 222),
   .op (some 224) (.mov (.t 223)),
   .andor 229 true 10 224 [.op (some 225) (.fadr (.t 16) 1), .op (some 226) (.load1 (.t 225)), .op (some 227) (.lenS (.t 226)), .op (some 228) (.bin .eql (.t 227) (.k (.int .i64 0)))] (.t 228),
   .op (some 230) (.mov (.t 229)),
   .andor 235 true 16 230 [.op (some 231) (.fadr (.t 13) 1), .op (some 232) (.load1 (.t 231)), .op (some 233) (.lenS (.t 232)), .op (some 234) (.bin .eql (.t 233) (.k (.int .i64 0)))] (.t 234),
   .op (some 4) (.mov (.t 235))])
 (.keep [4] (.ret))))))))))))))))))))))))))))
theorem k_c_FnDisk_fits : fitsF Try.prog 5 ⟨236, k_c_FnDisk, [.t 4]⟩ = true := by kernel_rfl
set_option maxHeartbeats 4000000 in
theorem c_FnDisk {code more : Str} (w0 : wfL (fun _ => True) code) (w1 : wfL (fun _ => True) more) : Con Try.prog noMv 5 [.d (.sl 1 (code.map byteRow)), .d (.sl 1 (more.map byteRow))] [] (fun r h => r = bool true ∧ h = []) := by
 refine con_of2 k_c_FnDisk_fits rfl fun C hP hmv => ?_
 unfold k_c_FnDisk
 refine cx_seq ?_
 refine cx_ops ?_
 refine ax_q (q_mov rfl) ?_
 refine ax_nil ?_
 refine cx_keep rfl rfl ?_
 refine cx_seq ?_
 refine cx_seq ?_
 refine cx_ops ?_
 refine ax_q (q_mov rfl) ?_
 first | refine ax_q (q_lenS_map rfl) ?_ | refine ax_q (q_lenS_osl rfl) ?_ | refine ax_q (q_lenS_zs rfl) ?_ | refine ax_q (q_lenS rfl) ?_
 refine ax_q (q_ibin rfl rfl rfl) ?_
 refine ax_q (q_mov rfl) ?_
 apply ax_or rfl rfl
 ·
  intro g
  have g := dF g
  refine ax_q (q_mov rfl) ?_
  first | refine ax_q (q_lenS_map rfl) ?_ | refine ax_q (q_lenS_osl rfl) ?_ | refine ax_q (q_lenS_zs rfl) ?_ | refine ax_q (q_lenS rfl) ?_
  refine ax_q (q_ibin rfl rfl rfl) ?_
  exact ax_nil ⟨rfl, by repeat (first | exact trivial | refine ⟨rfl, ?_⟩ | refine ⟨?_, ?_⟩)⟩
 refine ax_nil ?_
 refine cx_keep rfl rfl ?_
 refine cx_cond rfl (fun h0 => ?_) (fun h0 => ?_)
 ·
  have h0 := (fun h => (or_T h).imp dT dT) h0
  refine cx_seq ?_
  refine cx_ops ?_
  refine ax_q (q_mov rfl) ?_
  refine ax_nil ?_
  refine cx_keep rfl rfl ?_
  refine cx_ret (ret0 rfl rfl ?_)
  exact ⟨rfl, rfl⟩
 ·
  have h0 := (fun h => And.intro (dF (or_F h).1) (dF (or_F h).2)) h0
  have hlc : code.length ≤ 1048576 := by omega
  have hlm : more.length ≤ 1048576 := by omega
  refine cx_skip ?_
  refine cx_keep rfl rfl ?_
  refine cx_seq ?_
  refine cx_ops ?_
  refine ax_q (q_mov rfl) ?_
  first | refine ax_call rfl (vc_pure (c_DiskOf  ?_) hP rfl ?_) | refine ax_call rfl (vc_lend (c_DiskOf  ?_) hP (by repeat (first | exact lal_id _ rfl | exact LAL.nil | refine LAL.cons ?_ ?_ | exact la_id _ rfl | exact LA.lend (lend_whole rfl (by first | (simp; done) | (rw [List.length_map]; rfl))) | refine LA.agg ?_ | refine LA.fn ?_ | refine LA.lend ?_ | exact Lend.d _ | exact Lend.zs _ | exact lend_whole rfl (by first | (simp; done) | (rw [List.length_map]; rfl)) | refine Lend.ptr rfl ?_ | refine Lend.fn ?_ | exact LendL.nil | refine LendL.cons ?_ ?_)) ?_)
  ·
   first | assumption | omega | (simp; done) | (simp; omega)
  rintro r h ⟨d, hd, rfl, rfl⟩
  refine ⟨fun i => 40 + 200 * i, [0, 1, 2], ⟨rfl, rfl, rfl, rfl, rfl, (by first | exact (fun h => absurd h Bool.false_ne_true) | exact (fun _ => ⟨rfl, (noisl_of (show noislL [_, _, _] from ⟨noisl_map (fun _ => rfl), noisl_map (fun _ => rfl), noisl_map (fun _ => rfl), trivial⟩))⟩))⟩, ?_⟩
  skip
  refine ax_wk (wk_frz 40 40 rfl rfl (.agg (.cons (.whole (List.length_map _).symm) (.cons (.same rfl) (.cons (.same rfl) (.cons (.same rfl) .nil))))) rfl) ?_
  refine ax_wk (wk_frz 40 240 rfl rfl (.agg (.cons (.same rfl) (.cons (.whole (List.length_map _).symm) (.cons (.same rfl) (.cons (.same rfl) .nil))))) rfl) ?_
  refine ax_wk (wk_frz 40 440 rfl rfl (.agg (.cons (.same rfl) (.cons (.same rfl) (.cons (.same rfl) (.cons (.whole (List.length_map _).symm) .nil))))) rfl) ?_
  have hs0 := hd.ok.s0
  have hs1 := hd.s9
  have hs2 := hd.cm
  have hs3 := hd.km
  obtain ⟨hb0, hb1⟩ := @atF_bounds more 0 (d.Sectors.length : Int) (by omega)
  obtain ⟨k, hk⟩ : ∃ k : Nat, atF more 0 (d.Sectors.length : Int) = (k : Int) := ⟨_, (Int.toNat_of_nonneg hb0).symm⟩
  rw [hk] at hb0 hb1
  have hkl : k < d.Sectors.length := by omega
  have ew := wr_fresh hd (a := (k : Int)) ⟨by omega, by omega⟩
  have hF := wf3 hd hkl
  generalize wrD d (k : Int) freshT = W at ew hF
  obtain ⟨hWo, hWs, hWc, hWa, hWk, hWl⟩ := hF
  have hWn : W.Sectors.length = d.Sectors.length := by rw [hWs]
  have hKl := keepsOf_len hlm
  refine ax_e (e_alloc (by decide) rfl rfl) ?_
  refine ax_e (e_st rfl rfl rfl rfl rfl rfl rfl) ?_
  refine ax_nil ?_
  refine cx_keep rfl rfl ?_
  refine cx_seq ?_
  refine cx_ops ?_
  refine ax_q (q_mov rfl) ?_
  refine ax_q (q_fadr_ptr rfl) ?_
  refine ax_q (q_load1_ptr rfl rfl rfl) ?_
  first | refine ax_q (q_lenS_map rfl) ?_ | refine ax_q (q_lenS_osl rfl) ?_ | refine ax_q (q_lenS_zs rfl) ?_ | refine ax_q (q_lenS rfl) ?_
  first | refine ax_call rfl (vc_pure0 (c_at  ?_ ?_ ?_) hP rfl rfl ?_) | refine ax_call rfl (vc_lend0 (c_at  ?_ ?_ ?_) hP (by repeat (first | exact lal_id _ rfl | exact LAL.nil | refine LAL.cons ?_ ?_ | exact la_id _ rfl | exact LA.lend (lend_whole rfl (by first | (simp; done) | (rw [List.length_map]; rfl))) | refine LA.agg ?_ | refine LA.fn ?_ | refine LA.lend ?_ | exact Lend.d _ | exact Lend.zs _ | exact lend_whole rfl (by first | (simp; done) | (rw [List.length_map]; rfl)) | refine Lend.ptr rfl ?_ | refine Lend.fn ?_ | exact LendL.nil | refine LendL.cons ?_ ?_)) rfl rfl ?_)
  ·
   first | assumption | omega | (simp; done) | (simp; omega)
  ·
   first | assumption | omega | (simp; done) | (simp; omega)
  ·
   first | assumption | omega | (simp; done) | (simp; omega)
  rw [hk]
  refine ax_q (q_mov rfl) ?_
  refine ax_nil ?_
  refine cx_keep rfl rfl ?_
  refine cx_seq ?_
  refine cx_ops ?_
  refine ax_q (q_ldN rfl rfl rfl) ?_
  refine ax_q (q_mov rfl) ?_
  first | refine ax_call rfl (vc_pure (c_DiskWrite (d := d) (a := (k : Int)) (x := freshT) ?_ ?_ ?_ ?_) hP rfl ?_) | refine ax_call rfl (vc_lend (c_DiskWrite (d := d) (a := (k : Int)) (x := freshT) ?_ ?_ ?_ ?_) hP (by repeat (first | exact lal_id _ rfl | exact LAL.nil | refine LAL.cons ?_ ?_ | exact la_id _ rfl | exact LA.lend (lend_whole rfl (by first | (simp; done) | (rw [List.length_map]; rfl))) | refine LA.agg ?_ | refine LA.fn ?_ | refine LA.lend ?_ | exact Lend.d _ | exact Lend.zs _ | exact lend_whole rfl (by first | (simp; done) | (rw [List.length_map]; rfl)) | refine Lend.ptr rfl ?_ | refine Lend.fn ?_ | exact LendL.nil | refine LendL.cons ?_ ?_)) ?_)
  ·
   first | assumption | omega | (simp; done) | (simp; omega)
  ·
   first | assumption | omega | (simp; done) | (simp; omega)
  ·
   first | assumption | omega | (simp; done) | (simp; omega)
  ·
   decide
  rintro r h ⟨rfl, rfl⟩
  refine ⟨fun i => 49 + 200 * i, [0, 1, 2], ⟨rfl, rfl, rfl, rfl, rfl, (by first | exact (fun h => absurd h Bool.false_ne_true) | exact (fun _ => ⟨rfl, (noisl_of (by repeat (first | exact trivial | refine ⟨noisl_map (fun _ => rfl), ?_⟩ | refine ⟨?_, ?_⟩)))⟩))⟩, ?_⟩
  skip
  rw [ew]
  dsimp only
  refine ax_wk (wk_frz 49 49 rfl rfl (.tup (.cons (.agg (.cons (.whole (List.length_map _).symm) (.cons (.same rfl) (.cons (.same rfl) (.cons (.same rfl) .nil))))) (.cons (.same rfl) .nil))) rfl) ?_
  refine ax_wk (wk_frz 49 249 rfl rfl (.tup (.cons (.agg (.cons (.same rfl) (.cons (.whole (List.length_map _).symm) (.cons (.same rfl) (.cons (.same rfl) .nil))))) (.cons (.same rfl) .nil))) rfl) ?_
  refine ax_wk (wk_frz 49 449 rfl rfl (.tup (.cons (.agg (.cons (.same rfl) (.cons (.same rfl) (.cons (.same rfl) (.cons (.whole (List.length_map _).symm) .nil))))) (.cons (.same rfl) .nil))) rfl) ?_
  refine ax_q (q_mov rfl) ?_
  refine ax_q (q_ext rfl rfl) ?_
  refine ax_q (q_ext rfl rfl) ?_
  refine ax_e (e_alloc (by decide) rfl rfl) ?_
  refine ax_e (e_st rfl rfl rfl rfl rfl rfl rfl) ?_
  refine ax_q (q_mov rfl) ?_
  refine ax_nil ?_
  refine cx_keep rfl rfl ?_
  refine cx_seq ?_
  refine cx_ops ?_
  refine ax_q (q_ldN rfl rfl rfl) ?_
  refine ax_q (q_mov rfl) ?_
  first | refine ax_call rfl (vc_pure (c_sDiskWrite (d := d) (a := (k : Int)) (x := freshT) ?_ ?_ ?_ ?_) hP rfl ?_) | refine ax_call rfl (vc_lend (c_sDiskWrite (d := d) (a := (k : Int)) (x := freshT) ?_ ?_ ?_ ?_) hP (by repeat (first | exact lal_id _ rfl | exact LAL.nil | refine LAL.cons ?_ ?_ | exact la_id _ rfl | exact LA.lend (lend_whole rfl (by first | (simp; done) | (rw [List.length_map]; rfl))) | refine LA.agg ?_ | refine LA.fn ?_ | refine LA.lend ?_ | exact Lend.d _ | exact Lend.zs _ | exact lend_whole rfl (by first | (simp; done) | (rw [List.length_map]; rfl)) | refine Lend.ptr rfl ?_ | refine Lend.fn ?_ | exact LendL.nil | refine LendL.cons ?_ ?_)) ?_)
  ·
   first | assumption | omega | (simp; done) | (simp; omega)
  ·
   first | assumption | omega | (simp; done) | (simp; omega)
  ·
   first | assumption | omega | (simp; done) | (simp; omega)
  ·
   decide
  rintro r h ⟨rfl, rfl⟩
  refine ⟨fun i => 55 + 200 * i, [0, 1, 2], ⟨rfl, rfl, rfl, rfl, rfl, (by first | exact (fun h => absurd h Bool.false_ne_true) | exact (fun _ => ⟨rfl, (noisl_of (by repeat (first | exact trivial | refine ⟨noisl_map (fun _ => rfl), ?_⟩ | refine ⟨?_, ?_⟩)))⟩))⟩, ?_⟩
  skip
  rw [ew]
  dsimp only
  refine ax_wk (wk_frz 55 55 rfl rfl (.tup (.cons (.agg (.cons (.whole (List.length_map _).symm) (.cons (.same rfl) (.cons (.same rfl) (.cons (.same rfl) .nil))))) (.cons (.same rfl) .nil))) rfl) ?_
  refine ax_wk (wk_frz 55 255 rfl rfl (.tup (.cons (.agg (.cons (.same rfl) (.cons (.whole (List.length_map _).symm) (.cons (.same rfl) (.cons (.same rfl) .nil))))) (.cons (.same rfl) .nil))) rfl) ?_
  refine ax_wk (wk_frz 55 455 rfl rfl (.tup (.cons (.agg (.cons (.same rfl) (.cons (.same rfl) (.cons (.same rfl) (.cons (.whole (List.length_map _).symm) .nil))))) (.cons (.same rfl) .nil))) rfl) ?_
  refine ax_q (q_mov rfl) ?_
  refine ax_q (q_ext rfl rfl) ?_
  refine ax_q (q_ext rfl rfl) ?_
  refine ax_e (e_alloc (by decide) rfl rfl) ?_
  refine ax_e (e_st rfl rfl rfl rfl rfl rfl rfl) ?_
  refine ax_q (q_mov rfl) ?_
  refine ax_nil ?_
  refine cx_keep rfl rfl ?_
  refine cx_seq ?_
  refine cx_ops ?_
  refine ax_q (q_ldN rfl rfl rfl) ?_
  refine ax_q (q_mov rfl) ?_
  first | refine ax_call rfl (vc_pure0 (c_DiskRead (d := W) (i := k) ?_ ?_) hP rfl rfl ?_) | refine ax_call rfl (vc_lend0 (c_DiskRead (d := W) (i := k) ?_ ?_) hP (by repeat (first | exact lal_id _ rfl | exact LAL.nil | refine LAL.cons ?_ ?_ | exact la_id _ rfl | exact LA.lend (lend_whole rfl (by first | (simp; done) | (rw [List.length_map]; rfl))) | refine LA.agg ?_ | refine LA.fn ?_ | refine LA.lend ?_ | exact Lend.d _ | exact Lend.zs _ | exact lend_whole rfl (by first | (simp; done) | (rw [List.length_map]; rfl)) | refine Lend.ptr rfl ?_ | refine Lend.fn ?_ | exact LendL.nil | refine LendL.cons ?_ ?_)) rfl rfl ?_)
  ·
   first | assumption | omega | (simp; done) | (simp; omega)
  ·
   first | assumption | omega | (simp; done) | (simp; omega)
  rw [hWl]
  refine ax_q (q_mov rfl) ?_
  refine ax_q (q_ext rfl rfl) ?_
  refine ax_q (q_ext rfl rfl) ?_
  refine ax_q (q_mov rfl) ?_
  refine ax_q (q_mov rfl) ?_
  refine ax_nil ?_
  refine cx_keep rfl rfl ?_
  refine cx_seq ?_
  refine cx_ops ?_
  refine ax_q (q_ldN rfl rfl rfl) ?_
  first | refine ax_call rfl (vc_pure (c_DiskSync (d := W) ?_ ?_ ?_) hP rfl ?_) | refine ax_call rfl (vc_lend (c_DiskSync (d := W) ?_ ?_ ?_) hP (by repeat (first | exact lal_id _ rfl | exact LAL.nil | refine LAL.cons ?_ ?_ | exact la_id _ rfl | exact LA.lend (lend_whole rfl (by first | (simp; done) | (rw [List.length_map]; rfl))) | refine LA.agg ?_ | refine LA.fn ?_ | refine LA.lend ?_ | exact Lend.d _ | exact Lend.zs _ | exact lend_whole rfl (by first | (simp; done) | (rw [List.length_map]; rfl)) | refine Lend.ptr rfl ?_ | refine Lend.fn ?_ | exact LendL.nil | refine LendL.cons ?_ ?_)) ?_)
  ·
   first | assumption | omega | (simp; done) | (simp; omega)
  ·
   first | assumption | omega | (simp; done) | (simp; omega)
  ·
   first | assumption | omega | (simp; done) | (simp; omega)
  rintro r h ⟨rfl, rfl⟩
  refine ⟨fun i => 66 + 200 * i, [0, 1, 2], ⟨rfl, rfl, rfl, rfl, rfl, (by first | exact (fun h => absurd h Bool.false_ne_true) | exact (fun _ => ⟨rfl, (noisl_of (by repeat (first | exact trivial | refine ⟨noisl_map (fun _ => rfl), ?_⟩ | refine ⟨?_, ?_⟩)))⟩))⟩, ?_⟩
  skip
  rw [syncF_ok hWo]
  dsimp only
  refine ax_wk (wk_frz 66 66 rfl rfl (.tup (.cons (.agg (.cons (.whole (List.length_map _).symm) (.cons (.same rfl) (.cons (.same rfl) (.cons (.same rfl) .nil))))) (.cons (.same rfl) (.cons (.same rfl) .nil)))) rfl) ?_
  refine ax_wk (wk_frz 66 266 rfl rfl (.tup (.cons (.agg (.cons (.same rfl) (.cons (.whole (List.length_map _).symm) (.cons (.same rfl) (.cons (.same rfl) .nil))))) (.cons (.same rfl) (.cons (.same rfl) .nil)))) rfl) ?_
  refine ax_wk (wk_frz 66 466 rfl rfl (.tup (.cons (.agg (.cons (.same rfl) (.cons (.same rfl) (.cons (.same rfl) (.cons (.whole (List.length_map _).symm) .nil))))) (.cons (.same rfl) (.cons (.same rfl) .nil)))) rfl) ?_
  have hSo := syncD_ok hWo
  obtain ⟨hSn, hSc, hSk⟩ := @sync_f W
  have hSf := @sync_flag W
  have hSl : ∀ i, i < W.Sectors.length → (syncD W).2 = true → (syncD W).1.Sectors.getD i [] = lastW W.Cache i (W.Sectors.getD i []) := fun i hi ha => sync_last hWo hi ha
  generalize (syncD W).1 = S at hSo hSn hSc hSk hSl ⊢
  generalize (syncD W).2 = AL at hSf hSl ⊢
  refine ax_q (q_mov rfl) ?_
  refine ax_q (q_ext rfl rfl) ?_
  refine ax_q (q_ext rfl rfl) ?_
  refine ax_q (q_ext rfl rfl) ?_
  refine ax_e (e_alloc (by decide) rfl rfl) ?_
  refine ax_e (e_st rfl rfl rfl rfl rfl rfl rfl) ?_
  refine ax_q (q_mov rfl) ?_
  refine ax_q (q_mov rfl) ?_
  refine ax_nil ?_
  refine cx_keep rfl rfl ?_
  refine cx_seq ?_
  refine cx_drawL 8 5000 (fun _ => false) (fun _ => true) [] ([(16, .box [.d (.sl 1 ((crashD W (keepsF (srcOf more)).1).Sectors.map strRow)), .d (.sl 2 ((crashD W (keepsF (srcOf more)).1).Cache.map GPending.row)), .d (.bool (crashD W (keepsF (srcOf more)).1).Armed), .d (.sl 1 ((crashD W (keepsF (srcOf more)).1).Keep.map intRow))])]) [[7], [1], [72], [71, 73], [74], [70], [70], [], [16, 75]] [[], [], [], [], [], [], [16], [], [16]] rfl ?_
  first | refine ⟨_, .inr ⟨rfl, _, rfl, .inl rfl, loc_q (q_ldN rfl rfl rfl)⟩, ?_⟩
  first | refine ⟨_, .inr ⟨rfl, _, rfl, .inl rfl, loc_q (q_mov rfl)⟩, ?_⟩
  first | refine ⟨_, .inr ⟨rfl, _, rfl, .inl rfl, loc_call (fun i => 73 + 200 * i) false rfl (c_KeepsOfF (code := more) (by first | assumption | omega | (simp; done) | (simp; omega))) hP (.inr ⟨rfl, rfl, rfl⟩) rfl rfl (fun h => by cases h)⟩, ?_⟩ | refine ⟨_, .inr ⟨rfl, _, rfl, .inl rfl, loc_call (fun i => 73 + 200 * i) true rfl (c_KeepsOfF (code := more) (by first | assumption | omega | (simp; done) | (simp; omega))) hP (.inl ⟨rfl, (by repeat (first | exact lal_id _ rfl | exact LAL.nil | refine LAL.cons ?_ ?_ | exact la_id _ rfl | exact LA.lend (lend_whole rfl (by first | (simp; done) | (rw [List.length_map]; rfl))) | refine LA.agg ?_ | refine LA.fn ?_ | refine LA.lend ?_ | exact Lend.d _ | exact Lend.zs _ | exact lend_whole rfl (by first | (simp; done) | (rw [List.length_map]; rfl)) | refine Lend.ptr rfl ?_ | refine Lend.fn ?_ | exact LendL.nil | refine LendL.cons ?_ ?_))⟩) rfl rfl (fun _ => ⟨rfl, noisl_of (by repeat (first | exact trivial | refine ⟨noisl_map (fun _ => rfl), ?_⟩ | refine ⟨?_, ?_⟩))⟩)⟩, ?_⟩
  first | refine ⟨_, .inr ⟨rfl, _, rfl, .inl rfl, loc_call (fun i => 74 + 200 * i) false rfl (c_DiskCrashD (d := W) (keep := (keepsF (srcOf more)).1) (by first | assumption | omega | (simp; done) | (simp; omega)) (by first | assumption | omega | (simp; done) | (simp; omega)) (by first | assumption | omega | (simp; done) | (simp; omega)) (by first | assumption | omega | (simp; done) | (simp; omega)) (by first | assumption | omega | (simp; done) | (simp; omega)) (by first | assumption | omega | (simp; done) | (simp; omega))) hP (.inr ⟨rfl, rfl, rfl⟩) rfl rfl (fun h => by cases h)⟩, ?_⟩ | refine ⟨_, .inr ⟨rfl, _, rfl, .inl rfl, loc_call (fun i => 74 + 200 * i) true rfl (c_DiskCrashD (d := W) (keep := (keepsF (srcOf more)).1) (by first | assumption | omega | (simp; done) | (simp; omega)) (by first | assumption | omega | (simp; done) | (simp; omega)) (by first | assumption | omega | (simp; done) | (simp; omega)) (by first | assumption | omega | (simp; done) | (simp; omega)) (by first | assumption | omega | (simp; done) | (simp; omega)) (by first | assumption | omega | (simp; done) | (simp; omega))) hP (.inl ⟨rfl, (by repeat (first | exact lal_id _ rfl | exact LAL.nil | refine LAL.cons ?_ ?_ | exact la_id _ rfl | exact LA.lend (lend_whole rfl (by first | (simp; done) | (rw [List.length_map]; rfl))) | refine LA.agg ?_ | refine LA.fn ?_ | refine LA.lend ?_ | exact Lend.d _ | exact Lend.zs _ | exact lend_whole rfl (by first | (simp; done) | (rw [List.length_map]; rfl)) | refine Lend.ptr rfl ?_ | refine Lend.fn ?_ | exact LendL.nil | refine LendL.cons ?_ ?_))⟩) rfl rfl (fun _ => ⟨rfl, noisl_of (by repeat (first | exact trivial | refine ⟨noisl_map (fun _ => rfl), ?_⟩ | refine ⟨?_, ?_⟩))⟩)⟩, ?_⟩
  first | refine ⟨_, .inr ⟨rfl, _, rfl, .inl rfl, loc_q (q_mov rfl)⟩, ?_⟩
  first | refine ⟨_, .inr ⟨rfl, _, rfl, .inl rfl, loc_q (q_ext rfl rfl)⟩, ?_⟩
  first | refine ⟨_, .inr ⟨rfl, _, rfl, .inr ⟨rfl, rfl, .inr rfl, rfl, rfl⟩, loc_q (q_ext rfl rfl)⟩, ?_⟩
  first | refine ⟨_, .inr ⟨rfl, _, rfl, .inl rfl, loc_alloc⟩, ?_⟩
  refine ⟨⟨5000, .dead, []⟩, .inl ⟨rfl, rfl, rfl, locl_st rfl rfl rfl rfl rfl rfl rfl⟩, ?_⟩
  refine ⟨rfl, ?_⟩
  refine ax_q (q_mov rfl) ?_
  refine ax_nil ?_
  refine cx_keep rfl rfl ?_
  refine cx_seq ?_
  refine cx_drawL 8 5000 (fun _ => false) (fun _ => true) [] ([(18, .box [.d (.sl 1 ((crashD W (keepsF (srcOf more)).1).Sectors.map strRow)), .d (.sl 2 ((crashD W (keepsF (srcOf more)).1).Cache.map GPending.row)), .d (.bool (crashD W (keepsF (srcOf more)).1).Armed), .d (.sl 1 ((crashD W (keepsF (srcOf more)).1).Keep.map intRow))])]) [[7], [1], [79], [78, 80], [81], [77], [77], [], [18, 82]] [[], [], [], [], [], [], [18], [], [18]] rfl ?_
  first | refine ⟨_, .inr ⟨rfl, _, rfl, .inl rfl, loc_q (q_ldN rfl rfl rfl)⟩, ?_⟩
  first | refine ⟨_, .inr ⟨rfl, _, rfl, .inl rfl, loc_q (q_mov rfl)⟩, ?_⟩
  first | refine ⟨_, .inr ⟨rfl, _, rfl, .inl rfl, loc_call (fun i => 80 + 200 * i) false rfl (c_KeepsOfF (code := more) (by first | assumption | omega | (simp; done) | (simp; omega))) hP (.inr ⟨rfl, rfl, rfl⟩) rfl rfl (fun h => by cases h)⟩, ?_⟩ | refine ⟨_, .inr ⟨rfl, _, rfl, .inl rfl, loc_call (fun i => 80 + 200 * i) true rfl (c_KeepsOfF (code := more) (by first | assumption | omega | (simp; done) | (simp; omega))) hP (.inl ⟨rfl, (by repeat (first | exact lal_id _ rfl | exact LAL.nil | refine LAL.cons ?_ ?_ | exact la_id _ rfl | exact LA.lend (lend_whole rfl (by first | (simp; done) | (rw [List.length_map]; rfl))) | refine LA.agg ?_ | refine LA.fn ?_ | refine LA.lend ?_ | exact Lend.d _ | exact Lend.zs _ | exact lend_whole rfl (by first | (simp; done) | (rw [List.length_map]; rfl)) | refine Lend.ptr rfl ?_ | refine Lend.fn ?_ | exact LendL.nil | refine LendL.cons ?_ ?_))⟩) rfl rfl (fun _ => ⟨rfl, noisl_of (by repeat (first | exact trivial | refine ⟨noisl_map (fun _ => rfl), ?_⟩ | refine ⟨?_, ?_⟩))⟩)⟩, ?_⟩
  first | refine ⟨_, .inr ⟨rfl, _, rfl, .inl rfl, loc_call (fun i => 81 + 200 * i) false rfl (c_sDiskCrashD (d := W) (keep := (keepsF (srcOf more)).1) (by first | assumption | omega | (simp; done) | (simp; omega)) (by first | assumption | omega | (simp; done) | (simp; omega)) (by first | assumption | omega | (simp; done) | (simp; omega)) (by first | assumption | omega | (simp; done) | (simp; omega)) (by first | assumption | omega | (simp; done) | (simp; omega)) (by first | assumption | omega | (simp; done) | (simp; omega))) hP (.inr ⟨rfl, rfl, rfl⟩) rfl rfl (fun h => by cases h)⟩, ?_⟩ | refine ⟨_, .inr ⟨rfl, _, rfl, .inl rfl, loc_call (fun i => 81 + 200 * i) true rfl (c_sDiskCrashD (d := W) (keep := (keepsF (srcOf more)).1) (by first | assumption | omega | (simp; done) | (simp; omega)) (by first | assumption | omega | (simp; done) | (simp; omega)) (by first | assumption | omega | (simp; done) | (simp; omega)) (by first | assumption | omega | (simp; done) | (simp; omega)) (by first | assumption | omega | (simp; done) | (simp; omega)) (by first | assumption | omega | (simp; done) | (simp; omega))) hP (.inl ⟨rfl, (by repeat (first | exact lal_id _ rfl | exact LAL.nil | refine LAL.cons ?_ ?_ | exact la_id _ rfl | exact LA.lend (lend_whole rfl (by first | (simp; done) | (rw [List.length_map]; rfl))) | refine LA.agg ?_ | refine LA.fn ?_ | refine LA.lend ?_ | exact Lend.d _ | exact Lend.zs _ | exact lend_whole rfl (by first | (simp; done) | (rw [List.length_map]; rfl)) | refine Lend.ptr rfl ?_ | refine Lend.fn ?_ | exact LendL.nil | refine LendL.cons ?_ ?_))⟩) rfl rfl (fun _ => ⟨rfl, noisl_of (by repeat (first | exact trivial | refine ⟨noisl_map (fun _ => rfl), ?_⟩ | refine ⟨?_, ?_⟩))⟩)⟩, ?_⟩
  first | refine ⟨_, .inr ⟨rfl, _, rfl, .inl rfl, loc_q (q_mov rfl)⟩, ?_⟩
  first | refine ⟨_, .inr ⟨rfl, _, rfl, .inl rfl, loc_q (q_ext rfl rfl)⟩, ?_⟩
  first | refine ⟨_, .inr ⟨rfl, _, rfl, .inr ⟨rfl, rfl, .inr rfl, rfl, rfl⟩, loc_q (q_ext rfl rfl)⟩, ?_⟩
  first | refine ⟨_, .inr ⟨rfl, _, rfl, .inl rfl, loc_alloc⟩, ?_⟩
  refine ⟨⟨5000, .dead, []⟩, .inl ⟨rfl, rfl, rfl, locl_st rfl rfl rfl rfl rfl rfl rfl⟩, ?_⟩
  refine ⟨rfl, ?_⟩
  refine ax_q (q_mov rfl) ?_
  refine ax_nil ?_
  refine cx_keep rfl rfl ?_
  refine cx_seq ?_
  refine cx_ops ?_
  refine ax_q (q_ldN rfl rfl rfl) ?_
  have hXo := crashD_ok (keep := (keepsF (srcOf more)).1) hWo
  obtain ⟨hXn, hXc, hXk⟩ := @crash_f W (keepsF (srcOf more)).1
  have hXw : ∀ i, i < W.Sectors.length → wroteK W.Cache (i : Int) ((crashD W (keepsF (srcOf more)).1).Sectors.getD i []) (W.Sectors.getD i []) W.Cache.length = true := fun i hi => crash_wrote hWo hi
  generalize (crashD W (keepsF (srcOf more)).1) = X at hXo hXn hXc hXk hXw ⊢
  have hSc0 : S.Cache.length = 0 := by rw [hSc]; rfl
  have hXc0 : X.Cache.length = 0 := by rw [hXc]; rfl
  have hXk0 : X.Keep.length = 0 := by rw [hXk]; rfl
  refine ax_call rfl (vc_pure (c_DiskPending (d := W) hWo ⟨by omega, by omega⟩) hP rfl ?_)
  rintro r h ⟨PL, hP0, hP1, rfl, rfl⟩
  refine ⟨id, [], ⟨rfl, rfl, rfl, rfl, rfl, fun h => absurd h Bool.false_ne_true⟩, ?_⟩
  refine ax_q (q_mov rfl) ?_
  refine ax_q (q_ext rfl rfl) ?_
  refine ax_q (q_ext rfl rfl) ?_
  refine ax_q (q_mov rfl) ?_
  refine ax_q (q_mov rfl) ?_
  refine ax_nil ?_
  refine cx_keep rfl rfl ?_
  refine cx_seq ?_
  refine cx_seq ?_
  refine cx_ops ?_
  refine ax_q (q_mov rfl) ?_
  refine ax_q (q_ibin rfl rfl rfl) ?_
  refine ax_q (q_mov rfl) ?_
  apply ax_or rfl rfl
  ·
   intro g
   have g := nF g
   refine ax_q (q_ldN rfl rfl rfl) ?_
   refine ax_q (q_ldN rfl rfl rfl) ?_
   first | refine ax_call rfl (vc_pure0 (c_sameDisk (x := W) (y := W) ?_ ?_ ?_ ?_ ?_ ?_) hP rfl rfl ?_) | refine ax_call rfl (vc_lend0 (c_sameDisk (x := W) (y := W) ?_ ?_ ?_ ?_ ?_ ?_) hP (by repeat (first | exact lal_id _ rfl | exact LAL.nil | refine LAL.cons ?_ ?_ | exact la_id _ rfl | exact LA.lend (lend_whole rfl (by first | (simp; done) | (rw [List.length_map]; rfl))) | refine LA.agg ?_ | refine LA.fn ?_ | refine LA.lend ?_ | exact Lend.d _ | exact Lend.zs _ | exact lend_whole rfl (by first | (simp; done) | (rw [List.length_map]; rfl)) | refine Lend.ptr rfl ?_ | refine Lend.fn ?_ | exact LendL.nil | refine LendL.cons ?_ ?_)) rfl rfl ?_)
   ·
    omega
   ·
    omega
   ·
    omega
   ·
    omega
   ·
    omega
   ·
    omega
   refine ax_q (q_not rfl) ?_
   exact ax_nil ⟨rfl, by repeat (first | exact trivial | refine ⟨rfl, ?_⟩ | refine ⟨?_, ?_⟩)⟩
  refine ax_q (q_mov rfl) ?_
  apply ax_or rfl rfl
  ·
   intro g
   have g := (fun h => And.intro (nF (or_F h).1) (bF (or_F h).2)) g
   refine ax_q (q_mov rfl) ?_
   refine ax_q (q_ibin rfl rfl rfl) ?_
   exact ax_nil ⟨rfl, by repeat (first | exact trivial | refine ⟨rfl, ?_⟩ | refine ⟨?_, ?_⟩)⟩
  refine ax_q (q_mov rfl) ?_
  apply ax_or rfl rfl
  ·
   intro g
   have g := (fun h => And.intro ((fun h => And.intro (nF (or_F h).1) (bF (or_F h).2)) (or_F h).1) (nF (or_F h).2)) g
   refine ax_q (q_mov rfl) ?_
   refine ax_q (q_sbin rfl rfl rfl) ?_
   exact ax_nil ⟨rfl, by repeat (first | exact trivial | refine ⟨rfl, ?_⟩ | refine ⟨?_, ?_⟩)⟩
  refine ax_q (q_mov rfl) ?_
  apply ax_or rfl rfl
  ·
   intro g
   have g := (fun h => And.intro ((fun h => And.intro ((fun h => And.intro (nF (or_F h).1) (bF (or_F h).2)) (or_F h).1) (nF (or_F h).2)) (or_F h).1) (nF (or_F h).2)) g
   refine ax_q (q_mov rfl) ?_
   refine ax_q (q_ibin rfl rfl rfl) ?_
   exact ax_nil ⟨rfl, by repeat (first | exact trivial | refine ⟨rfl, ?_⟩ | refine ⟨?_, ?_⟩)⟩
  refine ax_q (q_mov rfl) ?_
  apply ax_or rfl rfl
  ·
   intro g
   have g := (fun h => And.intro ((fun h => And.intro ((fun h => And.intro ((fun h => And.intro (nF (or_F h).1) (bF (or_F h).2)) (or_F h).1) (nF (or_F h).2)) (or_F h).1) (nF (or_F h).2)) (or_F h).1) (nF (or_F h).2)) g
   refine ax_q (q_mov rfl) ?_
   refine ax_q (q_fadr_ptr rfl) ?_
   refine ax_q (q_load1_ptr rfl rfl rfl) ?_
   refine ax_q (q_eqb rfl rfl) ?_
   exact ax_nil ⟨rfl, by repeat (first | exact trivial | refine ⟨rfl, ?_⟩ | refine ⟨?_, ?_⟩)⟩
  refine ax_q (q_mov rfl) ?_
  apply ax_or rfl rfl
  ·
   intro g
   have g := (fun h => And.intro ((fun h => And.intro ((fun h => And.intro ((fun h => And.intro ((fun h => And.intro (nF (or_F h).1) (bF (or_F h).2)) (or_F h).1) (nF (or_F h).2)) (or_F h).1) (nF (or_F h).2)) (or_F h).1) (nF (or_F h).2)) (or_F h).1) (beqF (or_F h).2)) g
   refine ax_q (q_mov rfl) ?_
   refine ax_q (q_ibin rfl rfl rfl) ?_
   exact ax_nil ⟨rfl, by repeat (first | exact trivial | refine ⟨rfl, ?_⟩ | refine ⟨?_, ?_⟩)⟩
  refine ax_q (q_mov rfl) ?_
  apply ax_or rfl rfl
  ·
   intro g
   have g := (fun h => And.intro ((fun h => And.intro ((fun h => And.intro ((fun h => And.intro ((fun h => And.intro ((fun h => And.intro (nF (or_F h).1) (bF (or_F h).2)) (or_F h).1) (nF (or_F h).2)) (or_F h).1) (nF (or_F h).2)) (or_F h).1) (nF (or_F h).2)) (or_F h).1) (beqF (or_F h).2)) (or_F h).1) (nF (or_F h).2)) g
   refine ax_q (q_ldN rfl rfl rfl) ?_
   refine ax_q (q_ldN rfl rfl rfl) ?_
   first | refine ax_call rfl (vc_pure0 (c_sameDisk (x := X) (y := X) ?_ ?_ ?_ ?_ ?_ ?_) hP rfl rfl ?_) | refine ax_call rfl (vc_lend0 (c_sameDisk (x := X) (y := X) ?_ ?_ ?_ ?_ ?_ ?_) hP (by repeat (first | exact lal_id _ rfl | exact LAL.nil | refine LAL.cons ?_ ?_ | exact la_id _ rfl | exact LA.lend (lend_whole rfl (by first | (simp; done) | (rw [List.length_map]; rfl))) | refine LA.agg ?_ | refine LA.fn ?_ | refine LA.lend ?_ | exact Lend.d _ | exact Lend.zs _ | exact lend_whole rfl (by first | (simp; done) | (rw [List.length_map]; rfl)) | refine Lend.ptr rfl ?_ | refine Lend.fn ?_ | exact LendL.nil | refine LendL.cons ?_ ?_)) rfl rfl ?_)
   ·
    omega
   ·
    omega
   ·
    omega
   ·
    omega
   ·
    omega
   ·
    omega
   refine ax_q (q_not rfl) ?_
   exact ax_nil ⟨rfl, by repeat (first | exact trivial | refine ⟨rfl, ?_⟩ | refine ⟨?_, ?_⟩)⟩
  refine ax_q (q_mov rfl) ?_
  apply ax_or rfl rfl
  ·
   intro g
   have g := (fun h => And.intro ((fun h => And.intro ((fun h => And.intro ((fun h => And.intro ((fun h => And.intro ((fun h => And.intro ((fun h => And.intro (nF (or_F h).1) (bF (or_F h).2)) (or_F h).1) (nF (or_F h).2)) (or_F h).1) (nF (or_F h).2)) (or_F h).1) (nF (or_F h).2)) (or_F h).1) (beqF (or_F h).2)) (or_F h).1) (nF (or_F h).2)) (or_F h).1) (bF (or_F h).2)) g
   refine ax_q (q_mov rfl) ?_
   refine ax_q (q_ibin rfl rfl rfl) ?_
   exact ax_nil ⟨rfl, by repeat (first | exact trivial | refine ⟨rfl, ?_⟩ | refine ⟨?_, ?_⟩)⟩
  refine ax_q (q_mov rfl) ?_
  apply ax_or rfl rfl
  ·
   intro g
   have g := (fun h => And.intro ((fun h => And.intro ((fun h => And.intro ((fun h => And.intro ((fun h => And.intro ((fun h => And.intro ((fun h => And.intro ((fun h => And.intro (nF (or_F h).1) (bF (or_F h).2)) (or_F h).1) (nF (or_F h).2)) (or_F h).1) (nF (or_F h).2)) (or_F h).1) (nF (or_F h).2)) (or_F h).1) (beqF (or_F h).2)) (or_F h).1) (nF (or_F h).2)) (or_F h).1) (bF (or_F h).2)) (or_F h).1) (nF (or_F h).2)) g
   refine ax_q (q_mov rfl) ?_
   first | refine ax_q (q_lenS_map rfl) ?_ | refine ax_q (q_lenS_osl rfl) ?_ | refine ax_q (q_lenS_zs rfl) ?_ | refine ax_q (q_lenS rfl) ?_
   refine ax_q (q_ibin rfl rfl rfl) ?_
   exact ax_nil ⟨rfl, by repeat (first | exact trivial | refine ⟨rfl, ?_⟩ | refine ⟨?_, ?_⟩)⟩
  refine ax_nil ?_
  refine cx_keep rfl rfl ?_
  refine cx_cond rfl (fun h1 => ?_) (fun h1 => ?_)
  ·
   skip
   exact absurd (h1.symm.trans (dk_cond (W := W) (X := X) (AL := AL) (ar := d.Armed) (n := PL.length) (by rw [hSf, hWa]) hP0)) (by decide)
  ·
   skip
   refine cx_skip ?_
   refine cx_keep rfl rfl ?_
   refine cx_seq ?_
   refine cx_seq ?_
   refine cx_ops ?_
   refine ax_q (q_mov rfl) ?_
   refine ax_nil ?_
   refine cx_keep rfl rfl ?_
   refine cx_block ?_
   refine cx_loopU (fun n k => k ≤ d.Sectors.length ∧ n = d.Sectors.length - k) (fun k : Nat => [(22, int k)]) (fun _ => [(5, .box [.d (.sl 1 (d.Sectors.map strRow)), .d (.sl 2 (d.Cache.map GPending.row)), .d (.bool d.Armed), .d (.sl 1 (d.Keep.map intRow))]), (7, .box [.d (.sl 1 (W.Sectors.map strRow)), .d (.sl 2 (W.Cache.map GPending.row)), .d (.bool W.Armed), .d (.sl 1 (W.Keep.map intRow))]), (13, .box [.d (.sl 1 (S.Sectors.map strRow)), .d (.sl 2 (S.Cache.map GPending.row)), .d (.bool S.Armed), .d (.sl 1 (S.Keep.map intRow))]), (16, .box [.d (.sl 1 (X.Sectors.map strRow)), .d (.sl 2 (X.Cache.map GPending.row)), .d (.bool X.Armed), .d (.sl 1 (X.Keep.map intRow))])]) ⟨_, 0, ⟨Nat.zero_le _, rfl⟩, by repeat (first | exact trivial | refine ⟨rfl, ?_⟩ | refine ⟨?_, ?_⟩)⟩ ?_
   rintro n i ⟨hi, rfl⟩
   refine cx_seq ?_
   refine cx_seq ?_
   refine cx_ops ?_
   refine ax_q (q_mov rfl) ?_
   refine ax_q (q_fadr_ptr rfl) ?_
   refine ax_q (q_load1_ptr rfl rfl rfl) ?_
   first | refine ax_q (q_lenS_map rfl) ?_ | refine ax_q (q_lenS_osl rfl) ?_ | refine ax_q (q_lenS_zs rfl) ?_ | refine ax_q (q_lenS rfl) ?_
   refine ax_q (q_ibin rfl rfl rfl) ?_
   refine ax_nil ?_
   refine cx_keep rfl rfl ?_
   refine cx_cond rfl (fun h2 => ?_) (fun h2 => ?_)
   ·
    have h2 := dT h2
    have h2x : i < d.Sectors.length := by omega
    refine cx_skip ?_
    refine cx_keep rfl rfl ?_
    refine cx_seq ?_
    refine cx_block ?_
    refine cx_seq ?_
    refine cx_ops ?_
    refine ax_q (q_ldN rfl rfl rfl) ?_
    refine ax_q (q_mov rfl) ?_
    first | refine ax_call rfl (vc_pure0 (c_DiskRead (d := W) (i := i) ?_ ?_) hP rfl rfl ?_) | refine ax_call rfl (vc_lend0 (c_DiskRead (d := W) (i := i) ?_ ?_) hP (by repeat (first | exact lal_id _ rfl | exact LAL.nil | refine LAL.cons ?_ ?_ | exact la_id _ rfl | exact LA.lend (lend_whole rfl (by first | (simp; done) | (rw [List.length_map]; rfl))) | refine LA.agg ?_ | refine LA.fn ?_ | refine LA.lend ?_ | exact Lend.d _ | exact Lend.zs _ | exact lend_whole rfl (by first | (simp; done) | (rw [List.length_map]; rfl)) | refine Lend.ptr rfl ?_ | refine Lend.fn ?_ | exact LendL.nil | refine LendL.cons ?_ ?_)) rfl rfl ?_)
    ·
     first | assumption | omega | (simp; done) | (simp; omega)
    ·
     first | assumption | omega | (simp; done) | (simp; omega)
    refine ax_q (q_mov rfl) ?_
    refine ax_q (q_ext rfl rfl) ?_
    refine ax_q (q_ext rfl rfl) ?_
    refine ax_q (q_mov rfl) ?_
    refine ax_q (q_mov rfl) ?_
    refine ax_nil ?_
    refine cx_keep rfl rfl ?_
    refine cx_seq ?_
    refine cx_ops ?_
    refine ax_q (q_ldN rfl rfl rfl) ?_
    refine ax_q (q_mov rfl) ?_
    first | refine ax_call rfl (vc_pure0 (c_DiskRead (d := S) (i := i) ?_ ?_) hP rfl rfl ?_) | refine ax_call rfl (vc_lend0 (c_DiskRead (d := S) (i := i) ?_ ?_) hP (by repeat (first | exact lal_id _ rfl | exact LAL.nil | refine LAL.cons ?_ ?_ | exact la_id _ rfl | exact LA.lend (lend_whole rfl (by first | (simp; done) | (rw [List.length_map]; rfl))) | refine LA.agg ?_ | refine LA.fn ?_ | refine LA.lend ?_ | exact Lend.d _ | exact Lend.zs _ | exact lend_whole rfl (by first | (simp; done) | (rw [List.length_map]; rfl)) | refine Lend.ptr rfl ?_ | refine Lend.fn ?_ | exact LendL.nil | refine LendL.cons ?_ ?_)) rfl rfl ?_)
    ·
     first | assumption | omega | (simp; done) | (simp; omega)
    ·
     first | assumption | omega | (simp; done) | (simp; omega)
    rw [show lastW S.Cache (i : Int) (S.Sectors.getD i []) = S.Sectors.getD i [] from by rw [hSc]; rfl]
    refine ax_q (q_mov rfl) ?_
    refine ax_q (q_ext rfl rfl) ?_
    refine ax_q (q_ext rfl rfl) ?_
    refine ax_q (q_mov rfl) ?_
    refine ax_q (q_mov rfl) ?_
    refine ax_nil ?_
    refine cx_keep rfl rfl ?_
    refine cx_seq ?_
    refine cx_ops ?_
    refine ax_q (q_ldN rfl rfl rfl) ?_
    refine ax_q (q_mov rfl) ?_
    first | refine ax_call rfl (vc_pure0 (c_DiskRead (d := X) (i := i) ?_ ?_) hP rfl rfl ?_) | refine ax_call rfl (vc_lend0 (c_DiskRead (d := X) (i := i) ?_ ?_) hP (by repeat (first | exact lal_id _ rfl | exact LAL.nil | refine LAL.cons ?_ ?_ | exact la_id _ rfl | exact LA.lend (lend_whole rfl (by first | (simp; done) | (rw [List.length_map]; rfl))) | refine LA.agg ?_ | refine LA.fn ?_ | refine LA.lend ?_ | exact Lend.d _ | exact Lend.zs _ | exact lend_whole rfl (by first | (simp; done) | (rw [List.length_map]; rfl)) | refine Lend.ptr rfl ?_ | refine Lend.fn ?_ | exact LendL.nil | refine LendL.cons ?_ ?_)) rfl rfl ?_)
    ·
     first | assumption | omega | (simp; done) | (simp; omega)
    ·
     first | assumption | omega | (simp; done) | (simp; omega)
    rw [show lastW X.Cache (i : Int) (X.Sectors.getD i []) = X.Sectors.getD i [] from by rw [hXc]; rfl]
    refine ax_q (q_mov rfl) ?_
    refine ax_q (q_ext rfl rfl) ?_
    refine ax_q (q_ext rfl rfl) ?_
    refine ax_q (q_mov rfl) ?_
    refine ax_q (q_mov rfl) ?_
    refine ax_nil ?_
    refine cx_keep rfl rfl ?_
    refine cx_seq ?_
    refine cx_seq ?_
    refine cx_ops ?_
    refine ax_q (q_mov rfl) ?_
    refine ax_q (q_ibin rfl rfl rfl) ?_
    refine ax_q (q_mov rfl) ?_
    apply ax_or rfl rfl
    ·
     intro g
     have g := nF g
     refine ax_q (q_mov rfl) ?_
     refine ax_q (q_ibin rfl rfl rfl) ?_
     exact ax_nil ⟨rfl, by repeat (first | exact trivial | refine ⟨rfl, ?_⟩ | refine ⟨?_, ?_⟩)⟩
    refine ax_q (q_mov rfl) ?_
    apply ax_or rfl rfl
    ·
     intro g
     have g := (fun h => And.intro (nF (or_F h).1) (nF (or_F h).2)) g
     refine ax_q (q_mov rfl) ?_
     refine ax_q (q_ibin rfl rfl rfl) ?_
     exact ax_nil ⟨rfl, by repeat (first | exact trivial | refine ⟨rfl, ?_⟩ | refine ⟨?_, ?_⟩)⟩
    refine ax_q (q_mov rfl) ?_
    apply ax_or rfl rfl
    ·
     intro g
     have g := (fun h => And.intro ((fun h => And.intro (nF (or_F h).1) (nF (or_F h).2)) (or_F h).1) (nF (or_F h).2)) g
     refine ax_q (q_mov rfl) ?_
     refine ax_q (q_mov rfl) ?_
     apply ax_and rfl rfl
     ·
      intro g
      refine ax_q (q_mov rfl) ?_
      refine ax_q (q_mov rfl) ?_
      refine ax_q (q_sbin rfl rfl rfl) ?_
      exact ax_nil ⟨rfl, by repeat (first | exact trivial | refine ⟨rfl, ?_⟩ | refine ⟨?_, ?_⟩)⟩
     exact ax_nil ⟨rfl, by repeat (first | exact trivial | refine ⟨rfl, ?_⟩ | refine ⟨?_, ?_⟩)⟩
    refine ax_nil ?_
    refine cx_keep rfl rfl ?_
    refine cx_cond rfl (fun h3 => ?_) (fun h3 => ?_)
    ·
     skip
     exact absurd (h3.symm.trans (dk_c3 (AL := AL) (a := lastW W.Cache (i : Int) (W.Sectors.getD i [])) (b := S.Sectors.getD i []) (fun ha => hSl i (by omega) ha))) (by decide)
    ·
     skip
     refine cx_skip ?_
     refine cx_keep rfl rfl ?_
     refine cx_seq ?_
     refine cx_ops ?_
     refine ax_q (q_mov rfl) ?_
     refine ax_q (q_fadr_ptr rfl) ?_
     refine ax_q (q_load1_ptr rfl rfl rfl) ?_
     refine ax_q (q_mov rfl) ?_
     refine ax_q (q_ix (row := strRow (d.Sectors.getD i [])) rfl rfl (strD' h2x)) ?_
     first | refine ax_q (q_load1_ptr rfl rfl rfl) ?_ | refine ax_q (q_load1_ip rfl) ?_ | refine ax_q (q_load1_rptr rfl rfl rfl rfl) ?_ | refine ax_q (q_load1_rptr rfl rfl (by assumption) rfl) ?_ | refine ax_q (q_load1_rptr rfl rfl (mapAt (by first | assumption | omega)) rfl) ?_
     refine ax_q (q_sbin rfl rfl rfl) ?_
     refine ax_q (q_mov rfl) ?_
     refine ax_nil ?_
     refine cx_keep rfl rfl ?_
     refine cx_seq ?_
     refine cx_seq ?_
     refine cx_ops ?_
     refine ax_q (q_mov rfl) ?_
     refine ax_nil ?_
     refine cx_keep rfl rfl ?_
     refine cx_block ?_
     refine cx_loopU (fun n k => k ≤ W.Cache.length ∧ n = W.Cache.length - k) (fun k : Nat => [(30, int k), (29, bool (wroteK W.Cache (i : Int) (X.Sectors.getD i []) (d.Sectors.getD i []) k))]) (fun _ => [(5, .box [.d (.sl 1 (d.Sectors.map strRow)), .d (.sl 2 (d.Cache.map GPending.row)), .d (.bool d.Armed), .d (.sl 1 (d.Keep.map intRow))]), (7, .box [.d (.sl 1 (W.Sectors.map strRow)), .d (.sl 2 (W.Cache.map GPending.row)), .d (.bool W.Armed), .d (.sl 1 (W.Keep.map intRow))]), (13, .box [.d (.sl 1 (S.Sectors.map strRow)), .d (.sl 2 (S.Cache.map GPending.row)), .d (.bool S.Armed), .d (.sl 1 (S.Keep.map intRow))]), (16, .box [.d (.sl 1 (X.Sectors.map strRow)), .d (.sl 2 (X.Cache.map GPending.row)), .d (.bool X.Armed), .d (.sl 1 (X.Keep.map intRow))])]) ⟨_, 0, ⟨Nat.zero_le _, rfl⟩, by rw [wroteK_0]; exact (by repeat (first | exact trivial | refine ⟨rfl, ?_⟩ | refine ⟨?_, ?_⟩))⟩ ?_
     rintro n j ⟨hj, rfl⟩
     refine cx_seq ?_
     refine cx_seq ?_
     refine cx_ops ?_
     refine ax_q (q_mov rfl) ?_
     refine ax_q (q_fadr_ptr rfl) ?_
     refine ax_q (q_load1_ptr rfl rfl rfl) ?_
     first | refine ax_q (q_lenS_map rfl) ?_ | refine ax_q (q_lenS_osl rfl) ?_ | refine ax_q (q_lenS_zs rfl) ?_ | refine ax_q (q_lenS rfl) ?_
     refine ax_q (q_ibin rfl rfl rfl) ?_
     refine ax_nil ?_
     refine cx_keep rfl rfl ?_
     refine cx_cond rfl (fun h4 => ?_) (fun h4 => ?_)
     ·
      have h4 := dT h4
      have h4x : j < W.Cache.length := by omega
      refine cx_skip ?_
      refine cx_keep rfl rfl ?_
      refine cx_seq ?_
      refine cx_block ?_
      refine cx_ops ?_
      refine ax_q (q_mov rfl) ?_
      refine ax_q (q_mov rfl) ?_
      apply ax_or rfl rfl
      ·
       intro g
       refine ax_q (q_fadr_ptr rfl) ?_
       refine ax_q (q_load1_ptr rfl rfl rfl) ?_
       refine ax_q (q_mov rfl) ?_
       refine ax_q (q_ix rfl rfl (mapAt h4x)) ?_
       first | refine ax_q (q_fadr_ptr rfl) ?_ | refine ax_q (q_fadr_rptr rfl) ?_ | refine ax_q (q_fadr_ip rfl) ?_
       first | refine ax_q (q_load1_ptr rfl rfl rfl) ?_ | refine ax_q (q_load1_ip rfl) ?_ | refine ax_q (q_load1_rptr rfl rfl rfl rfl) ?_ | refine ax_q (q_load1_rptr rfl rfl (by assumption) rfl) ?_ | refine ax_q (q_load1_rptr rfl rfl (mapAt (by first | assumption | omega)) rfl) ?_
       refine ax_q (q_mov rfl) ?_
       refine ax_q (q_ibin rfl rfl rfl) ?_
       refine ax_q (q_mov rfl) ?_
       apply ax_and rfl rfl
       ·
        intro g
        have g := dT g
        refine ax_q (q_fadr_ptr rfl) ?_
        refine ax_q (q_load1_ptr rfl rfl rfl) ?_
        refine ax_q (q_mov rfl) ?_
        refine ax_q (q_ix rfl rfl (mapAt h4x)) ?_
        first | refine ax_q (q_fadr_ptr rfl) ?_ | refine ax_q (q_fadr_rptr rfl) ?_ | refine ax_q (q_fadr_ip rfl) ?_
        first | refine ax_q (q_load1_ptr rfl rfl rfl) ?_ | refine ax_q (q_load1_ip rfl) ?_ | refine ax_q (q_load1_rptr rfl rfl rfl rfl) ?_ | refine ax_q (q_load1_rptr rfl rfl (by assumption) rfl) ?_ | refine ax_q (q_load1_rptr rfl rfl (mapAt (by first | assumption | omega)) rfl) ?_
        refine ax_q (q_mov rfl) ?_
        refine ax_q (q_sbin rfl rfl rfl) ?_
        exact ax_nil ⟨rfl, by repeat (first | exact trivial | refine ⟨rfl, ?_⟩ | refine ⟨?_, ?_⟩)⟩
       exact ax_nil ⟨rfl, by repeat (first | exact trivial | refine ⟨rfl, ?_⟩ | refine ⟨?_, ?_⟩)⟩
      refine ax_q (q_mov rfl) ?_
      refine ax_nil ?_
      refine cx_keep rfl rfl ?_
      refine cx_ops ?_
      refine ax_q (q_mov rfl) ?_
      refine ax_qe (r' := int ((j + 1 : Nat) : Int)) (q_ibin rfl rfl rfl) (by rw [wi (by omega) (by omega)]; rfl) ?_
      refine ax_q (q_mov rfl) ?_
      refine ax_nil ?_
      exact ⟨_, j + 1, by omega, ⟨by omega, rfl⟩, by rw [wroteK_succ h4x]; exact (by repeat (first | exact trivial | refine ⟨rfl, ?_⟩ | refine ⟨?_, ?_⟩))⟩
     ·
      have h4 := dF h4
      obtain rfl : j = W.Cache.length := by omega
      refine cx_exit rfl ?_
      refine cx_keep rfl rfl ?_
      refine cx_seq ?_
      refine cx_ops ?_
      refine ax_q (q_mov rfl) ?_
      refine ax_q (q_not rfl) ?_
      refine ax_nil ?_
      refine cx_keep rfl rfl ?_
      refine cx_cond rfl (fun h5 => ?_) (fun h5 => ?_)
      ·
       skip
       exfalso
       have := hXw i (by omega)
       rw [hWs] at this
       rw [this] at h5; cases h5
      ·
       skip
       refine cx_skip ?_
       refine cx_keep rfl rfl ?_
       refine cx_ops ?_
       refine ax_q (q_mov rfl) ?_
       refine ax_qe (r' := int ((i + 1 : Nat) : Int)) (q_ibin rfl rfl rfl) (by rw [wi (by omega) (by omega)]; rfl) ?_
       refine ax_q (q_mov rfl) ?_
       refine ax_nil ?_
       exact ⟨_, i + 1, by omega, ⟨by omega, rfl⟩, by repeat (first | exact trivial | refine ⟨rfl, ?_⟩ | refine ⟨?_, ?_⟩)⟩
   ·
    have h2 := dF h2
    refine cx_exit rfl ?_
    refine cx_keep rfl rfl ?_
    refine cx_seq ?_
    refine cx_ops ?_
    refine ax_q (q_ldN rfl rfl rfl) ?_
    first | refine ax_call rfl (vc_pure0 (c_DiskOK (d := W) ?_ ?_ ?_) hP rfl rfl ?_) | refine ax_call rfl (vc_lend0 (c_DiskOK (d := W) ?_ ?_ ?_) hP (by repeat (first | exact lal_id _ rfl | exact LAL.nil | refine LAL.cons ?_ ?_ | exact la_id _ rfl | exact LA.lend (lend_whole rfl (by first | (simp; done) | (rw [List.length_map]; rfl))) | refine LA.agg ?_ | refine LA.fn ?_ | refine LA.lend ?_ | exact Lend.d _ | exact Lend.zs _ | exact lend_whole rfl (by first | (simp; done) | (rw [List.length_map]; rfl)) | refine Lend.ptr rfl ?_ | refine Lend.fn ?_ | exact LendL.nil | refine LendL.cons ?_ ?_)) rfl rfl ?_)
    ·
     first | assumption | omega | (simp; done) | (simp; omega)
    ·
     first | assumption | omega | (simp; done) | (simp; omega)
    ·
     first | assumption | omega | (simp; done) | (simp; omega)
    refine ax_q (q_mov rfl) ?_
    apply ax_and rfl rfl
    ·
     intro g
     refine ax_q (q_ldN rfl rfl rfl) ?_
     first | refine ax_call rfl (vc_pure0 (c_DiskOK (d := S) ?_ ?_ ?_) hP rfl rfl ?_) | refine ax_call rfl (vc_lend0 (c_DiskOK (d := S) ?_ ?_ ?_) hP (by repeat (first | exact lal_id _ rfl | exact LAL.nil | refine LAL.cons ?_ ?_ | exact la_id _ rfl | exact LA.lend (lend_whole rfl (by first | (simp; done) | (rw [List.length_map]; rfl))) | refine LA.agg ?_ | refine LA.fn ?_ | refine LA.lend ?_ | exact Lend.d _ | exact Lend.zs _ | exact lend_whole rfl (by first | (simp; done) | (rw [List.length_map]; rfl)) | refine Lend.ptr rfl ?_ | refine Lend.fn ?_ | exact LendL.nil | refine LendL.cons ?_ ?_)) rfl rfl ?_)
     ·
      first | assumption | omega | (simp; done) | (simp; omega)
     ·
      first | assumption | omega | (simp; done) | (simp; omega)
     ·
      first | assumption | omega | (simp; done) | (simp; omega)
     exact ax_nil ⟨rfl, by repeat (first | exact trivial | refine ⟨rfl, ?_⟩ | refine ⟨?_, ?_⟩)⟩
    refine ax_q (q_mov rfl) ?_
    apply ax_and rfl rfl
    ·
     intro g
     have g := (fun h => And.intro (id (and_T h).1) (id (and_T h).2)) g
     refine ax_q (q_ldN rfl rfl rfl) ?_
     first | refine ax_call rfl (vc_pure0 (c_DiskOK (d := X) ?_ ?_ ?_) hP rfl rfl ?_) | refine ax_call rfl (vc_lend0 (c_DiskOK (d := X) ?_ ?_ ?_) hP (by repeat (first | exact lal_id _ rfl | exact LAL.nil | refine LAL.cons ?_ ?_ | exact la_id _ rfl | exact LA.lend (lend_whole rfl (by first | (simp; done) | (rw [List.length_map]; rfl))) | refine LA.agg ?_ | refine LA.fn ?_ | refine LA.lend ?_ | exact Lend.d _ | exact Lend.zs _ | exact lend_whole rfl (by first | (simp; done) | (rw [List.length_map]; rfl)) | refine Lend.ptr rfl ?_ | refine Lend.fn ?_ | exact LendL.nil | refine LendL.cons ?_ ?_)) rfl rfl ?_)
     ·
      first | assumption | omega | (simp; done) | (simp; omega)
     ·
      first | assumption | omega | (simp; done) | (simp; omega)
     ·
      first | assumption | omega | (simp; done) | (simp; omega)
     exact ax_nil ⟨rfl, by repeat (first | exact trivial | refine ⟨rfl, ?_⟩ | refine ⟨?_, ?_⟩)⟩
    refine ax_q (q_mov rfl) ?_
    apply ax_and rfl rfl
    ·
     intro g
     have g := (fun h => And.intro ((fun h => And.intro (id (and_T h).1) (id (and_T h).2)) (and_T h).1) (id (and_T h).2)) g
     refine ax_q (q_fadr_ptr rfl) ?_
     refine ax_q (q_load1_ptr rfl rfl rfl) ?_
     first | refine ax_q (q_lenS_map rfl) ?_ | refine ax_q (q_lenS_osl rfl) ?_ | refine ax_q (q_lenS_zs rfl) ?_ | refine ax_q (q_lenS rfl) ?_
     refine ax_q (q_ibin rfl rfl rfl) ?_
     exact ax_nil ⟨rfl, by repeat (first | exact trivial | refine ⟨rfl, ?_⟩ | refine ⟨?_, ?_⟩)⟩
    refine ax_q (q_mov rfl) ?_
    apply ax_and rfl rfl
    ·
     intro g
     have g := (fun h => And.intro ((fun h => And.intro ((fun h => And.intro (id (and_T h).1) (id (and_T h).2)) (and_T h).1) (id (and_T h).2)) (and_T h).1) (dT (and_T h).2)) g
     refine ax_q (q_fadr_ptr rfl) ?_
     refine ax_q (q_load1_ptr rfl rfl rfl) ?_
     first | refine ax_q (q_lenS_map rfl) ?_ | refine ax_q (q_lenS_osl rfl) ?_ | refine ax_q (q_lenS_zs rfl) ?_ | refine ax_q (q_lenS rfl) ?_
     refine ax_q (q_ibin rfl rfl rfl) ?_
     exact ax_nil ⟨rfl, by repeat (first | exact trivial | refine ⟨rfl, ?_⟩ | refine ⟨?_, ?_⟩)⟩
    refine ax_q (q_mov rfl) ?_
    refine ax_nil ?_
    refine cx_keep rfl rfl ?_
    refine cx_ret (ret0 rfl rfl ?_)
    exact ⟨by rw [hWo.ok, hSo.ok, hXo.ok, hXc, hSc]; rfl, rfl⟩

theorem own : ownKnob Try.prog.godebug = none := by kernel_rfl
theorem laid : laidOutB Try.prog = true := by kernel_rfl
theorem closedTs : closedT Try.prog [5, 22] = true := by kernel_rfl
theorem con (rows : List (List D)) (h : HasAll Try.prog Try.f5.params.toList rows) : Con Try.prog noMv 5 (argsAV Try.prog Try.f5.params.toList rows) [] (fun r h => r = AM.bool true ∧ h = []) := by
  rw [Try.params5] at h ⊢
  obtain ⟨d0, r0, rfl, h0, h⟩ := h
  obtain ⟨d1, r1, rfl, h1, h⟩ := h
  obtain rfl := h
  obtain ⟨a0, rfl, w0⟩ := (dec_slice (sz := 1) Try.underlying22 (by kernel_rfl) (dec_byte Try.underlying5)) h0
  obtain ⟨a1, rfl, w1⟩ := (dec_slice (sz := 1) Try.underlying22 (by kernel_rfl) (dec_byte Try.underlying5)) h1
  have e : argsAV Try.prog [22, 22] [[.sl 1 (a0.map byteRow)], [.sl 1 (a1.map byteRow)]] = [.d (.sl 1 (a0.map byteRow)), .d (.sl 1 (a1.map byteRow))] := by
    first | (simp only [argsAV, argAV, Try.underlying22]; done) | (simp only [argsAV, argAV, Try.underlying22]; rfl)
  show Con Try.prog noMv 5 (argsAV Try.prog [22, 22] [[.sl 1 (a0.map byteRow)], [.sl 1 (a1.map byteRow)]]) [] _
  rw [e]
  exact c_FnDisk w0 w1
set_option maxRecDepth 100000 in
theorem lifted (os : Os) (started : os.Started) (H : Type) (enc : TypeId × Value → H) :
    ReturnsInHanded {} Try.checked os 5 .any (Rows.fnDiskSpec.pre6 enc Try.prog Try.f5 Rows.fnDiskRow.domain false) (Rows.fnDiskSpec.post enc Try.prog Try.f5 false true false false) := by
  refine returnsInHanded_of_change (C := Try.checked) own started (by kernel_rfl) Try.func5
    (ChangeSpec.witness6 (enc := enc) (C := Try.checked) false ⟨#[], #[.slice none 0 0, .slice none 0 0], []⟩ 8 (by kernel_rfl) (by kernel_rfl) (by kernel_rfl) (by kernel_rfl)) ?_
  intro W base args ds gs before hval hW hcnd _
  refine law_contract closedTs laid (by kernel_rfl) rfl rfl Try.underlying4 con (fun hl => ?_) hval hW
  match ds, hl with
  | [x0, x1], _ => rfl
theorem over : Rows.fnDiskRow.holds Try.pinned (OpenSpec.ofChange Rows.fnDiskSpec) :=
  OpenClaim.holds_of_wide 5 Try.f5 rfl rfl rfl rfl rfl rfl rfl ⟨rfl, rfl, rfl, rfl, rfl⟩ rfl rfl rfl rfl rfl (by kernel_rfl) Try.func5 (by kernel_rfl)
    (of_decide_eq_true (by kernel_rfl)) (by unfold Func.isWrapper; first | (rw [if_pos (by decide +kernel)]; kernel_rfl) | (rw [if_neg (by decide +kernel)]; exact ⟨rfl, rfl⟩))
    (fun os started H enc _ => lifted os started H enc)
theorem proved : Rows.FnDiskSaid := over
end fnDisk
end Go.Proofs.Ythalkmobccealaa
#print axioms Go.Proofs.Ythalkmobccealaa.fnDisk.proved
