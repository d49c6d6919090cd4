/- The law FnRange of the given program returns true for all arguments, and its arguments read behind the call as they read before: the statement FnRangeSaid, with no condition. -/
import Derived.Test.YtiapgkpjnadebaaW1
import Derived.Test.YtiapgkpjnadebaaRows
namespace Go.Proofs.Ytiapgkpjnadebaa
open Go Go.AM Go.ChangeShapes Go.RowKit
set_option linter.unusedVariables false
set_option linter.unusedSimpArgs false
namespace fnRange
set_option maxRecDepth 10000
/- loop.example/g00332/laws.FnRange -/
def k_c_FnRange : XCode :=
 .seq (.ops [.op (some 4) (.mov (.k (.bool false)))])
 (.keep [0, 1] (.seq (.seq (.ops [.op (some 22) (.mov (.t 0)),
   .op (some 23) (.lenS (.t 22)),
   .op (some 24) (.bin .gtr (.t 23) (.k (.int .i64 1048576))),
   .op (some 25) (.mov (.t 24)),
   .andor 29 false 3 25 [.op (some 26) (.mov (.t 1)), .op (some 27) (.lenS (.t 26)), .op (some 28) (.bin .gtr (.t 27) (.k (.int .i64 1048576)))] (.t 28)])
  (.keep [0, 1, 29] (.cond (.t 29)
  (.seq (.ops [.op (some 4) (.mov (.k (.bool true)))])
   (.keep [4] (.ret)))
  (.skip))))
 (.keep [0, 1] (.seq (.ops [.op (some 30) (.mov (.t 0)),
   .call (some 31) 5 [.t 30],
   .op (some 5) (.mov (.t 31))])
 (.keep [1, 5] (.seq (.ops [.call (some 32) 6 [],
   .op (some 6) (.alloc [.int .i64 0, .nils 3]),
   .op none (.store 2 (.t 6) (.t 32))])
 (.keep [1, 5, 6] (.seq (.seq (.ops [.op (some 7) (.mov (.k (.int .i64 0)))])
  (.keep [1, 5, 6, 7] (.block 0 (.loop (.seq (.seq (.ops [.op (some 33) (.mov (.t 7)),
     .op (some 34) (.mov (.t 5)),
     .op (some 35) (.lenS (.t 34)),
     .op (some 36) (.bin .lss (.t 33) (.t 35))])
   (.keep [1, 5, 6, 7, 36] (.cond (.t 36)
    (.skip)
    (.exit 0))))
   (.keep [1, 5, 6, 7] (.seq (.block 1 (.seq (.drawE [[], [], [], [1, 2], [1, 2, 3], [0, 1, 2, 3, 4], [0, 1, 2, 3, 4, 5], [0, 1, 2, 3, 4, 5, 6], [0, 1, 2, 3, 4, 5, 6], [], [0, 1, 2, 3, 4, 5, 6, 7, 9], [0, 1, 2, 3, 4, 5, 6, 7, 8, 9, 10]] [.op (some 40) (.loadN 2 (.t 6)),
     .op (some 41) (.mov (.t 5)),
     .op (some 42) (.mov (.t 7)),
     .op (some 43) (.iadr 1 (.t 41) (.t 42)),
     .op (some 44) (.load1 (.t 43)),
     .call (some 45) 8 [.t 40, .t 44],
     .op (some 39) (.mov (.t 45)),
     .op (some 46) (.ext (.t 39) 0),
     .op (some 47) (.ext (.t 39) 1),
     .op (some 8) (.alloc [.int .i64 0, .nils 3]),
     .op none (.store 2 (.t 8) (.t 46))]
     [.op (some 9) (.mov (.t 47))])
    (.keep [1, 5, 6, 7, 8, 9] (.seq (.drawE [[], [], [], [1, 2], [1, 2, 3], [0, 1, 2, 3, 4], [0, 1, 2, 3, 4, 5], [0, 1, 2, 3, 4, 5, 6], [0, 1, 2, 3, 4, 5, 6], [], [0, 1, 2, 3, 4, 5, 6, 7, 9], [0, 1, 2, 3, 4, 5, 6, 7, 8, 9, 10]] [.op (some 49) (.loadN 2 (.t 6)),
     .op (some 50) (.mov (.t 5)),
     .op (some 51) (.mov (.t 7)),
     .op (some 52) (.iadr 1 (.t 50) (.t 51)),
     .op (some 53) (.load1 (.t 52)),
     .call (some 54) 14 [.t 49, .t 53],
     .op (some 48) (.mov (.t 54)),
     .op (some 55) (.ext (.t 48) 0),
     .op (some 56) (.ext (.t 48) 1),
     .op (some 10) (.alloc [.int .i64 0, .nils 3]),
     .op none (.store 2 (.t 10) (.t 55))]
     [.op (some 11) (.mov (.t 56))])
    (.keep [1, 5, 6, 7, 8, 9, 10] (.seq (.seq (.ops [.op (some 57) (.mov (.t 9)),
      .op (some 58) (.bin .neq (.t 57) (.k (.int .i64 0))),
      .op (some 59) (.mov (.t 58)),
      .andor 67 false 2 59 [.op (some 60) (.fadr (.t 8) 1), .op (some 61) (.load1 (.t 60)), .op (some 62) (.lenS (.t 61)), .op (some 63) (.fadr (.t 10) 1), .op (some 64) (.load1 (.t 63)), .op (some 65) (.lenS (.t 64)), .op (some 66) (.bin .neq (.t 62) (.t 65))] (.t 66)])
    (.keep [1, 5, 6, 7, 8, 67] (.cond (.t 67)
     (.seq (.ops [.op (some 4) (.mov (.k (.bool false)))])
     (.keep [4] (.ret)))
     (.skip))))
    (.keep [1, 5, 6, 7, 8] (.ops [.op (some 68) (.loadN 2 (.t 8)),
     .op none (.store 2 (.t 6) (.t 68))]))))))))
   (.keep [1, 5, 6, 7] (.ops [.op (some 37) (.mov (.t 7)),
    .op (some 38) (.bin .add (.t 37) (.k (.int .i64 1))),
    .op (some 7) (.mov (.t 38))])))))))))
 (.keep [1, 5, 6] (.seq (.ops [.op (some 69) (.mov (.t 1)),
   .call (some 70) 7 [.t 69, .k (.int .i64 0), .k (.int .i64 7)],
   .op (some 71) (.bin .add (.k (.int .i64 97)) (.t 70)),
   .op (some 72) (.conv .u8 (.t 71)),
   .op (some 73) (.mov (.t 1)),
   .call (some 74) 7 [.t 73, .k (.int .i64 1), .k (.int .i64 7)],
   .op (some 75) (.bin .add (.k (.int .i64 97)) (.t 74)),
   .op (some 76) (.conv .u8 (.t 75)),
   .op (some 77) (.bslice 1 [.t 72, .t 76]),
   .op (some 78) (.b2s (.t 77)),
   .op (some 12) (.mov (.t 78))])
 (.keep [1, 5, 6, 12] (.seq (.ops [.op (some 79) (.mov (.t 1)),
   .call (some 80) 7 [.t 79, .k (.int .i64 2), .k (.int .i64 7)],
   .op (some 81) (.bin .add (.k (.int .i64 97)) (.t 80)),
   .op (some 82) (.conv .u8 (.t 81)),
   .op (some 83) (.mov (.t 1)),
   .call (some 84) 7 [.t 83, .k (.int .i64 3), .k (.int .i64 7)],
   .op (some 85) (.bin .add (.k (.int .i64 97)) (.t 84)),
   .op (some 86) (.conv .u8 (.t 85)),
   .op (some 87) (.bslice 1 [.t 82, .t 86]),
   .op (some 88) (.b2s (.t 87)),
   .op (some 13) (.mov (.t 88))])
 (.keep [5, 6, 12, 13] (.seq (.ops [.op (some 90) (.loadN 2 (.t 6)),
   .op (some 91) (.mov (.t 12)),
   .op (some 92) (.mov (.t 13)),
   .call (some 93) 9 [.t 90, .t 91, .t 92],
   .op (some 89) (.mov (.t 93)),
   .op (some 94) (.ext (.t 89) 0),
   .op (some 95) (.ext (.t 89) 1),
   .op (some 14) (.mov (.t 94)),
   .op (some 15) (.mov (.t 95))])
 (.keep [5, 6, 12, 13, 14, 15] (.seq (.ops [.op (some 16) (.mov (.k (.int .i64 0)))])
 (.keep [5, 6, 12, 13, 14, 15, 16] (.seq (.seq (.ops [.op (some 17) (.mov (.k (.int .i64 0)))])
  (.keep [5, 6, 12, 13, 14, 15, 16, 17] (.block 2 (.loop (.seq (.seq (.ops [.op (some 96) (.mov (.t 17)),
     .op (some 97) (.mov (.t 5)),
     .op (some 98) (.lenS (.t 97)),
     .op (some 99) (.bin .lss (.t 96) (.t 98))])
   (.keep [5, 6, 12, 13, 14, 15, 16, 17, 99] (.cond (.t 99)
    (.skip)
    (.exit 2))))
   (.keep [5, 6, 12, 13, 14, 15, 16, 17] (.seq (.block 3 (.seq (.ops [.op (some 102) (.mov (.t 5)),
     .op (some 103) (.mov (.t 17)),
     .op (some 104) (.iadr 1 (.t 102) (.t 103)),
     .op (some 105) (.load1 (.t 104)),
     .op (some 106) (.mov (.t 12)),
     .op (some 107) (.bin .geq (.t 105) (.t 106)),
     .op (some 108) (.mov (.t 107)),
     .andor 115 true 6 108 [.op (some 109) (.mov (.t 5)), .op (some 110) (.mov (.t 17)), .op (some 111) (.iadr 1 (.t 109) (.t 110)), .op (some 112) (.load1 (.t 111)), .op (some 113) (.mov (.t 13)), .op (some 114) (.bin .lss (.t 112) (.t 113))] (.t 114)])
    (.keep [5, 6, 12, 13, 14, 15, 16, 17, 115] (.cond (.t 115)
    (.seq (.seq (.draw [.op (some 116) (.mov (.t 16)),
       .op (some 117) (.mov (.t 14)),
       .op (some 118) (.lenS (.t 117)),
       .op (some 119) (.bin .geq (.t 116) (.t 118)),
       .op (some 120) (.mov (.t 119)),
       .andor 130 false 4 120 [.op (some 121) (.mov (.t 14)), .op (some 122) (.mov (.t 16)), .op (some 123) (.iadr 1 (.t 121) (.t 122)), .op (some 124) (.load1 (.t 123)), .op (some 125) (.mov (.t 5)), .op (some 126) (.mov (.t 17)), .op (some 127) (.iadr 1 (.t 125) (.t 126)), .op (some 128) (.load1 (.t 127)), .op (some 129) (.bin .neq (.t 124) (.t 128))] (.t 129)])
     (.keep [5, 6, 12, 13, 14, 15, 16, 17, 130] (.cond (.t 130)
      (.seq (.ops [.op (some 4) (.mov (.k (.bool false)))])
      (.keep [4] (.ret)))
      (.skip))))
     (.keep [5, 6, 12, 13, 14, 15, 16, 17] (.ops [.op (some 131) (.mov (.t 16)),
      .op (some 132) (.bin .add (.t 131) (.k (.int .i64 1))),
      .op (some 16) (.mov (.t 132))])))
    (.skip)))))
   (.keep [5, 6, 12, 13, 14, 15, 16, 17] (.ops [.op (some 100) (.mov (.t 17)),
    .op (some 101) (.bin .add (.t 100) (.k (.int .i64 1))),
    .op (some 17) (.mov (.t 101))])))))))))
 (.keep [5, 6, 14, 15, 16] (.seq (.ops [.op (some 134) (.loadN 2 (.t 6)),
   .call (some 135) 15 [.t 134],
   .op (some 133) (.mov (.t 135)),
   .op (some 136) (.ext (.t 133) 0),
   .op (some 137) (.ext (.t 133) 1),
   .op (some 18) (.mov (.t 136)),
   .op (some 19) (.mov (.t 137))])
 (.keep [5, 14, 15, 16, 18, 19] (.seq (.ops [.op (some 20) (.mov (.k (.int .i64 1)))])
 (.keep [5, 14, 15, 16, 18, 19, 20] (.seq (.seq (.ops [.op (some 21) (.mov (.k (.int .i64 1)))])
  (.keep [5, 14, 15, 16, 18, 19, 20, 21] (.block 4 (.loop (.seq (.seq (.ops [.op (some 138) (.mov (.t 21)),
     .op (some 139) (.mov (.t 18)),
     .op (some 140) (.bin .lss (.t 138) (.t 139)),
     .op (some 141) (.mov (.t 140)),
     .andor 144 true 3 141 [.op (some 142) (.mov (.t 21)), .op (some 143) (.bin .lss (.t 142) (.k (.int .i64 20)))] (.t 143)])
   (.keep [5, 14, 15, 16, 18, 19, 20, 21, 144] (.cond (.t 144)
    (.skip)
    (.exit 4))))
   (.keep [5, 14, 15, 16, 18, 19, 20, 21] (.seq (.block 5 (.ops [.op (some 147) (.mov (.t 20)),
     .op (some 148) (.bin .mul (.t 147) (.k (.int .i64 2))),
     .op (some 20) (.mov (.t 148))]))
   (.keep [5, 14, 15, 16, 18, 19, 20, 21] (.ops [.op (some 145) (.mov (.t 21)),
    .op (some 146) (.bin .add (.t 145) (.k (.int .i64 1))),
    .op (some 21) (.mov (.t 146))])))))))))
 (.keep [5, 14, 15, 16, 18, 19, 20] (.seq (.ops [.op (some 149) (.mov (.t 15)),
   .op (some 150) (.bin .eql (.t 149) (.k (.int .i64 0))),
   .op (some 151) (.mov (.t 150)),
   .andor 156 true 2 151 [.op (some 152) (.mov (.t 16)), .op (some 153) (.mov (.t 14)), .op (some 154) (.lenS (.t 153)), .op (some 155) (.bin .eql (.t 152) (.t 154))] (.t 155),
   .op (some 157) (.mov (.t 156)),
   .andor 160 true 8 157 [.op (some 158) (.mov (.t 19)), .op (some 159) (.bin .eql (.t 158) (.k (.int .i64 0)))] (.t 159),
   .op (some 161) (.mov (.t 160)),
   .andor 164 true 12 161 [.op (some 162) (.mov (.t 18)), .op (some 163) (.bin .geq (.t 162) (.k (.int .i64 1)))] (.t 163),
   .op (some 165) (.mov (.t 164)),
   .andor 174 true 16 165 [.op (some 166) (.mov (.t 18)), .op (some 167) (.bin .eql (.t 166) (.k (.int .i64 1))), .op (some 168) (.mov (.t 167)), .andor 173 false 19 168 [.op (some 169) (.mov (.t 20)), .op (some 170) (.mov (.t 5)), .op (some 171) (.lenS (.t 170)), .op (some 172) (.bin .leq (.t 169) (.t 171))] (.t 172)] (.t 173),
   .op (some 4) (.mov (.t 174))])
 (.keep [4] (.ret))))))))))))))))))))))))))))
theorem k_c_FnRange_fits : fitsF Try.prog 4 ⟨175, k_c_FnRange, [.t 4]⟩ = true := by kernel_rfl
set_option maxHeartbeats 4000000 in
theorem c_FnRange {code more : Str} (w0 : wfL (fun _ => True) code) (w1 : wfL (fun _ => True) more) : Con Try.prog noMv 4 [.d (.sl 1 (code.map byteRow)), .d (.sl 1 (more.map byteRow))] [] (fun r h => r = bool true ∧ h = []) := by
 refine con_of2 k_c_FnRange_fits rfl fun C hP hmv => ?_
 unfold k_c_FnRange
 refine cx_seq ?_
 refine cx_ops ?_
 refine ax_q (q_mov rfl) ?_
 refine ax_nil ?_
 refine cx_keep rfl rfl ?_
 refine cx_seq ?_
 refine cx_seq ?_
 refine cx_ops ?_
 refine ax_q (q_mov rfl) ?_
 first | refine ax_q (q_lenS_map rfl) ?_ | refine ax_q (q_lenS_osl rfl) ?_ | refine ax_q (q_lenS_zs rfl) ?_ | refine ax_q (q_lenS rfl) ?_
 refine ax_q (q_ibin rfl rfl rfl) ?_
 refine ax_q (q_mov rfl) ?_
 apply ax_or rfl rfl
 ·
  intro g
  have g := dF g
  refine ax_q (q_mov rfl) ?_
  first | refine ax_q (q_lenS_map rfl) ?_ | refine ax_q (q_lenS_osl rfl) ?_ | refine ax_q (q_lenS_zs rfl) ?_ | refine ax_q (q_lenS rfl) ?_
  refine ax_q (q_ibin rfl rfl rfl) ?_
  exact ax_nil ⟨rfl, by repeat (first | exact trivial | refine ⟨rfl, ?_⟩ | refine ⟨?_, ?_⟩)⟩
 refine ax_nil ?_
 refine cx_keep rfl rfl ?_
 refine cx_cond rfl (fun h0 => ?_) (fun h0 => ?_)
 ·
  have h0 := (fun h => (or_T h).imp dT dT) h0
  refine cx_seq ?_
  refine cx_ops ?_
  refine ax_q (q_mov rfl) ?_
  refine ax_nil ?_
  refine cx_keep rfl rfl ?_
  refine cx_ret (ret0 rfl rfl ?_)
  exact ⟨rfl, rfl⟩
 ·
  have h0 := (fun h => And.intro (dF (or_F h).1) (dF (or_F h).2)) h0
  have hlc : code.length ≤ 1048576 := by omega
  have hlm : more.length ≤ 1048576 := by omega
  refine cx_skip ?_
  refine cx_keep rfl rfl ?_
  refine cx_seq ?_
  refine cx_ops ?_
  refine ax_q (q_mov rfl) ?_
  refine ax_call rfl (vc_pure (c_TreeKeysOf (code := code) hlc) hP rfl ?_)
  rintro r h ⟨KL, hT, hKl, rfl, rfl⟩
  refine ⟨id, [], ⟨rfl, rfl, rfl, rfl, rfl, fun h => absurd h Bool.false_ne_true⟩, ?_⟩
  refine ax_q (q_mov rfl) ?_
  refine ax_nil ?_
  refine cx_keep rfl rfl ?_
  refine cx_seq ?_
  refine cx_ops ?_
  first | refine ax_call rfl (vc_pure0 (c_NewTree  ) hP rfl rfl ?_) | refine ax_call rfl (vc_lend0 (c_NewTree  ) hP (by repeat (first | exact lal_id _ rfl | exact LAL.nil | refine LAL.cons ?_ ?_ | exact la_id _ rfl | exact LA.lend (lend_whole rfl (by first | (simp; done) | (rw [List.length_map]; rfl))) | refine LA.agg ?_ | refine LA.fn ?_ | refine LA.lend ?_ | exact Lend.d _ | exact Lend.zs _ | exact lend_whole rfl (by first | (simp; done) | (rw [List.length_map]; rfl)) | refine Lend.ptr rfl ?_ | refine Lend.fn ?_ | exact LendL.nil | refine LendL.cons ?_ ?_)) rfl rfl ?_)
  refine ax_e (e_alloc (by decide) rfl rfl) ?_
  refine ax_e (e_st rfl rfl rfl rfl rfl rfl rfl) ?_
  refine ax_nil ?_
  refine cx_keep rfl rfl ?_
  refine cx_seq ?_
  refine cx_seq ?_
  refine cx_ops ?_
  refine ax_q (q_mov rfl) ?_
  refine ax_nil ?_
  refine cx_keep rfl rfl ?_
  refine cx_block ?_
  refine cx_loopU (fun n k => k ≤ KL.length ∧ n = KL.length - k) (fun k : Nat => [(7, int k)]) (fun k => [(6, .box [.d (.int .i64 (treeT (KL.take k)).root), .d (.sl 3 ((treeT (KL.take k)).nodes.map TN.row))])]) ⟨_, 0, ⟨Nat.zero_le _, rfl⟩, by repeat (first | exact trivial | refine ⟨rfl, ?_⟩ | refine ⟨?_, ?_⟩)⟩ ?_
  rintro n i ⟨hi, rfl⟩
  refine cx_seq ?_
  refine cx_seq ?_
  refine cx_ops ?_
  refine ax_q (q_mov rfl) ?_
  refine ax_q (q_mov rfl) ?_
  first | refine ax_q (q_lenS_map rfl) ?_ | refine ax_q (q_lenS_osl rfl) ?_ | refine ax_q (q_lenS_zs rfl) ?_ | refine ax_q (q_lenS rfl) ?_
  refine ax_q (q_ibin rfl rfl rfl) ?_
  refine ax_nil ?_
  refine cx_keep rfl rfl ?_
  refine cx_cond rfl (fun h1 => ?_) (fun h1 => ?_)
  ·
   have h1 := dT h1
   have h1x : i < KL.length := by omega
   have hkm := getD_mem h1x
   have hkz := hT.ks.sz _ hkm
   have htk := hT.ks.take i
   have htl : (KL.take i).length = i := by rw [List.length_take]; omega
   obtain ⟨ht1, ht2⟩ := take_ins hT.ks.asc h1x
   rw [show KL[i] = KL.getD i [] from by simp [h1x]] at ht1 ht2
   have hI := insT_0 ht1
   rw [ht2] at hI
   refine cx_skip ?_
   refine cx_keep rfl rfl ?_
   refine cx_seq ?_
   refine cx_block ?_
   refine cx_seq ?_
   refine cx_drawL 10 5000 (fun _ => false) (fun _ => true) [] ([(8, .box [.d (.int .i64 (insT (KL.take i) (KL.getD i [])).1.root), .d (.sl 3 ((insT (KL.take i) (KL.getD i [])).1.nodes.map TN.row))])]) [[6], [5], [7], [41, 42], [43], [40, 44], [45], [39], [39], [], [8, 46]] [[], [], [], [], [], [], [], [], [8], [], [8]] rfl ?_
   first | refine ⟨_, .inr ⟨rfl, _, rfl, .inl rfl, loc_q (q_ldN rfl rfl rfl)⟩, ?_⟩
   first | refine ⟨_, .inr ⟨rfl, _, rfl, .inl rfl, loc_q (q_mov rfl)⟩, ?_⟩
   first | refine ⟨_, .inr ⟨rfl, _, rfl, .inl rfl, loc_q (q_mov rfl)⟩, ?_⟩
   first | refine ⟨_, .inr ⟨rfl, _, rfl, .inl rfl, loc_q (q_ix rfl rfl (strD h1x))⟩, ?_⟩
   first | refine ⟨_, .inr ⟨rfl, _, rfl, .inl rfl, loc_q (q_load1_ptr rfl rfl rfl)⟩, ?_⟩ | refine ⟨_, .inr ⟨rfl, _, rfl, .inl rfl, loc_q (q_load1_ip rfl)⟩, ?_⟩ | refine ⟨_, .inr ⟨rfl, _, rfl, .inl rfl, loc_q (q_load1_rptr rfl rfl rfl rfl)⟩, ?_⟩ | refine ⟨_, .inr ⟨rfl, _, rfl, .inl rfl, loc_q (q_load1_rptr rfl rfl (by assumption) rfl)⟩, ?_⟩ | refine ⟨_, .inr ⟨rfl, _, rfl, .inl rfl, loc_q (q_load1_rptr rfl rfl (mapAt (by first | assumption | omega)) rfl)⟩, ?_⟩
   first | refine ⟨_, .inr ⟨rfl, _, rfl, .inl rfl, loc_call (fun i => 45 + 200 * i) false rfl (c_TreeInsert (ks := KL.take i) (key := (KL.getD i [])) (by first | assumption | omega | (simp; done) | (simp; omega)) (by first | assumption | omega | (simp; done) | (simp; omega)) (by first | assumption | omega | (simp; done) | (simp; omega))) hP (.inr ⟨rfl, rfl, rfl⟩) rfl rfl (fun h => by cases h)⟩, ?_⟩ | refine ⟨_, .inr ⟨rfl, _, rfl, .inl rfl, loc_call (fun i => 45 + 200 * i) true rfl (c_TreeInsert (ks := KL.take i) (key := (KL.getD i [])) (by first | assumption | omega | (simp; done) | (simp; omega)) (by first | assumption | omega | (simp; done) | (simp; omega)) (by first | assumption | omega | (simp; done) | (simp; omega))) hP (.inl ⟨rfl, (by repeat (first | exact lal_id _ rfl | exact LAL.nil | refine LAL.cons ?_ ?_ | exact la_id _ rfl | exact LA.lend (lend_whole rfl (by first | (simp; done) | (rw [List.length_map]; rfl))) | refine LA.agg ?_ | refine LA.fn ?_ | refine LA.lend ?_ | exact Lend.d _ | exact Lend.zs _ | exact lend_whole rfl (by first | (simp; done) | (rw [List.length_map]; rfl)) | refine Lend.ptr rfl ?_ | refine Lend.fn ?_ | exact LendL.nil | refine LendL.cons ?_ ?_))⟩) rfl rfl (fun _ => ⟨rfl, noisl_of (by repeat (first | exact trivial | refine ⟨noisl_map (fun _ => rfl), ?_⟩ | refine ⟨?_, ?_⟩))⟩)⟩, ?_⟩
   first | refine ⟨_, .inr ⟨rfl, _, rfl, .inl rfl, loc_q (q_mov rfl)⟩, ?_⟩
   first | refine ⟨_, .inr ⟨rfl, _, rfl, .inl rfl, loc_q (q_ext rfl rfl)⟩, ?_⟩
   first | refine ⟨_, .inr ⟨rfl, _, rfl, .inr ⟨rfl, rfl, .inr rfl, rfl, rfl⟩, loc_q (q_ext rfl rfl)⟩, ?_⟩
   first | refine ⟨_, .inr ⟨rfl, _, rfl, .inl rfl, loc_alloc⟩, ?_⟩
   refine ⟨⟨5000, .dead, []⟩, .inl ⟨rfl, rfl, rfl, locl_st rfl rfl rfl rfl rfl rfl rfl⟩, ?_⟩
   refine ⟨rfl, ?_⟩
   refine ax_q (q_mov rfl) ?_
   refine ax_nil ?_
   refine cx_keep rfl rfl ?_
   refine cx_seq ?_
   refine cx_drawL 10 5000 (fun _ => false) (fun _ => true) [] ([(10, .box [.d (.int .i64 (treeT (insA (KL.take i) (posS (KL.take i) (KL.getD i [])) (KL.getD i []))).root), .d (.sl 3 ((treeT (insA (KL.take i) (posS (KL.take i) (KL.getD i [])) (KL.getD i []))).nodes.map TN.row))])]) [[6], [5], [7], [50, 51], [52], [49, 53], [54], [48], [48], [], [10, 55]] [[], [], [], [], [], [], [], [], [10], [], [10]] rfl ?_
   first | refine ⟨_, .inr ⟨rfl, _, rfl, .inl rfl, loc_q (q_ldN rfl rfl rfl)⟩, ?_⟩
   first | refine ⟨_, .inr ⟨rfl, _, rfl, .inl rfl, loc_q (q_mov rfl)⟩, ?_⟩
   first | refine ⟨_, .inr ⟨rfl, _, rfl, .inl rfl, loc_q (q_mov rfl)⟩, ?_⟩
   first | refine ⟨_, .inr ⟨rfl, _, rfl, .inl rfl, loc_q (q_ix rfl rfl (strD h1x))⟩, ?_⟩
   first | refine ⟨_, .inr ⟨rfl, _, rfl, .inl rfl, loc_q (q_load1_ptr rfl rfl rfl)⟩, ?_⟩ | refine ⟨_, .inr ⟨rfl, _, rfl, .inl rfl, loc_q (q_load1_ip rfl)⟩, ?_⟩ | refine ⟨_, .inr ⟨rfl, _, rfl, .inl rfl, loc_q (q_load1_rptr rfl rfl rfl rfl)⟩, ?_⟩ | refine ⟨_, .inr ⟨rfl, _, rfl, .inl rfl, loc_q (q_load1_rptr rfl rfl (by assumption) rfl)⟩, ?_⟩ | refine ⟨_, .inr ⟨rfl, _, rfl, .inl rfl, loc_q (q_load1_rptr rfl rfl (mapAt (by first | assumption | omega)) rfl)⟩, ?_⟩
   first | refine ⟨_, .inr ⟨rfl, _, rfl, .inl rfl, loc_call (fun i => 54 + 200 * i) false rfl (c_sTreeInsert (ks := KL.take i) (key := (KL.getD i [])) (by first | assumption | omega | (simp; done) | (simp; omega)) (by first | assumption | omega | (simp; done) | (simp; omega)) (by first | assumption | omega | (simp; done) | (simp; omega)) (by first | assumption | omega | (simp; done) | (simp; omega))) hP (.inr ⟨rfl, rfl, rfl⟩) rfl rfl (fun h => by cases h)⟩, ?_⟩ | refine ⟨_, .inr ⟨rfl, _, rfl, .inl rfl, loc_call (fun i => 54 + 200 * i) true rfl (c_sTreeInsert (ks := KL.take i) (key := (KL.getD i [])) (by first | assumption | omega | (simp; done) | (simp; omega)) (by first | assumption | omega | (simp; done) | (simp; omega)) (by first | assumption | omega | (simp; done) | (simp; omega)) (by first | assumption | omega | (simp; done) | (simp; omega))) hP (.inl ⟨rfl, (by repeat (first | exact lal_id _ rfl | exact LAL.nil | refine LAL.cons ?_ ?_ | exact la_id _ rfl | exact LA.lend (lend_whole rfl (by first | (simp; done) | (rw [List.length_map]; rfl))) | refine LA.agg ?_ | refine LA.fn ?_ | refine LA.lend ?_ | exact Lend.d _ | exact Lend.zs _ | exact lend_whole rfl (by first | (simp; done) | (rw [List.length_map]; rfl)) | refine Lend.ptr rfl ?_ | refine Lend.fn ?_ | exact LendL.nil | refine LendL.cons ?_ ?_))⟩) rfl rfl (fun _ => ⟨rfl, noisl_of (by repeat (first | exact trivial | refine ⟨noisl_map (fun _ => rfl), ?_⟩ | refine ⟨?_, ?_⟩))⟩)⟩, ?_⟩
   first | refine ⟨_, .inr ⟨rfl, _, rfl, .inl rfl, loc_q (q_mov rfl)⟩, ?_⟩
   first | refine ⟨_, .inr ⟨rfl, _, rfl, .inl rfl, loc_q (q_ext rfl rfl)⟩, ?_⟩
   first | refine ⟨_, .inr ⟨rfl, _, rfl, .inr ⟨rfl, rfl, .inr rfl, rfl, rfl⟩, loc_q (q_ext rfl rfl)⟩, ?_⟩
   first | refine ⟨_, .inr ⟨rfl, _, rfl, .inl rfl, loc_alloc⟩, ?_⟩
   refine ⟨⟨5000, .dead, []⟩, .inl ⟨rfl, rfl, rfl, locl_st rfl rfl rfl rfl rfl rfl rfl⟩, ?_⟩
   refine ⟨rfl, ?_⟩
   refine ax_q (q_mov rfl) ?_
   refine ax_nil ?_
   refine cx_keep rfl rfl ?_
   refine cx_seq ?_
   refine cx_seq ?_
   refine cx_ops ?_
   refine ax_q (q_mov rfl) ?_
   rw [hI, ht2]
   refine ax_q (q_ibin rfl rfl rfl) ?_
   refine ax_q (q_mov rfl) ?_
   apply ax_or rfl rfl
   ·
    intro g
    have g := nF g
    refine ax_q (q_fadr_ptr rfl) ?_
    refine ax_q (q_load1_ptr rfl rfl rfl) ?_
    first | refine ax_q (q_lenS_map rfl) ?_ | refine ax_q (q_lenS_osl rfl) ?_ | refine ax_q (q_lenS_zs rfl) ?_ | refine ax_q (q_lenS rfl) ?_
    refine ax_q (q_fadr_ptr rfl) ?_
    refine ax_q (q_load1_ptr rfl rfl rfl) ?_
    first | refine ax_q (q_lenS_map rfl) ?_ | refine ax_q (q_lenS_osl rfl) ?_ | refine ax_q (q_lenS_zs rfl) ?_ | refine ax_q (q_lenS rfl) ?_
    refine ax_q (q_ibin rfl rfl rfl) ?_
    exact ax_nil ⟨rfl, by repeat (first | exact trivial | refine ⟨rfl, ?_⟩ | refine ⟨?_, ?_⟩)⟩
   refine ax_nil ?_
   refine cx_keep rfl rfl ?_
   refine cx_cond rfl (fun h2 => ?_) (fun h2 => ?_)
   ·
    have h2 := (fun h => (or_T h).imp nT nT) h2
    exfalso; rcases h2 with h | h <;> exact h rfl
   ·
    have h2 := (fun h => And.intro (nF (or_F h).1) (nF (or_F h).2)) h2
    refine cx_skip ?_
    refine cx_keep rfl rfl ?_
    refine cx_ops ?_
    refine ax_q (q_ldN rfl rfl rfl) ?_
    refine ax_e (e_st rfl rfl rfl rfl rfl rfl rfl) ?_
    refine ax_nil ?_
    refine cx_keep rfl rfl ?_
    refine cx_ops ?_
    refine ax_q (q_mov rfl) ?_
    refine ax_qe (r' := int ((i + 1 : Nat) : Int)) (q_ibin rfl rfl rfl) (by rw [wi (by omega) (by omega)]; rfl) ?_
    refine ax_q (q_mov rfl) ?_
    refine ax_nil ?_
    exact ⟨_, i + 1, by omega, ⟨by omega, rfl⟩, by repeat (first | exact trivial | refine ⟨rfl, ?_⟩ | refine ⟨?_, ?_⟩)⟩
  ·
   have h1 := dF h1
   obtain rfl : i = KL.length := by omega
   rw [List.take_length]
   refine cx_exit rfl ?_
   refine cx_keep rfl rfl ?_
   refine cx_seq ?_
   refine cx_ops ?_
   refine ax_q (q_mov rfl) ?_
   obtain ⟨a00, a01⟩ := @atF_bounds more 0 7 (by omega)
   obtain ⟨a10, a11⟩ := @atF_bounds more 1 7 (by omega)
   obtain ⟨a20, a21⟩ := @atF_bounds more 2 7 (by omega)
   obtain ⟨a30, a31⟩ := @atF_bounds more 3 7 (by omega)
   first | refine ax_call rfl (vc_pure0 (c_at  ?_ ?_ ?_) hP rfl rfl ?_) | refine ax_call rfl (vc_lend0 (c_at  ?_ ?_ ?_) hP (by repeat (first | exact lal_id _ rfl | exact LAL.nil | refine LAL.cons ?_ ?_ | exact la_id _ rfl | exact LA.lend (lend_whole rfl (by first | (simp; done) | (rw [List.length_map]; rfl))) | refine LA.agg ?_ | refine LA.fn ?_ | refine LA.lend ?_ | exact Lend.d _ | exact Lend.zs _ | exact lend_whole rfl (by first | (simp; done) | (rw [List.length_map]; rfl)) | refine Lend.ptr rfl ?_ | refine Lend.fn ?_ | exact LendL.nil | refine LendL.cons ?_ ?_)) rfl rfl ?_)
   ·
    first | assumption | omega | (simp; done) | (simp; omega)
   ·
    first | assumption | omega | (simp; done) | (simp; omega)
   ·
    first | assumption | omega | (simp; done) | (simp; omega)
   refine ax_q (q_add rfl rfl (by omega)) ?_
   first | refine ax_q (q_convB rfl) ?_ | refine ax_q (q_convI rfl (by omega)) ?_ | refine ax_q (q_convU8 rfl) ?_ | refine ax_q (q_conv rfl) ?_
   refine ax_q (q_mov rfl) ?_
   first | refine ax_call rfl (vc_pure0 (c_at  ?_ ?_ ?_) hP rfl rfl ?_) | refine ax_call rfl (vc_lend0 (c_at  ?_ ?_ ?_) hP (by repeat (first | exact lal_id _ rfl | exact LAL.nil | refine LAL.cons ?_ ?_ | exact la_id _ rfl | exact LA.lend (lend_whole rfl (by first | (simp; done) | (rw [List.length_map]; rfl))) | refine LA.agg ?_ | refine LA.fn ?_ | refine LA.lend ?_ | exact Lend.d _ | exact Lend.zs _ | exact lend_whole rfl (by first | (simp; done) | (rw [List.length_map]; rfl)) | refine Lend.ptr rfl ?_ | refine Lend.fn ?_ | exact LendL.nil | refine LendL.cons ?_ ?_)) rfl rfl ?_)
   ·
    first | assumption | omega | (simp; done) | (simp; omega)
   ·
    first | assumption | omega | (simp; done) | (simp; omega)
   ·
    first | assumption | omega | (simp; done) | (simp; omega)
   refine ax_q (q_add rfl rfl (by omega)) ?_
   first | refine ax_q (q_convB rfl) ?_ | refine ax_q (q_convI rfl (by omega)) ?_ | refine ax_q (q_convU8 rfl) ?_ | refine ax_q (q_conv rfl) ?_
   refine ax_e (e_bsliceD (rows := (keyF (atF more 0 7) (atF more 1 7)).map byteRow) rfl) ?_
   refine ax_qe (r' := .d (.str (keyF (atF more 0 7) (atF more 1 7)))) (q_b2s rfl (src_sl 1 _) rfl ⟨0, 1, 0, 0, .inr (.inr rfl)⟩) (rfl) ?_
   have hFR := @keyF_len (atF more 0 7) (atF more 1 7)
   generalize keyF (atF more 0 7) (atF more 1 7) = FR at hFR ⊢
   refine ax_q (q_mov rfl) ?_
   refine ax_nil ?_
   refine cx_keep rfl rfl ?_
   refine cx_seq ?_
   refine cx_ops ?_
   refine ax_q (q_mov rfl) ?_
   first | refine ax_call rfl (vc_pure0 (c_at  ?_ ?_ ?_) hP rfl rfl ?_) | refine ax_call rfl (vc_lend0 (c_at  ?_ ?_ ?_) hP (by repeat (first | exact lal_id _ rfl | exact LAL.nil | refine LAL.cons ?_ ?_ | exact la_id _ rfl | exact LA.lend (lend_whole rfl (by first | (simp; done) | (rw [List.length_map]; rfl))) | refine LA.agg ?_ | refine LA.fn ?_ | refine LA.lend ?_ | exact Lend.d _ | exact Lend.zs _ | exact lend_whole rfl (by first | (simp; done) | (rw [List.length_map]; rfl)) | refine Lend.ptr rfl ?_ | refine Lend.fn ?_ | exact LendL.nil | refine LendL.cons ?_ ?_)) rfl rfl ?_)
   ·
    first | assumption | omega | (simp; done) | (simp; omega)
   ·
    first | assumption | omega | (simp; done) | (simp; omega)
   ·
    first | assumption | omega | (simp; done) | (simp; omega)
   refine ax_q (q_add rfl rfl (by omega)) ?_
   first | refine ax_q (q_convB rfl) ?_ | refine ax_q (q_convI rfl (by omega)) ?_ | refine ax_q (q_convU8 rfl) ?_ | refine ax_q (q_conv rfl) ?_
   refine ax_q (q_mov rfl) ?_
   first | refine ax_call rfl (vc_pure0 (c_at  ?_ ?_ ?_) hP rfl rfl ?_) | refine ax_call rfl (vc_lend0 (c_at  ?_ ?_ ?_) hP (by repeat (first | exact lal_id _ rfl | exact LAL.nil | refine LAL.cons ?_ ?_ | exact la_id _ rfl | exact LA.lend (lend_whole rfl (by first | (simp; done) | (rw [List.length_map]; rfl))) | refine LA.agg ?_ | refine LA.fn ?_ | refine LA.lend ?_ | exact Lend.d _ | exact Lend.zs _ | exact lend_whole rfl (by first | (simp; done) | (rw [List.length_map]; rfl)) | refine Lend.ptr rfl ?_ | refine Lend.fn ?_ | exact LendL.nil | refine LendL.cons ?_ ?_)) rfl rfl ?_)
   ·
    first | assumption | omega | (simp; done) | (simp; omega)
   ·
    first | assumption | omega | (simp; done) | (simp; omega)
   ·
    first | assumption | omega | (simp; done) | (simp; omega)
   refine ax_q (q_add rfl rfl (by omega)) ?_
   first | refine ax_q (q_convB rfl) ?_ | refine ax_q (q_convI rfl (by omega)) ?_ | refine ax_q (q_convU8 rfl) ?_ | refine ax_q (q_conv rfl) ?_
   refine ax_e (e_bsliceD (rows := (keyF (atF more 2 7) (atF more 3 7)).map byteRow) rfl) ?_
   refine ax_qe (r' := .d (.str (keyF (atF more 2 7) (atF more 3 7)))) (q_b2s rfl (src_sl 1 _) rfl ⟨0, 1, 0, 0, .inr (.inr rfl)⟩) (rfl) ?_
   have hTO := @keyF_len (atF more 2 7) (atF more 3 7)
   generalize keyF (atF more 2 7) (atF more 3 7) = TO at hTO ⊢
   refine ax_q (q_mov rfl) ?_
   refine ax_nil ?_
   refine cx_keep rfl rfl ?_
   refine cx_seq ?_
   refine cx_ops ?_
   refine ax_q (q_ldN rfl rfl rfl) ?_
   refine ax_q (q_mov rfl) ?_
   refine ax_q (q_mov rfl) ?_
   first | refine ax_call rfl (vc_pure0 (c_TreeRange (ks := KL) (a := FR) (b := TO) ?_ ?_ ?_) hP rfl rfl ?_) | refine ax_call rfl (vc_lend0 (c_TreeRange (ks := KL) (a := FR) (b := TO) ?_ ?_ ?_) hP (by repeat (first | exact lal_id _ rfl | exact LAL.nil | refine LAL.cons ?_ ?_ | exact la_id _ rfl | exact LA.lend (lend_whole rfl (by first | (simp; done) | (rw [List.length_map]; rfl))) | refine LA.agg ?_ | refine LA.fn ?_ | refine LA.lend ?_ | exact Lend.d _ | exact Lend.zs _ | exact lend_whole rfl (by first | (simp; done) | (rw [List.length_map]; rfl)) | refine Lend.ptr rfl ?_ | refine Lend.fn ?_ | exact LendL.nil | refine LendL.cons ?_ ?_)) rfl rfl ?_)
   ·
    exact hT.ks
   ·
    first | assumption | omega | (simp; done) | (simp; omega)
   ·
    first | assumption | omega | (simp; done) | (simp; omega)
   have hfl := List.length_filter_le (fun x => !(Op.bytesLess x FR || !Op.bytesLess x TO)) KL
   refine ax_q (q_mov rfl) ?_
   refine ax_q (q_ext rfl rfl) ?_
   refine ax_q (q_ext rfl rfl) ?_
   refine ax_q (q_mov rfl) ?_
   refine ax_q (q_mov rfl) ?_
   refine ax_nil ?_
   refine cx_keep rfl rfl ?_
   refine cx_seq ?_
   refine cx_ops ?_
   refine ax_q (q_mov rfl) ?_
   refine ax_nil ?_
   refine cx_keep rfl rfl ?_
   refine cx_seq ?_
   refine cx_seq ?_
   refine cx_ops ?_
   refine ax_q (q_mov rfl) ?_
   refine ax_nil ?_
   refine cx_keep rfl rfl ?_
   refine cx_block ?_
   refine cx_loopU (fun n k => k ≤ KL.length ∧ n = KL.length - k) (fun k : Nat => [(17, int k), (16, int ((KL.take k).filter (fun x => !(Op.bytesLess x FR || !Op.bytesLess x TO))).length)]) (fun k => [(6, .box [.d (.int .i64 (treeT KL).root), .d (.sl 3 ((treeT KL).nodes.map TN.row))])]) ⟨_, 0, ⟨Nat.zero_le _, rfl⟩, by repeat (first | exact trivial | refine ⟨rfl, ?_⟩ | refine ⟨?_, ?_⟩)⟩ ?_
   rintro n i ⟨hi, rfl⟩
   refine cx_seq ?_
   refine cx_seq ?_
   refine cx_ops ?_
   refine ax_q (q_mov rfl) ?_
   refine ax_q (q_mov rfl) ?_
   first | refine ax_q (q_lenS_map rfl) ?_ | refine ax_q (q_lenS_osl rfl) ?_ | refine ax_q (q_lenS_zs rfl) ?_ | refine ax_q (q_lenS rfl) ?_
   refine ax_q (q_ibin rfl rfl rfl) ?_
   refine ax_nil ?_
   refine cx_keep rfl rfl ?_
   refine cx_cond rfl (fun h3 => ?_) (fun h3 => ?_)
   ·
    have h3 := dT h3
    have h3x : i < KL.length := by omega
    have hft := List.length_filter_le (fun x => !(Op.bytesLess x FR || !Op.bytesLess x TO)) (KL.take i)
    rw [List.length_take] at hft
    refine cx_skip ?_
    refine cx_keep rfl rfl ?_
    refine cx_seq ?_
    refine cx_block ?_
    refine cx_seq ?_
    refine cx_ops ?_
    refine ax_q (q_mov rfl) ?_
    refine ax_q (q_mov rfl) ?_
    refine ax_q (q_ix rfl rfl (mapAt h3x)) ?_
    first | refine ax_q (q_load1_ptr rfl rfl rfl) ?_ | refine ax_q (q_load1_ip rfl) ?_ | refine ax_q (q_load1_rptr rfl rfl rfl rfl) ?_ | refine ax_q (q_load1_rptr rfl rfl (by assumption) rfl) ?_ | refine ax_q (q_load1_rptr rfl rfl (mapAt (by first | assumption | omega)) rfl) ?_
    refine ax_q (q_mov rfl) ?_
    refine ax_q (q_sbin rfl rfl rfl) ?_
    refine ax_q (q_mov rfl) ?_
    apply ax_and rfl rfl
    ·
     intro g
     refine ax_q (q_mov rfl) ?_
     refine ax_q (q_mov rfl) ?_
     refine ax_q (q_ix rfl rfl (mapAt h3x)) ?_
     first | refine ax_q (q_load1_ptr rfl rfl rfl) ?_ | refine ax_q (q_load1_ip rfl) ?_ | refine ax_q (q_load1_rptr rfl rfl rfl rfl) ?_ | refine ax_q (q_load1_rptr rfl rfl (by assumption) rfl) ?_ | refine ax_q (q_load1_rptr rfl rfl (mapAt (by first | assumption | omega)) rfl) ?_
     refine ax_q (q_mov rfl) ?_
     refine ax_q (q_sbin rfl rfl rfl) ?_
     exact ax_nil ⟨rfl, by repeat (first | exact trivial | refine ⟨rfl, ?_⟩ | refine ⟨?_, ?_⟩)⟩
    refine ax_nil ?_
    refine cx_keep rfl rfl ?_
    refine cx_cond rfl (fun h4 => ?_) (fun h4 => ?_)
    ·
     have hp : (fun x => !(Op.bytesLess x FR || !Op.bytesLess x TO)) KL[i] = true := by
      show (!(Op.bytesLess KL[i] FR || !Op.bytesLess KL[i] TO)) = true
      rw [Bool.not_or, Bool.not_not]; exact h4
     obtain ⟨f1, f2, f3⟩ := filt_at (P := (fun x => !(Op.bytesLess x FR || !Op.bytesLess x TO))) h3x hp
     refine cx_seq ?_
     refine cx_seq ?_
     refine cx_draw ?_
     refine ax_q (q_mov rfl) ?_
     refine ax_q (q_mov rfl) ?_
     first | refine ax_q (q_lenS_map rfl) ?_ | refine ax_q (q_lenS_osl rfl) ?_ | refine ax_q (q_lenS_zs rfl) ?_ | refine ax_q (q_lenS rfl) ?_
     refine ax_q (q_ibin rfl rfl rfl) ?_
     refine ax_q (q_mov rfl) ?_
     apply ax_or rfl rfl
     ·
      intro g
      have g := dF g
      refine ax_q (q_mov rfl) ?_
      refine ax_q (q_mov rfl) ?_
      refine ax_q (q_ix (row := strRow ((KL.filter (fun x => !(Op.bytesLess x FR || !Op.bytesLess x TO))).getD ((KL.take i).filter (fun x => !(Op.bytesLess x FR || !Op.bytesLess x TO))).length [])) rfl rfl (strD f1)) ?_
      first | refine ax_q (q_load1_ptr rfl rfl rfl) ?_ | refine ax_q (q_load1_ip rfl) ?_ | refine ax_q (q_load1_rptr rfl rfl rfl rfl) ?_ | refine ax_q (q_load1_rptr rfl rfl (by assumption) rfl) ?_ | refine ax_q (q_load1_rptr rfl rfl (mapAt (by first | assumption | omega)) rfl) ?_
      refine ax_q (q_mov rfl) ?_
      refine ax_q (q_mov rfl) ?_
      refine ax_q (q_ix rfl rfl (mapAt h3x)) ?_
      first | refine ax_q (q_load1_ptr rfl rfl rfl) ?_ | refine ax_q (q_load1_ip rfl) ?_ | refine ax_q (q_load1_rptr rfl rfl rfl rfl) ?_ | refine ax_q (q_load1_rptr rfl rfl (by assumption) rfl) ?_ | refine ax_q (q_load1_rptr rfl rfl (mapAt (by first | assumption | omega)) rfl) ?_
      refine ax_q (q_sbin rfl rfl rfl) ?_
      exact ax_nil ⟨rfl, by repeat (first | exact trivial | refine ⟨rfl, ?_⟩ | refine ⟨?_, ?_⟩)⟩
     refine ax_nil ?_
     refine cx_keep rfl rfl ?_
     refine cx_cond rfl (fun h5 => ?_) (fun h5 => ?_)
     ·
      have h5 := (fun h => (or_T h).imp dT nT) h5
      exfalso
      rcases h5 with h | h
      ·
       exact Nat.not_le_of_lt f1 (Int.ofNat_le.1 h)
      ·
       exact h f2
     ·
      have h5 := (fun h => And.intro (dF (or_F h).1) (nF (or_F h).2)) h5
      refine cx_skip ?_
      refine cx_keep rfl rfl ?_
      refine cx_ops ?_
      refine ax_q (q_mov rfl) ?_
      refine ax_qe (r' := int ((((KL.take i).filter (fun x => !(Op.bytesLess x FR || !Op.bytesLess x TO))).length + 1 : Nat) : Int)) (q_ibin rfl rfl rfl) (by rw [wi (by omega) (by omega)]; rfl) ?_
      refine ax_q (q_mov rfl) ?_
      refine ax_nil ?_
      refine cx_keep rfl rfl ?_
      refine cx_ops ?_
      refine ax_q (q_mov rfl) ?_
      refine ax_qe (r' := int ((i + 1 : Nat) : Int)) (q_ibin rfl rfl rfl) (by rw [wi (by omega) (by omega)]; rfl) ?_
      refine ax_q (q_mov rfl) ?_
      refine ax_nil ?_
      exact ⟨_, i + 1, by omega, ⟨by omega, rfl⟩, by rw [f3]; exact (by repeat (first | exact trivial | refine ⟨rfl, ?_⟩ | refine ⟨?_, ?_⟩))⟩
    ·
     have hp : (fun x => !(Op.bytesLess x FR || !Op.bytesLess x TO)) KL[i] = false := by
      show (!(Op.bytesLess KL[i] FR || !Op.bytesLess KL[i] TO)) = false
      rw [Bool.not_or, Bool.not_not]; exact h4
     have f3 := filt_no (P := (fun x => !(Op.bytesLess x FR || !Op.bytesLess x TO))) h3x hp
     refine cx_skip ?_
     refine cx_keep rfl rfl ?_
     refine cx_ops ?_
     refine ax_q (q_mov rfl) ?_
     refine ax_qe (r' := int ((i + 1 : Nat) : Int)) (q_ibin rfl rfl rfl) (by rw [wi (by omega) (by omega)]; rfl) ?_
     refine ax_q (q_mov rfl) ?_
     refine ax_nil ?_
     exact ⟨_, i + 1, by omega, ⟨by omega, rfl⟩, by rw [f3]; exact (by repeat (first | exact trivial | refine ⟨rfl, ?_⟩ | refine ⟨?_, ?_⟩))⟩
   ·
    have h3 := dF h3
    obtain rfl : i = KL.length := by omega
    rw [List.take_length]
    refine cx_exit rfl ?_
    refine cx_keep rfl rfl ?_
    refine cx_seq ?_
    refine cx_ops ?_
    refine ax_q (q_ldN rfl rfl rfl) ?_
    refine ax_call rfl (vc_pure (c_TreeDepth (ks := KL) hT.ks) hP rfl ?_)
    rintro r h ⟨DD, d1, d2, d3, rfl, rfl⟩
    refine ⟨id, [], ⟨rfl, rfl, rfl, rfl, rfl, fun h => absurd h Bool.false_ne_true⟩, ?_⟩
    refine ax_q (q_mov rfl) ?_
    refine ax_q (q_ext rfl rfl) ?_
    refine ax_q (q_ext rfl rfl) ?_
    refine ax_q (q_mov rfl) ?_
    refine ax_q (q_mov rfl) ?_
    refine ax_nil ?_
    refine cx_keep rfl rfl ?_
    refine cx_seq ?_
    refine cx_ops ?_
    refine ax_q (q_mov rfl) ?_
    refine ax_nil ?_
    refine cx_keep rfl rfl ?_
    refine cx_seq ?_
    refine cx_seq ?_
    refine cx_ops ?_
    refine ax_q (q_mov rfl) ?_
    refine ax_nil ?_
    refine cx_keep rfl rfl ?_
    refine cx_block ?_
    refine cx_loopU (fun n (p : Nat × Nat) => p.1 < DD ∧ n = 20 - p.1 ∧ p.2 = 2 ^ p.1 ∧ p.2 ≤ 512) (fun p => [(21, int ((p.1 + 1 : Nat) : Int)), (20, int p.2)]) (fun k => [(6, .box [.d (.int .i64 (treeT KL).root), .d (.sl 3 ((treeT KL).nodes.map TN.row))])]) ⟨_, (0, 1), ⟨by simp only; omega, rfl, rfl, by simp only; omega⟩, by repeat (first | exact trivial | refine ⟨rfl, ?_⟩ | refine ⟨?_, ?_⟩)⟩ ?_
    rintro n ⟨j, R⟩ ⟨hj, rfl, hR, hR2⟩
    simp only at hj hR hR2 ⊢
    refine cx_seq ?_
    refine cx_seq ?_
    refine cx_ops ?_
    refine ax_q (q_mov rfl) ?_
    refine ax_q (q_mov rfl) ?_
    refine ax_q (q_ibin rfl rfl rfl) ?_
    refine ax_q (q_mov rfl) ?_
    apply ax_and rfl rfl
    ·
     intro g
     have g := dT g
     refine ax_q (q_mov rfl) ?_
     refine ax_q (q_ibin rfl rfl rfl) ?_
     exact ax_nil ⟨rfl, by repeat (first | exact trivial | refine ⟨rfl, ?_⟩ | refine ⟨?_, ?_⟩)⟩
    refine ax_nil ?_
    refine cx_keep rfl rfl ?_
    refine cx_cond rfl (fun h6 => ?_) (fun h6 => ?_)
    ·
     have h6 := (fun h => And.intro (dT (and_T h).1) (dT (and_T h).2)) h6
     refine cx_skip ?_
     refine cx_keep rfl rfl ?_
     refine cx_seq ?_
     refine cx_block ?_
     refine cx_ops ?_
     refine ax_q (q_mov rfl) ?_
     refine ax_qe (r' := int ((R * 2 : Nat) : Int)) (q_ibin rfl rfl rfl) (by rw [wi (by omega) (by omega)]; exact congrArg AM.int (by omega)) ?_
     refine ax_q (q_mov rfl) ?_
     refine ax_nil ?_
     refine cx_keep rfl rfl ?_
     refine cx_ops ?_
     refine ax_q (q_mov rfl) ?_
     refine ax_qe (r' := int ((j + 1 + 1 : Nat) : Int)) (q_ibin rfl rfl rfl) (by rw [wi (by omega) (by omega)]; rfl) ?_
     refine ax_q (q_mov rfl) ?_
     refine ax_nil ?_
     exact ⟨_, (j + 1, R * 2), by simp only; omega, ⟨by simp only; omega, rfl, by simp only; rw [hR, Nat.pow_succ], by simp only; have := Nat.pow_le_pow_right (show 0 < 2 by omega) (show j + 1 ≤ 9 by omega); rw [Nat.pow_succ, ← hR] at this; omega⟩, by repeat (first | exact trivial | refine ⟨rfl, ?_⟩ | refine ⟨?_, ?_⟩)⟩
    ·
     have h6 := (fun h => (and_F h).imp dF dF) h6
     obtain rfl : DD = j + 1 := by omega
     rw [Nat.add_sub_cancel, ← hR] at d3
     refine cx_exit rfl ?_
     refine cx_keep rfl rfl ?_
     refine cx_seq ?_
     refine cx_ops ?_
     refine ax_q (q_mov rfl) ?_
     refine ax_q (q_ibin rfl rfl rfl) ?_
     refine ax_q (q_mov rfl) ?_
     apply ax_and rfl rfl
     ·
      intro g
      have g := dT g
      refine ax_q (q_mov rfl) ?_
      refine ax_q (q_mov rfl) ?_
      first | refine ax_q (q_lenS_map rfl) ?_ | refine ax_q (q_lenS_osl rfl) ?_ | refine ax_q (q_lenS_zs rfl) ?_ | refine ax_q (q_lenS rfl) ?_
      refine ax_q (q_ibin rfl rfl rfl) ?_
      exact ax_nil ⟨rfl, by repeat (first | exact trivial | refine ⟨rfl, ?_⟩ | refine ⟨?_, ?_⟩)⟩
     refine ax_q (q_mov rfl) ?_
     apply ax_and rfl rfl
     ·
      intro g
      have g := (fun h => And.intro (dT (and_T h).1) (dT (and_T h).2)) g
      refine ax_q (q_mov rfl) ?_
      refine ax_q (q_ibin rfl rfl rfl) ?_
      exact ax_nil ⟨rfl, by repeat (first | exact trivial | refine ⟨rfl, ?_⟩ | refine ⟨?_, ?_⟩)⟩
     refine ax_q (q_mov rfl) ?_
     apply ax_and rfl rfl
     ·
      intro g
      have g := (fun h => And.intro ((fun h => And.intro (dT (and_T h).1) (dT (and_T h).2)) (and_T h).1) (dT (and_T h).2)) g
      refine ax_q (q_mov rfl) ?_
      refine ax_q (q_ibin rfl rfl rfl) ?_
      exact ax_nil ⟨rfl, by repeat (first | exact trivial | refine ⟨rfl, ?_⟩ | refine ⟨?_, ?_⟩)⟩
     refine ax_q (q_mov rfl) ?_
     apply ax_and rfl rfl
     ·
      intro g
      have g := (fun h => And.intro ((fun h => And.intro ((fun h => And.intro (dT (and_T h).1) (dT (and_T h).2)) (and_T h).1) (dT (and_T h).2)) (and_T h).1) (dT (and_T h).2)) g
      refine ax_q (q_mov rfl) ?_
      refine ax_q (q_ibin rfl rfl rfl) ?_
      refine ax_q (q_mov rfl) ?_
      apply ax_or rfl rfl
      ·
       intro g
       have g := dF g
       refine ax_q (q_mov rfl) ?_
       refine ax_q (q_mov rfl) ?_
       first | refine ax_q (q_lenS_map rfl) ?_ | refine ax_q (q_lenS_osl rfl) ?_ | refine ax_q (q_lenS_zs rfl) ?_ | refine ax_q (q_lenS rfl) ?_
       refine ax_q (q_ibin rfl rfl rfl) ?_
       exact ax_nil ⟨rfl, by repeat (first | exact trivial | refine ⟨rfl, ?_⟩ | refine ⟨?_, ?_⟩)⟩
      exact ax_nil ⟨rfl, by repeat (first | exact trivial | refine ⟨rfl, ?_⟩ | refine ⟨?_, ?_⟩)⟩
     refine ax_q (q_mov rfl) ?_
     refine ax_nil ?_
     refine cx_keep rfl rfl ?_
     refine cx_ret (ret0 rfl rfl ?_)
     exact ⟨congrArg AM.bool (range_end d3), rfl⟩

theorem own : ownKnob Try.prog.godebug = none := by kernel_rfl
theorem laid : laidOutB Try.prog = true := by kernel_rfl
theorem closedTs : closedT Try.prog [5, 22] = true := by kernel_rfl
theorem con (rows : List (List D)) (h : HasAll Try.prog Try.f4.params.toList rows) : Con Try.prog noMv 4 (argsAV Try.prog Try.f4.params.toList rows) [] (fun r h => r = AM.bool true ∧ h = []) := by
  rw [Try.params4] at h ⊢
  obtain ⟨d0, r0, rfl, h0, h⟩ := h
  obtain ⟨d1, r1, rfl, h1, h⟩ := h
  obtain rfl := h
  obtain ⟨a0, rfl, w0⟩ := (dec_slice (sz := 1) Try.underlying22 (by kernel_rfl) (dec_byte Try.underlying5)) h0
  obtain ⟨a1, rfl, w1⟩ := (dec_slice (sz := 1) Try.underlying22 (by kernel_rfl) (dec_byte Try.underlying5)) h1
  have e : argsAV Try.prog [22, 22] [[.sl 1 (a0.map byteRow)], [.sl 1 (a1.map byteRow)]] = [.d (.sl 1 (a0.map byteRow)), .d (.sl 1 (a1.map byteRow))] := by
    first | (simp only [argsAV, argAV, Try.underlying22]; done) | (simp only [argsAV, argAV, Try.underlying22]; rfl)
  show Con Try.prog noMv 4 (argsAV Try.prog [22, 22] [[.sl 1 (a0.map byteRow)], [.sl 1 (a1.map byteRow)]]) [] _
  rw [e]
  exact c_FnRange w0 w1
set_option maxRecDepth 100000 in
theorem lifted (os : Os) (started : os.Started) (H : Type) (enc : TypeId × Value → H) :
    ReturnsInHanded {} Try.checked os 4 .any (Rows.fnRangeSpec.pre6 enc Try.prog Try.f4 Rows.fnRangeRow.domain false) (Rows.fnRangeSpec.post enc Try.prog Try.f4 false true false false) := by
  refine returnsInHanded_of_change (C := Try.checked) own started (by kernel_rfl) Try.func4
    (ChangeSpec.witness6 (enc := enc) (C := Try.checked) false ⟨#[], #[.slice none 0 0, .slice none 0 0], []⟩ 8 (by kernel_rfl) (by kernel_rfl) (by kernel_rfl) (by kernel_rfl)) ?_
  intro W base args ds gs before hval hW hcnd _
  refine law_contract closedTs laid (by kernel_rfl) rfl rfl Try.underlying4 con (fun hl => ?_) hval hW
  match ds, hl with
  | [x0, x1], _ => rfl
theorem over : Rows.fnRangeRow.holds Try.pinned (OpenSpec.ofChange Rows.fnRangeSpec) :=
  OpenClaim.holds_of_wide 4 Try.f4 rfl rfl rfl rfl rfl rfl rfl ⟨rfl, rfl, rfl, rfl, rfl⟩ rfl rfl rfl rfl rfl (by kernel_rfl) Try.func4 (by kernel_rfl)
    (of_decide_eq_true (by kernel_rfl)) (by unfold Func.isWrapper; first | (rw [if_pos (by decide +kernel)]; kernel_rfl) | (rw [if_neg (by decide +kernel)]; exact ⟨rfl, rfl⟩))
    (fun os started H enc _ => lifted os started H enc)
theorem proved : Rows.FnRangeSaid := over
end fnRange
end Go.Proofs.Ytiapgkpjnadebaa
#print axioms Go.Proofs.Ytiapgkpjnadebaa.fnRange.proved
