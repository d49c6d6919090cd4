/- The law FnTree of the given program returns true for all arguments, and its arguments read behind the call as they read before: the statement FnTreeSaid, with no condition. -/
import Derived.Test.YtiapgkpjnadebaaW1
import Derived.Test.YtiapgkpjnadebaaRows
namespace Go.Proofs.Ytiapgkpjnadebaa
open Go Go.AM Go.ChangeShapes Go.RowKit
set_option linter.unusedVariables false
set_option linter.unusedSimpArgs false
namespace fnTree
set_option maxRecDepth 10000
/- loop.example/g00332/laws.FnTree -/
def k_c_FnTree : XCode :=
 .seq (.ops [.op (some 4) (.mov (.k (.bool false)))])
 (.keep [0, 1] (.seq (.seq (.ops [.op (some 27) (.mov (.t 0)),
   .op (some 28) (.lenS (.t 27)),
   .op (some 29) (.bin .gtr (.t 28) (.k (.int .i64 1048576))),
   .op (some 30) (.mov (.t 29)),
   .andor 34 false 3 30 [.op (some 31) (.mov (.t 1)), .op (some 32) (.lenS (.t 31)), .op (some 33) (.bin .gtr (.t 32) (.k (.int .i64 1048576)))] (.t 33)])
  (.keep [0, 1, 34] (.cond (.t 34)
  (.seq (.ops [.op (some 4) (.mov (.k (.bool true)))])
   (.keep [4] (.ret)))
  (.skip))))
 (.keep [0, 1] (.seq (.ops [.op (some 35) (.mov (.t 0)),
   .call (some 36) 5 [.t 35],
   .op (some 5) (.mov (.t 36))])
 (.keep [1, 5] (.seq (.ops [.call (some 37) 6 [],
   .op (some 6) (.alloc [.int .i64 0, .nils 3]),
   .op none (.store 2 (.t 6) (.t 37))])
 (.keep [1, 5, 6] (.seq (.seq (.ops [.op (some 7) (.mov (.k (.int .i64 0)))])
  (.keep [1, 5, 6, 7] (.block 0 (.loop (.seq (.seq (.ops [.op (some 38) (.mov (.t 7)),
     .op (some 39) (.mov (.t 5)),
     .op (some 40) (.lenS (.t 39)),
     .op (some 41) (.bin .lss (.t 38) (.t 40))])
   (.keep [1, 5, 6, 7, 41] (.cond (.t 41)
    (.skip)
    (.exit 0))))
   (.keep [1, 5, 6, 7] (.seq (.block 1 (.seq (.ops [.op (some 44) (.mov (.t 7)),
     .op (some 45) (.bin .mul (.t 44) (.k (.int .i64 7))),
     .op (some 46) (.mov (.t 1)),
     .call (some 47) 7 [.t 46, .k (.int .i64 0), .k (.int .i64 5)],
     .op (some 48) (.bin .add (.t 45) (.t 47)),
     .op (some 49) (.mov (.t 5)),
     .op (some 50) (.lenS (.t 49)),
     .op (some 51) (.bin .rem (.t 48) (.t 50)),
     .op (some 8) (.mov (.t 51))])
    (.keep [1, 5, 6, 7, 8] (.seq (.drawE [[], [], [], [1, 2], [1, 2, 3], [0, 1, 2, 3, 4], [0, 1, 2, 3, 4, 5], [0, 1, 2, 3, 4, 5, 6], [0, 1, 2, 3, 4, 5, 6], [], [0, 1, 2, 3, 4, 5, 6, 7, 9], [0, 1, 2, 3, 4, 5, 6, 7, 8, 9, 10]] [.op (some 53) (.loadN 2 (.t 6)),
     .op (some 54) (.mov (.t 5)),
     .op (some 55) (.mov (.t 8)),
     .op (some 56) (.iadr 1 (.t 54) (.t 55)),
     .op (some 57) (.load1 (.t 56)),
     .call (some 58) 8 [.t 53, .t 57],
     .op (some 52) (.mov (.t 58)),
     .op (some 59) (.ext (.t 52) 0),
     .op (some 60) (.ext (.t 52) 1),
     .op (some 9) (.alloc [.int .i64 0, .nils 3]),
     .op none (.store 2 (.t 9) (.t 59))]
     [.op (some 10) (.mov (.t 60))])
    (.keep [1, 5, 6, 7, 9, 10] (.seq (.seq (.ops [.op (some 61) (.mov (.t 10)),
      .op (some 62) (.bin .eql (.t 61) (.k (.int .i64 9)))])
    (.keep [1, 5, 6, 7, 9, 10, 62] (.cond (.t 62)
     (.exit 1)
     (.skip))))
    (.keep [1, 5, 6, 7, 9, 10] (.seq (.seq (.ops [.op (some 63) (.mov (.t 10)),
      .op (some 64) (.bin .neq (.t 63) (.k (.int .i64 0)))])
    (.keep [1, 5, 6, 7, 9, 64] (.cond (.t 64)
     (.seq (.ops [.op (some 4) (.mov (.k (.bool false)))])
     (.keep [4] (.ret)))
     (.skip))))
    (.keep [1, 5, 6, 7, 9] (.ops [.op (some 65) (.loadN 2 (.t 9)),
     .op none (.store 2 (.t 6) (.t 65))]))))))))))
   (.keep [1, 5, 6, 7] (.ops [.op (some 42) (.mov (.t 7)),
    .op (some 43) (.bin .add (.t 42) (.k (.int .i64 1))),
    .op (some 7) (.mov (.t 43))])))))))))
 (.keep [1, 5, 6] (.seq (.seq (.ops [.op (some 11) (.mov (.k (.int .i64 0)))])
  (.keep [1, 5, 6, 11] (.block 2 (.loop (.seq (.seq (.ops [.op (some 66) (.mov (.t 11)),
     .op (some 67) (.mov (.t 5)),
     .op (some 68) (.lenS (.t 67)),
     .op (some 69) (.bin .lss (.t 66) (.t 68))])
   (.keep [1, 5, 6, 11, 69] (.cond (.t 69)
    (.skip)
    (.exit 2))))
   (.keep [1, 5, 6, 11] (.seq (.block 3 (.seq (.drawE [[], [], [], [1, 2], [1, 2, 3], [0, 1, 2, 3, 4], [0, 1, 2, 3, 4, 5], [0, 1, 2, 3, 4, 5, 6], [0, 1, 2, 3, 4, 5, 6], [], [0, 1, 2, 3, 4, 5, 6, 7, 9], [0, 1, 2, 3, 4, 5, 6, 7, 8, 9, 10]] [.op (some 73) (.loadN 2 (.t 6)),
     .op (some 74) (.mov (.t 5)),
     .op (some 75) (.mov (.t 11)),
     .op (some 76) (.iadr 1 (.t 74) (.t 75)),
     .op (some 77) (.load1 (.t 76)),
     .call (some 78) 8 [.t 73, .t 77],
     .op (some 72) (.mov (.t 78)),
     .op (some 79) (.ext (.t 72) 0),
     .op (some 80) (.ext (.t 72) 1),
     .op (some 12) (.alloc [.int .i64 0, .nils 3]),
     .op none (.store 2 (.t 12) (.t 79))]
     [.op (some 13) (.mov (.t 80))])
    (.keep [1, 5, 6, 11, 12, 13] (.seq (.ops [.op (some 81) (.mov (.t 13)),
     .op (some 82) (.bin .eql (.t 81) (.k (.int .i64 0)))])
    (.keep [1, 5, 6, 11, 12, 13, 82] (.cond (.t 82)
    (.ops [.op (some 83) (.loadN 2 (.t 12)),
      .op none (.store 2 (.t 6) (.t 83))])
    (.seq (.ops [.op (some 84) (.mov (.t 13)),
      .op (some 85) (.bin .neq (.t 84) (.k (.int .i64 9)))])
     (.keep [1, 5, 6, 11, 85] (.cond (.t 85)
     (.seq (.ops [.op (some 4) (.mov (.k (.bool false)))])
      (.keep [4] (.ret)))
     (.skip))))))))))
   (.keep [1, 5, 6, 11] (.ops [.op (some 70) (.mov (.t 11)),
    .op (some 71) (.bin .add (.t 70) (.k (.int .i64 1))),
    .op (some 11) (.mov (.t 71))])))))))))
 (.keep [1, 5, 6] (.seq (.ops [.op (some 87) (.loadN 2 (.t 6)),
   .call (some 88) 9 [.t 87, .k (.str []), .k (.str [122, 122, 122])],
   .op (some 86) (.mov (.t 88)),
   .op (some 89) (.ext (.t 86) 0),
   .op (some 90) (.ext (.t 86) 1),
   .op (some 14) (.mov (.t 89)),
   .op (some 15) (.mov (.t 90))])
 (.keep [1, 5, 6, 14, 15] (.seq (.seq (.ops [.op (some 91) (.mov (.t 15)),
   .op (some 92) (.bin .neq (.t 91) (.k (.int .i64 0))),
   .op (some 93) (.mov (.t 92)),
   .andor 98 false 2 93 [.op (some 94) (.mov (.t 14)), .op (some 95) (.mov (.t 5)), .call (some 96) 10 [.t 94, .t 95], .op (some 97) (.not (.t 96))] (.t 97),
   .op (some 99) (.mov (.t 98)),
   .andor 103 false 8 99 [.op (some 100) (.loadN 2 (.t 6)), .call (some 101) 11 [.t 100], .op (some 102) (.not (.t 101))] (.t 102)])
  (.keep [1, 5, 6, 103] (.cond (.t 103)
  (.seq (.ops [.op (some 4) (.mov (.k (.bool false)))])
   (.keep [4] (.ret)))
  (.skip))))
 (.keep [1, 5, 6] (.seq (.seq (.ops [.op (some 104) (.mov (.t 5)),
   .op (some 105) (.lenS (.t 104)),
   .op (some 106) (.bin .eql (.t 105) (.k (.int .i64 0)))])
  (.keep [1, 5, 6, 106] (.cond (.t 106)
  (.seq (.ops [.op (some 4) (.mov (.k (.bool true)))])
   (.keep [4] (.ret)))
  (.skip))))
 (.keep [1, 5, 6] (.seq (.ops [.op (some 107) (.mov (.t 5)),
   .op (some 108) (.mov (.t 1)),
   .op (some 109) (.mov (.t 5)),
   .op (some 110) (.lenS (.t 109)),
   .call (some 111) 7 [.t 108, .k (.int .i64 1), .t 110],
   .op (some 112) (.iadr 1 (.t 107) (.t 111)),
   .op (some 113) (.load1 (.t 112)),
   .op (some 16) (.mov (.t 113))])
 (.keep [5, 6, 16] (.seq (.ops [.op (some 115) (.loadN 2 (.t 6)),
   .op (some 116) (.mov (.t 16)),
   .call (some 117) 12 [.t 115, .t 116],
   .op (some 114) (.mov (.t 117)),
   .op (some 118) (.ext (.t 114) 0),
   .op (some 119) (.ext (.t 114) 1),
   .op (some 17) (.alloc [.int .i64 0, .nils 3]),
   .op none (.store 2 (.t 17) (.t 118)),
   .op (some 18) (.mov (.t 119))])
 (.keep [5, 6, 16, 17, 18] (.seq (.ops [.op (some 121) (.loadN 2 (.t 6)),
   .op (some 122) (.mov (.t 16)),
   .call (some 123) 13 [.t 121, .t 122],
   .op (some 120) (.mov (.t 123)),
   .op (some 124) (.ext (.t 120) 0),
   .op (some 125) (.ext (.t 120) 1),
   .op (some 19) (.mov (.t 124)),
   .op (some 20) (.mov (.t 125))])
 (.keep [5, 16, 17, 18, 19, 20] (.seq (.ops [.op (some 127) (.loadN 2 (.t 17)),
   .op (some 128) (.mov (.t 16)),
   .call (some 129) 13 [.t 127, .t 128],
   .op (some 126) (.mov (.t 129)),
   .op (some 130) (.ext (.t 126) 0),
   .op (some 131) (.ext (.t 126) 1),
   .op (some 21) (.mov (.t 130)),
   .op (some 22) (.mov (.t 131))])
 (.keep [5, 16, 17, 18, 19, 20, 21, 22] (.seq (.ops [.op (some 133) (.loadN 2 (.t 17)),
   .op (some 134) (.mov (.t 16)),
   .call (some 135) 8 [.t 133, .t 134],
   .op (some 132) (.mov (.t 135)),
   .op (some 136) (.ext (.t 132) 0),
   .op (some 137) (.ext (.t 132) 1),
   .op (some 23) (.alloc [.int .i64 0, .nils 3]),
   .op none (.store 2 (.t 23) (.t 136)),
   .op (some 24) (.mov (.t 137))])
 (.keep [5, 17, 18, 19, 20, 21, 22, 23, 24] (.seq (.ops [.op (some 139) (.loadN 2 (.t 23)),
   .call (some 140) 9 [.t 139, .k (.str []), .k (.str [122, 122, 122])],
   .op (some 138) (.mov (.t 140)),
   .op (some 141) (.ext (.t 138) 0),
   .op (some 142) (.ext (.t 138) 1),
   .op (some 25) (.mov (.t 141)),
   .op (some 26) (.mov (.t 142))])
 (.keep [5, 17, 18, 19, 20, 21, 22, 24, 25, 26] (.seq (.ops [.op (some 143) (.mov (.t 18)),
   .op (some 144) (.bin .eql (.t 143) (.k (.int .i64 0))),
   .op (some 145) (.mov (.t 144)),
   .andor 148 true 2 145 [.op (some 146) (.mov (.t 20)), .op (some 147) (.bin .eql (.t 146) (.k (.int .i64 0)))] (.t 147),
   .op (some 149) (.mov (.t 148)),
   .andor 151 true 6 149 [.op (some 150) (.mov (.t 19))] (.t 150),
   .op (some 152) (.mov (.t 151)),
   .andor 155 true 9 152 [.op (some 153) (.mov (.t 22)), .op (some 154) (.bin .eql (.t 153) (.k (.int .i64 0)))] (.t 154),
   .op (some 156) (.mov (.t 155)),
   .andor 159 true 13 156 [.op (some 157) (.mov (.t 21)), .op (some 158) (.not (.t 157))] (.t 158),
   .op (some 160) (.mov (.t 159)),
   .andor 163 true 17 160 [.op (some 161) (.mov (.t 24)), .op (some 162) (.bin .eql (.t 161) (.k (.int .i64 0)))] (.t 162),
   .op (some 164) (.mov (.t 163)),
   .andor 167 true 21 164 [.op (some 165) (.mov (.t 26)), .op (some 166) (.bin .eql (.t 165) (.k (.int .i64 0)))] (.t 166),
   .op (some 168) (.mov (.t 167)),
   .andor 172 true 25 168 [.op (some 169) (.mov (.t 25)), .op (some 170) (.mov (.t 5)), .call (some 171) 10 [.t 169, .t 170]] (.t 171),
   .op (some 173) (.mov (.t 172)),
   .andor 176 true 30 173 [.op (some 174) (.loadN 2 (.t 17)), .call (some 175) 11 [.t 174]] (.t 175),
   .op (some 4) (.mov (.t 176))])
 (.keep [4] (.ret))))))))))))))))))))))))))))))))
theorem k_c_FnTree_fits : fitsF Try.prog 3 ⟨177, k_c_FnTree, [.t 4]⟩ = true := by kernel_rfl
set_option maxHeartbeats 4000000 in
theorem c_FnTree {code more : Str} (w0 : wfL (fun _ => True) code) (w1 : wfL (fun _ => True) more) : Con Try.prog noMv 3 [.d (.sl 1 (code.map byteRow)), .d (.sl 1 (more.map byteRow))] [] (fun r h => r = bool true ∧ h = []) := by
 refine con_of2 k_c_FnTree_fits rfl fun C hP hmv => ?_
 unfold k_c_FnTree
 refine cx_seq ?_
 refine cx_ops ?_
 refine ax_q (q_mov rfl) ?_
 refine ax_nil ?_
 refine cx_keep rfl rfl ?_
 refine cx_seq ?_
 refine cx_seq ?_
 refine cx_ops ?_
 refine ax_q (q_mov rfl) ?_
 first | refine ax_q (q_lenS_map rfl) ?_ | refine ax_q (q_lenS_osl rfl) ?_ | refine ax_q (q_lenS_zs rfl) ?_ | refine ax_q (q_lenS rfl) ?_
 refine ax_q (q_ibin rfl rfl rfl) ?_
 refine ax_q (q_mov rfl) ?_
 apply ax_or rfl rfl
 ·
  intro g
  have g := dF g
  refine ax_q (q_mov rfl) ?_
  first | refine ax_q (q_lenS_map rfl) ?_ | refine ax_q (q_lenS_osl rfl) ?_ | refine ax_q (q_lenS_zs rfl) ?_ | refine ax_q (q_lenS rfl) ?_
  refine ax_q (q_ibin rfl rfl rfl) ?_
  exact ax_nil ⟨rfl, by repeat (first | exact trivial | refine ⟨rfl, ?_⟩ | refine ⟨?_, ?_⟩)⟩
 refine ax_nil ?_
 refine cx_keep rfl rfl ?_
 refine cx_cond rfl (fun h0 => ?_) (fun h0 => ?_)
 ·
  have h0 := (fun h => (or_T h).imp dT dT) h0
  refine cx_seq ?_
  refine cx_ops ?_
  refine ax_q (q_mov rfl) ?_
  refine ax_nil ?_
  refine cx_keep rfl rfl ?_
  refine cx_ret (ret0 rfl rfl ?_)
  exact ⟨rfl, rfl⟩
 ·
  have h0 := (fun h => And.intro (dF (or_F h).1) (dF (or_F h).2)) h0
  have hlc : code.length ≤ 1048576 := by omega
  have hlm : more.length ≤ 1048576 := by omega
  refine cx_skip ?_
  refine cx_keep rfl rfl ?_
  refine cx_seq ?_
  refine cx_ops ?_
  refine ax_q (q_mov rfl) ?_
  refine ax_call rfl (vc_pure (c_TreeKeysOf (code := code) hlc) hP rfl ?_)
  rintro r h ⟨KL, hT, hKl, rfl, rfl⟩
  refine ⟨id, [], ⟨rfl, rfl, rfl, rfl, rfl, fun h => absurd h Bool.false_ne_true⟩, ?_⟩
  refine ax_q (q_mov rfl) ?_
  refine ax_nil ?_
  refine cx_keep rfl rfl ?_
  refine cx_seq ?_
  refine cx_ops ?_
  first | refine ax_call rfl (vc_pure0 (c_NewTree  ) hP rfl rfl ?_) | refine ax_call rfl (vc_lend0 (c_NewTree  ) hP (by repeat (first | exact lal_id _ rfl | exact LAL.nil | refine LAL.cons ?_ ?_ | exact la_id _ rfl | exact LA.lend (lend_whole rfl (by first | (simp; done) | (rw [List.length_map]; rfl))) | refine LA.agg ?_ | refine LA.fn ?_ | refine LA.lend ?_ | exact Lend.d _ | exact Lend.zs _ | exact lend_whole rfl (by first | (simp; done) | (rw [List.length_map]; rfl)) | refine Lend.ptr rfl ?_ | refine Lend.fn ?_ | exact LendL.nil | refine LendL.cons ?_ ?_)) rfl rfl ?_)
  refine ax_e (e_alloc (by decide) rfl rfl) ?_
  refine ax_e (e_st rfl rfl rfl rfl rfl rfl rfl) ?_
  refine ax_nil ?_
  refine cx_keep rfl rfl ?_
  refine cx_seq ?_
  refine cx_seq ?_
  refine cx_ops ?_
  refine ax_q (q_mov rfl) ?_
  refine ax_nil ?_
  refine cx_keep rfl rfl ?_
  refine cx_block ?_
  refine cx_loopU (fun n (p : Nat × List Str) => p.1 ≤ KL.length ∧ n = KL.length - p.1 ∧ SIn p.2 KL) (fun p => [(7, int p.1)]) (fun p => [(6, .box [.d (.int .i64 (treeT p.2).root), .d (.sl 3 ((treeT p.2).nodes.map TN.row))])])
   ⟨_, (0, []), ⟨Nat.zero_le _, rfl, SIn.nil⟩, by repeat (first | exact trivial | refine ⟨rfl, ?_⟩ | refine ⟨?_, ?_⟩)⟩ ?_
  rintro n ⟨i, T⟩ ⟨hi, rfl, hT2⟩
  simp only at hi hT2 ⊢
  have hTk := hT2.ks
  have hTl := hT2.len hT.ks
  refine cx_seq ?_
  refine cx_seq ?_
  refine cx_ops ?_
  refine ax_q (q_mov rfl) ?_
  refine ax_q (q_mov rfl) ?_
  first | refine ax_q (q_lenS_map rfl) ?_ | refine ax_q (q_lenS_osl rfl) ?_ | refine ax_q (q_lenS_zs rfl) ?_ | refine ax_q (q_lenS rfl) ?_
  refine ax_q (q_ibin rfl rfl rfl) ?_
  refine ax_nil ?_
  refine cx_keep rfl rfl ?_
  refine cx_cond rfl (fun h1 => ?_) (fun h1 => ?_)
  ·
   have h1 := dT h1
   have h1x : i < KL.length := by omega
   obtain ⟨ha0, ha5⟩ := @atF_bounds more 0 5 (by omega)
   obtain ⟨kx, hkx⟩ : ∃ kx : Nat, ((i : Int) * 7 + atF more 0 5) % (KL.length : Int) = (kx : Int) := ⟨_, (Int.toNat_of_nonneg (Int.emod_nonneg _ (by omega))).symm⟩
   have hkl : kx < KL.length := by have := Int.emod_lt_of_pos ((i : Int) * 7 + atF more 0 5) (show (0 : Int) < (KL.length : Int) by omega); omega
   have hkm := getD_mem hkl
   have hkz := hT.ks.sz _ hkm
   refine cx_skip ?_
   refine cx_keep rfl rfl ?_
   refine cx_seq ?_
   refine cx_block ?_
   refine cx_seq ?_
   refine cx_ops ?_
   refine ax_q (q_mov rfl) ?_
   refine ax_q (q_mul rfl rfl (by omega)) ?_
   refine ax_q (q_mov rfl) ?_
   first | refine ax_call rfl (vc_pure0 (c_at  ?_ ?_ ?_) hP rfl rfl ?_) | refine ax_call rfl (vc_lend0 (c_at  ?_ ?_ ?_) hP (by repeat (first | exact lal_id _ rfl | exact LAL.nil | refine LAL.cons ?_ ?_ | exact la_id _ rfl | exact LA.lend (lend_whole rfl (by first | (simp; done) | (rw [List.length_map]; rfl))) | refine LA.agg ?_ | refine LA.fn ?_ | refine LA.lend ?_ | exact Lend.d _ | exact Lend.zs _ | exact lend_whole rfl (by first | (simp; done) | (rw [List.length_map]; rfl)) | refine Lend.ptr rfl ?_ | refine Lend.fn ?_ | exact LendL.nil | refine LendL.cons ?_ ?_)) rfl rfl ?_)
   ·
    first | assumption | omega | (simp; done) | (simp; omega)
   ·
    first | assumption | omega | (simp; done) | (simp; omega)
   ·
    first | assumption | omega | (simp; done) | (simp; omega)
   refine ax_q (q_add rfl rfl (by omega)) ?_
   refine ax_q (q_mov rfl) ?_
   first | refine ax_q (q_lenS_map rfl) ?_ | refine ax_q (q_lenS_osl rfl) ?_ | refine ax_q (q_lenS_zs rfl) ?_ | refine ax_q (q_lenS rfl) ?_
   refine ax_qe (r' := int (kx : Nat)) (q_mod rfl rfl (by omega) (by omega)) (congrArg AM.int hkx) ?_
   refine ax_q (q_mov rfl) ?_
   refine ax_nil ?_
   refine cx_keep rfl rfl ?_
   refine cx_seq ?_
   refine cx_drawL 10 5000 (fun _ => false) (fun _ => true) [] ([(9, .box [.d (.int .i64 (insT T (KL.getD kx [])).1.root), .d (.sl 3 ((insT T (KL.getD kx [])).1.nodes.map TN.row))])]) [[6], [5], [8], [54, 55], [56], [53, 57], [58], [52], [52], [], [9, 59]] [[], [], [], [], [], [], [], [], [9], [], [9]] rfl ?_
   first | refine ⟨_, .inr ⟨rfl, _, rfl, .inl rfl, loc_q (q_ldN rfl rfl rfl)⟩, ?_⟩
   first | refine ⟨_, .inr ⟨rfl, _, rfl, .inl rfl, loc_q (q_mov rfl)⟩, ?_⟩
   first | refine ⟨_, .inr ⟨rfl, _, rfl, .inl rfl, loc_q (q_mov rfl)⟩, ?_⟩
   first | refine ⟨_, .inr ⟨rfl, _, rfl, .inl rfl, loc_q (q_ix rfl rfl (strD hkl))⟩, ?_⟩
   first | refine ⟨_, .inr ⟨rfl, _, rfl, .inl rfl, loc_q (q_load1_ptr rfl rfl rfl)⟩, ?_⟩ | refine ⟨_, .inr ⟨rfl, _, rfl, .inl rfl, loc_q (q_load1_ip rfl)⟩, ?_⟩ | refine ⟨_, .inr ⟨rfl, _, rfl, .inl rfl, loc_q (q_load1_rptr rfl rfl rfl rfl)⟩, ?_⟩ | refine ⟨_, .inr ⟨rfl, _, rfl, .inl rfl, loc_q (q_load1_rptr rfl rfl (by assumption) rfl)⟩, ?_⟩ | refine ⟨_, .inr ⟨rfl, _, rfl, .inl rfl, loc_q (q_load1_rptr rfl rfl (mapAt (by first | assumption | omega)) rfl)⟩, ?_⟩
   first | refine ⟨_, .inr ⟨rfl, _, rfl, .inl rfl, loc_call (fun i => 58 + 200 * i) false rfl (c_TreeInsert (ks := T) (key := (KL.getD kx [])) (by first | assumption | omega | (simp; done) | (simp; omega)) (by first | assumption | omega | (simp; done) | (simp; omega)) (by first | assumption | omega | (simp; done) | (simp; omega))) hP (.inr ⟨rfl, rfl, rfl⟩) rfl rfl (fun h => by cases h)⟩, ?_⟩ | refine ⟨_, .inr ⟨rfl, _, rfl, .inl rfl, loc_call (fun i => 58 + 200 * i) true rfl (c_TreeInsert (ks := T) (key := (KL.getD kx [])) (by first | assumption | omega | (simp; done) | (simp; omega)) (by first | assumption | omega | (simp; done) | (simp; omega)) (by first | assumption | omega | (simp; done) | (simp; omega))) hP (.inl ⟨rfl, (by repeat (first | exact lal_id _ rfl | exact LAL.nil | refine LAL.cons ?_ ?_ | exact la_id _ rfl | exact LA.lend (lend_whole rfl (by first | (simp; done) | (rw [List.length_map]; rfl))) | refine LA.agg ?_ | refine LA.fn ?_ | refine LA.lend ?_ | exact Lend.d _ | exact Lend.zs _ | exact lend_whole rfl (by first | (simp; done) | (rw [List.length_map]; rfl)) | refine Lend.ptr rfl ?_ | refine Lend.fn ?_ | exact LendL.nil | refine LendL.cons ?_ ?_))⟩) rfl rfl (fun _ => ⟨rfl, noisl_of (by repeat (first | exact trivial | refine ⟨noisl_map (fun _ => rfl), ?_⟩ | refine ⟨?_, ?_⟩))⟩)⟩, ?_⟩
   first | refine ⟨_, .inr ⟨rfl, _, rfl, .inl rfl, loc_q (q_mov rfl)⟩, ?_⟩
   first | refine ⟨_, .inr ⟨rfl, _, rfl, .inl rfl, loc_q (q_ext rfl rfl)⟩, ?_⟩
   first | refine ⟨_, .inr ⟨rfl, _, rfl, .inr ⟨rfl, rfl, .inr rfl, rfl, rfl⟩, loc_q (q_ext rfl rfl)⟩, ?_⟩
   first | refine ⟨_, .inr ⟨rfl, _, rfl, .inl rfl, loc_alloc⟩, ?_⟩
   refine ⟨⟨5000, .dead, []⟩, .inl ⟨rfl, rfl, rfl, locl_st rfl rfl rfl rfl rfl rfl rfl⟩, ?_⟩
   refine ⟨rfl, ?_⟩
   refine ax_q (q_mov rfl) ?_
   refine ax_nil ?_
   refine cx_keep rfl rfl ?_
   refine cx_seq ?_
   refine cx_seq ?_
   refine cx_ops ?_
   refine ax_q (q_mov rfl) ?_
   refine ax_q (q_ibin rfl rfl rfl) ?_
   refine ax_nil ?_
   refine cx_keep rfl rfl ?_
   refine cx_cond rfl (fun h2 => ?_) (fun h2 => ?_)
   ·
    have h2 := dT h2
    refine cx_exit rfl ?_
    refine cx_keep rfl rfl ?_
    refine cx_ops ?_
    refine ax_q (q_mov rfl) ?_
    refine ax_qe (r' := int ((i + 1 : Nat) : Int)) (q_ibin rfl rfl rfl) (by rw [wi (by omega) (by omega)]; rfl) ?_
    refine ax_q (q_mov rfl) ?_
    refine ax_nil ?_
    exact ⟨_, (i + 1, T), by simp only; omega, ⟨by simp only; omega, rfl, hT2⟩, by repeat (first | exact trivial | refine ⟨rfl, ?_⟩ | refine ⟨?_, ?_⟩)⟩
   ·
    have h2 := dF h2
    obtain ⟨hh, hI⟩ := ins_new h2
    have hT4 := hT2.ins hT.ks hKl hkm hh
    rw [hI] at h2 ⊢
    refine cx_skip ?_
    refine cx_keep rfl rfl ?_
    refine cx_seq ?_
    refine cx_seq ?_
    refine cx_ops ?_
    refine ax_q (q_mov rfl) ?_
    refine ax_q (q_ibin rfl rfl rfl) ?_
    refine ax_nil ?_
    refine cx_keep rfl rfl ?_
    refine cx_cond rfl (fun h3 => ?_) (fun h3 => ?_)
    ·
     skip
     exact absurd h3 Bool.false_ne_true
    ·
     skip
     refine cx_skip ?_
     refine cx_keep rfl rfl ?_
     refine cx_ops ?_
     refine ax_q (q_ldN rfl rfl rfl) ?_
     refine ax_e (e_st rfl rfl rfl rfl rfl rfl rfl) ?_
     refine ax_nil ?_
     refine cx_keep rfl rfl ?_
     refine cx_ops ?_
     refine ax_q (q_mov rfl) ?_
     refine ax_qe (r' := int ((i + 1 : Nat) : Int)) (q_ibin rfl rfl rfl) (by rw [wi (by omega) (by omega)]; rfl) ?_
     refine ax_q (q_mov rfl) ?_
     refine ax_nil ?_
     exact ⟨_, (i + 1, (insA T (posS T (KL.getD kx [])) (KL.getD kx []))), by simp only; omega, ⟨by simp only; omega, rfl, hT4⟩, by repeat (first | exact trivial | refine ⟨rfl, ?_⟩ | refine ⟨?_, ?_⟩)⟩
  ·
   have h1 := dF h1
   refine cx_exit rfl ?_
   refine cx_keep rfl rfl ?_
   refine cx_seq ?_
   refine cx_seq ?_
   refine cx_ops ?_
   refine ax_q (q_mov rfl) ?_
   refine ax_nil ?_
   refine cx_keep rfl rfl ?_
   refine cx_block ?_
   refine cx_loopU (fun n (p : Nat × List Str) => p.1 ≤ KL.length ∧ n = KL.length - p.1 ∧ SIn p.2 KL ∧ ∀ j (hj : j < KL.length), j < p.1 → KL[j] ∈ p.2) (fun p => [(11, int p.1)]) (fun p => [(6, .box [.d (.int .i64 (treeT p.2).root), .d (.sl 3 ((treeT p.2).nodes.map TN.row))])])
    ⟨_, (0, T), ⟨Nat.zero_le _, rfl, hT2, fun j hj h => by omega⟩, by repeat (first | exact trivial | refine ⟨rfl, ?_⟩ | refine ⟨?_, ?_⟩)⟩ ?_
   rintro n ⟨i, T⟩ ⟨hi, rfl, hT2, hT3⟩
   simp only at hi hT2 hT3 ⊢
   have hTk := hT2.ks
   have hTl := hT2.len hT.ks
   refine cx_seq ?_
   refine cx_seq ?_
   refine cx_ops ?_
   refine ax_q (q_mov rfl) ?_
   refine ax_q (q_mov rfl) ?_
   first | refine ax_q (q_lenS_map rfl) ?_ | refine ax_q (q_lenS_osl rfl) ?_ | refine ax_q (q_lenS_zs rfl) ?_ | refine ax_q (q_lenS rfl) ?_
   refine ax_q (q_ibin rfl rfl rfl) ?_
   refine ax_nil ?_
   refine cx_keep rfl rfl ?_
   refine cx_cond rfl (fun h4 => ?_) (fun h4 => ?_)
   ·
    have h4 := dT h4
    have h4x : i < KL.length := by omega
    have hkm := getD_mem h4x
    have hkz := hT.ks.sz _ hkm
    refine cx_skip ?_
    refine cx_keep rfl rfl ?_
    refine cx_seq ?_
    refine cx_block ?_
    refine cx_seq ?_
    refine cx_drawL 10 5000 (fun _ => false) (fun _ => true) [] ([(12, .box [.d (.int .i64 (insT T (KL.getD i [])).1.root), .d (.sl 3 ((insT T (KL.getD i [])).1.nodes.map TN.row))])]) [[6], [5], [11], [74, 75], [76], [73, 77], [78], [72], [72], [], [12, 79]] [[], [], [], [], [], [], [], [], [12], [], [12]] rfl ?_
    first | refine ⟨_, .inr ⟨rfl, _, rfl, .inl rfl, loc_q (q_ldN rfl rfl rfl)⟩, ?_⟩
    first | refine ⟨_, .inr ⟨rfl, _, rfl, .inl rfl, loc_q (q_mov rfl)⟩, ?_⟩
    first | refine ⟨_, .inr ⟨rfl, _, rfl, .inl rfl, loc_q (q_mov rfl)⟩, ?_⟩
    first | refine ⟨_, .inr ⟨rfl, _, rfl, .inl rfl, loc_q (q_ix rfl rfl (strD h4x))⟩, ?_⟩
    first | refine ⟨_, .inr ⟨rfl, _, rfl, .inl rfl, loc_q (q_load1_ptr rfl rfl rfl)⟩, ?_⟩ | refine ⟨_, .inr ⟨rfl, _, rfl, .inl rfl, loc_q (q_load1_ip rfl)⟩, ?_⟩ | refine ⟨_, .inr ⟨rfl, _, rfl, .inl rfl, loc_q (q_load1_rptr rfl rfl rfl rfl)⟩, ?_⟩ | refine ⟨_, .inr ⟨rfl, _, rfl, .inl rfl, loc_q (q_load1_rptr rfl rfl (by assumption) rfl)⟩, ?_⟩ | refine ⟨_, .inr ⟨rfl, _, rfl, .inl rfl, loc_q (q_load1_rptr rfl rfl (mapAt (by first | assumption | omega)) rfl)⟩, ?_⟩
    first | refine ⟨_, .inr ⟨rfl, _, rfl, .inl rfl, loc_call (fun i => 78 + 200 * i) false rfl (c_TreeInsert (ks := T) (key := (KL.getD i [])) (by first | assumption | omega | (simp; done) | (simp; omega)) (by first | assumption | omega | (simp; done) | (simp; omega)) (by first | assumption | omega | (simp; done) | (simp; omega))) hP (.inr ⟨rfl, rfl, rfl⟩) rfl rfl (fun h => by cases h)⟩, ?_⟩ | refine ⟨_, .inr ⟨rfl, _, rfl, .inl rfl, loc_call (fun i => 78 + 200 * i) true rfl (c_TreeInsert (ks := T) (key := (KL.getD i [])) (by first | assumption | omega | (simp; done) | (simp; omega)) (by first | assumption | omega | (simp; done) | (simp; omega)) (by first | assumption | omega | (simp; done) | (simp; omega))) hP (.inl ⟨rfl, (by repeat (first | exact lal_id _ rfl | exact LAL.nil | refine LAL.cons ?_ ?_ | exact la_id _ rfl | exact LA.lend (lend_whole rfl (by first | (simp; done) | (rw [List.length_map]; rfl))) | refine LA.agg ?_ | refine LA.fn ?_ | refine LA.lend ?_ | exact Lend.d _ | exact Lend.zs _ | exact lend_whole rfl (by first | (simp; done) | (rw [List.length_map]; rfl)) | refine Lend.ptr rfl ?_ | refine Lend.fn ?_ | exact LendL.nil | refine LendL.cons ?_ ?_))⟩) rfl rfl (fun _ => ⟨rfl, noisl_of (by repeat (first | exact trivial | refine ⟨noisl_map (fun _ => rfl), ?_⟩ | refine ⟨?_, ?_⟩))⟩)⟩, ?_⟩
    first | refine ⟨_, .inr ⟨rfl, _, rfl, .inl rfl, loc_q (q_mov rfl)⟩, ?_⟩
    first | refine ⟨_, .inr ⟨rfl, _, rfl, .inl rfl, loc_q (q_ext rfl rfl)⟩, ?_⟩
    first | refine ⟨_, .inr ⟨rfl, _, rfl, .inr ⟨rfl, rfl, .inr rfl, rfl, rfl⟩, loc_q (q_ext rfl rfl)⟩, ?_⟩
    first | refine ⟨_, .inr ⟨rfl, _, rfl, .inl rfl, loc_alloc⟩, ?_⟩
    refine ⟨⟨5000, .dead, []⟩, .inl ⟨rfl, rfl, rfl, locl_st rfl rfl rfl rfl rfl rfl rfl⟩, ?_⟩
    refine ⟨rfl, ?_⟩
    refine ax_q (q_mov rfl) ?_
    refine ax_nil ?_
    refine cx_keep rfl rfl ?_
    refine cx_seq ?_
    refine cx_ops ?_
    refine ax_q (q_mov rfl) ?_
    refine ax_q (q_ibin rfl rfl rfl) ?_
    refine ax_nil ?_
    refine cx_keep rfl rfl ?_
    refine cx_cond rfl (fun h5 => ?_) (fun h5 => ?_)
    ·
     have h5 := dT h5
     obtain ⟨hh, hI⟩ := insT_or.resolve_left (fun q => by rw [q.2] at h5; cases h5)
     have hT4 := hT2.ins hT.ks hKl hkm hh
     have hT5 : ∀ j (hj : j < KL.length), j < i + 1 → KL[j] ∈ (insA T (posS T (KL.getD i [])) (KL.getD i [])) := fun j hj h => by
      rcases Nat.lt_or_ge j i with h1 | h1
      ·
       exact mem_insA.2 (.inr (hT3 j hj h1))
      ·
       obtain rfl : j = i := by omega
       exact mem_insA.2 (.inl (by simp [hj]))
     rw [hI]
     refine cx_ops ?_
     refine ax_q (q_ldN rfl rfl rfl) ?_
     refine ax_e (e_st rfl rfl rfl rfl rfl rfl rfl) ?_
     refine ax_nil ?_
     refine cx_keep rfl rfl ?_
     refine cx_ops ?_
     refine ax_q (q_mov rfl) ?_
     refine ax_qe (r' := int ((i + 1 : Nat) : Int)) (q_ibin rfl rfl rfl) (by rw [wi (by omega) (by omega)]; rfl) ?_
     refine ax_q (q_mov rfl) ?_
     refine ax_nil ?_
     exact ⟨_, (i + 1, (insA T (posS T (KL.getD i [])) (KL.getD i []))), by simp only; omega, ⟨by simp only; omega, rfl, hT4, hT5⟩, by repeat (first | exact trivial | refine ⟨rfl, ?_⟩ | refine ⟨?_, ?_⟩)⟩
    ·
     have h5 := dF h5
     obtain ⟨hh, hI⟩ := ins_old h5
     have hT5 : ∀ j (hj : j < KL.length), j < i + 1 → KL[j] ∈ T := fun j hj h => by
      rcases Nat.lt_or_ge j i with h1 | h1
      ·
       exact hT3 j hj h1
      ·
       obtain rfl : j = i := by omega
       have := of_decide_eq_true hh; rwa [show KL.getD j [] = KL[j] from by simp [hj]] at this
     refine cx_seq ?_
     refine cx_ops ?_
     refine ax_q (q_mov rfl) ?_
     refine ax_q (q_ibin rfl rfl rfl) ?_
     refine ax_nil ?_
     refine cx_keep rfl rfl ?_
     refine cx_cond rfl (fun h6 => ?_) (fun h6 => ?_)
     ·
      have h6 := nT h6
      exact absurd hI h6
     ·
      have h6 := nF h6
      refine cx_skip ?_
      refine cx_keep rfl rfl ?_
      refine cx_ops ?_
      refine ax_q (q_mov rfl) ?_
      refine ax_qe (r' := int ((i + 1 : Nat) : Int)) (q_ibin rfl rfl rfl) (by rw [wi (by omega) (by omega)]; rfl) ?_
      refine ax_q (q_mov rfl) ?_
      refine ax_nil ?_
      exact ⟨_, (i + 1, T), by simp only; omega, ⟨by simp only; omega, rfl, hT2, hT5⟩, by repeat (first | exact trivial | refine ⟨rfl, ?_⟩ | refine ⟨?_, ?_⟩)⟩
   ·
    have h4 := dF h4
    have hTe : KL = T := (hT2.eq hT.ks (fun j hj => hT3 j hj (by omega))).symm
    subst hTe
    refine cx_exit rfl ?_
    refine cx_keep rfl rfl ?_
    refine cx_seq ?_
    refine cx_ops ?_
    refine ax_q (q_ldN rfl rfl rfl) ?_
    first | refine ax_call rfl (vc_pure0 (c_TreeRange (ks := KL) (a := []) (b := zzz) ?_ ?_ ?_) hP rfl rfl ?_) | refine ax_call rfl (vc_lend0 (c_TreeRange (ks := KL) (a := []) (b := zzz) ?_ ?_ ?_) hP (by repeat (first | exact lal_id _ rfl | exact LAL.nil | refine LAL.cons ?_ ?_ | exact la_id _ rfl | exact LA.lend (lend_whole rfl (by first | (simp; done) | (rw [List.length_map]; rfl))) | refine LA.agg ?_ | refine LA.fn ?_ | refine LA.lend ?_ | exact Lend.d _ | exact Lend.zs _ | exact lend_whole rfl (by first | (simp; done) | (rw [List.length_map]; rfl)) | refine Lend.ptr rfl ?_ | refine Lend.fn ?_ | exact LendL.nil | refine LendL.cons ?_ ?_)) rfl rfl ?_)
    ·
     exact hT.ks
    ·
     decide
    ·
     decide
    rw [filter_zzz hT.lt]
    refine ax_q (q_mov rfl) ?_
    refine ax_q (q_ext rfl rfl) ?_
    refine ax_q (q_ext rfl rfl) ?_
    refine ax_q (q_mov rfl) ?_
    refine ax_q (q_mov rfl) ?_
    refine ax_nil ?_
    refine cx_keep rfl rfl ?_
    refine cx_seq ?_
    refine cx_seq ?_
    refine cx_ops ?_
    refine ax_q (q_mov rfl) ?_
    refine ax_q (q_ibin rfl rfl rfl) ?_
    refine ax_q (q_mov rfl) ?_
    apply ax_or rfl rfl
    ·
     intro g
     have g := nF g
     refine ax_q (q_mov rfl) ?_
     refine ax_q (q_mov rfl) ?_
     first | refine ax_call rfl (vc_pure0 (c_sameTexts (xs := KL) (ys := KL) ?_ ?_) hP rfl rfl ?_) | refine ax_call rfl (vc_lend0 (c_sameTexts (xs := KL) (ys := KL) ?_ ?_) hP (by repeat (first | exact lal_id _ rfl | exact LAL.nil | refine LAL.cons ?_ ?_ | exact la_id _ rfl | exact LA.lend (lend_whole rfl (by first | (simp; done) | (rw [List.length_map]; rfl))) | refine LA.agg ?_ | refine LA.fn ?_ | refine LA.lend ?_ | exact Lend.d _ | exact Lend.zs _ | exact lend_whole rfl (by first | (simp; done) | (rw [List.length_map]; rfl)) | refine Lend.ptr rfl ?_ | refine Lend.fn ?_ | exact LendL.nil | refine LendL.cons ?_ ?_)) rfl rfl ?_)
     ·
      first | assumption | omega | (simp; done) | (simp; omega)
     ·
      first | assumption | omega | (simp; done) | (simp; omega)
     refine ax_q (q_not rfl) ?_
     exact ax_nil ⟨rfl, by repeat (first | exact trivial | refine ⟨rfl, ?_⟩ | refine ⟨?_, ?_⟩)⟩
    refine ax_q (q_mov rfl) ?_
    apply ax_or rfl rfl
    ·
     intro g
     have g := (fun h => And.intro (nF (or_F h).1) (bF (or_F h).2)) g
     refine ax_q (q_ldN rfl rfl rfl) ?_
     first | refine ax_call rfl (vc_pure0 (c_TreeOK (ks := KL) ?_) hP rfl rfl ?_) | refine ax_call rfl (vc_lend0 (c_TreeOK (ks := KL) ?_) hP (by repeat (first | exact lal_id _ rfl | exact LAL.nil | refine LAL.cons ?_ ?_ | exact la_id _ rfl | exact LA.lend (lend_whole rfl (by first | (simp; done) | (rw [List.length_map]; rfl))) | refine LA.agg ?_ | refine LA.fn ?_ | refine LA.lend ?_ | exact Lend.d _ | exact Lend.zs _ | exact lend_whole rfl (by first | (simp; done) | (rw [List.length_map]; rfl)) | refine Lend.ptr rfl ?_ | refine Lend.fn ?_ | exact LendL.nil | refine LendL.cons ?_ ?_)) rfl rfl ?_)
     ·
      exact hT.ks
     refine ax_q (q_not rfl) ?_
     exact ax_nil ⟨rfl, by repeat (first | exact trivial | refine ⟨rfl, ?_⟩ | refine ⟨?_, ?_⟩)⟩
    refine ax_nil ?_
    refine cx_keep rfl rfl ?_
    refine cx_cond rfl (fun h7 => ?_) (fun h7 => ?_)
    ·
     have h7 := (fun h => (or_T h).imp (fun h => (or_T h).imp nT bT) bT) h7
     exfalso
     rcases h7 with (h | h) | h
     ·
      exact h rfl
     ·
      rw [eqb_rfl] at h; cases h
     ·
      cases h
    ·
     have h7 := (fun h => And.intro ((fun h => And.intro (nF (or_F h).1) (bF (or_F h).2)) (or_F h).1) (bF (or_F h).2)) h7
     refine cx_skip ?_
     refine cx_keep rfl rfl ?_
     refine cx_seq ?_
     refine cx_seq ?_
     refine cx_ops ?_
     refine ax_q (q_mov rfl) ?_
     first | refine ax_q (q_lenS_map rfl) ?_ | refine ax_q (q_lenS_osl rfl) ?_ | refine ax_q (q_lenS_zs rfl) ?_ | refine ax_q (q_lenS rfl) ?_
     refine ax_q (q_ibin rfl rfl rfl) ?_
     refine ax_nil ?_
     refine cx_keep rfl rfl ?_
     refine cx_cond rfl (fun h8 => ?_) (fun h8 => ?_)
     ·
      have h8 := dT h8
      refine cx_seq ?_
      refine cx_ops ?_
      refine ax_q (q_mov rfl) ?_
      refine ax_nil ?_
      refine cx_keep rfl rfl ?_
      refine cx_ret (ret0 rfl rfl ?_)
      exact ⟨rfl, rfl⟩
     ·
      have h8 := dF h8
      obtain ⟨hb0, hb1⟩ := @atF_bounds more 1 (KL.length : Int) (by omega)
      obtain ⟨kx, hkx⟩ : ∃ kx : Nat, atF more 1 (KL.length : Int) = (kx : Int) := ⟨_, (Int.toNat_of_nonneg hb0).symm⟩
      rw [hkx] at hb0 hb1
      have hkl : kx < KL.length := by omega
      obtain ⟨KY, hKY⟩ : ∃ KY, KL.getD kx [] = KY := ⟨_, rfl⟩
      have hkm := getD_mem hkl
      rw [hKY] at hkm
      have hkz := hT.ks.sz _ hkm
      obtain ⟨GN, g1, g2, g3, g4, g5, g6⟩ := gone_facts hT.ks hkm hKl
      refine cx_skip ?_
      refine cx_keep rfl rfl ?_
      refine cx_seq ?_
      refine cx_ops ?_
      refine ax_q (q_mov rfl) ?_
      refine ax_q (q_mov rfl) ?_
      refine ax_q (q_mov rfl) ?_
      first | refine ax_q (q_lenS_map rfl) ?_ | refine ax_q (q_lenS_osl rfl) ?_ | refine ax_q (q_lenS_zs rfl) ?_ | refine ax_q (q_lenS rfl) ?_
      first | refine ax_call rfl (vc_pure0 (c_at  ?_ ?_ ?_) hP rfl rfl ?_) | refine ax_call rfl (vc_lend0 (c_at  ?_ ?_ ?_) hP (by repeat (first | exact lal_id _ rfl | exact LAL.nil | refine LAL.cons ?_ ?_ | exact la_id _ rfl | exact LA.lend (lend_whole rfl (by first | (simp; done) | (rw [List.length_map]; rfl))) | refine LA.agg ?_ | refine LA.fn ?_ | refine LA.lend ?_ | exact Lend.d _ | exact Lend.zs _ | exact lend_whole rfl (by first | (simp; done) | (rw [List.length_map]; rfl)) | refine Lend.ptr rfl ?_ | refine Lend.fn ?_ | exact LendL.nil | refine LendL.cons ?_ ?_)) rfl rfl ?_)
      ·
       first | assumption | omega | (simp; done) | (simp; omega)
      ·
       first | assumption | omega | (simp; done) | (simp; omega)
      ·
       first | assumption | omega | (simp; done) | (simp; omega)
      rw [hkx]
      refine ax_q (q_ix rfl rfl (strD hkl)) ?_
      first | refine ax_q (q_load1_ptr rfl rfl rfl) ?_ | refine ax_q (q_load1_ip rfl) ?_ | refine ax_q (q_load1_rptr rfl rfl rfl rfl) ?_ | refine ax_q (q_load1_rptr rfl rfl (by assumption) rfl) ?_ | refine ax_q (q_load1_rptr rfl rfl (mapAt (by first | assumption | omega)) rfl) ?_
      rw [hKY]
      refine ax_q (q_mov rfl) ?_
      refine ax_nil ?_
      refine cx_keep rfl rfl ?_
      refine cx_seq ?_
      refine cx_ops ?_
      refine ax_q (q_ldN rfl rfl rfl) ?_
      refine ax_q (q_mov rfl) ?_
      first | refine ax_call rfl (vc_pure0 (c_TreeDelete (ks := KL) (key := KY) ?_ ?_) hP rfl rfl ?_) | refine ax_call rfl (vc_lend0 (c_TreeDelete (ks := KL) (key := KY) ?_ ?_) hP (by repeat (first | exact lal_id _ rfl | exact LAL.nil | refine LAL.cons ?_ ?_ | exact la_id _ rfl | exact LA.lend (lend_whole rfl (by first | (simp; done) | (rw [List.length_map]; rfl))) | refine LA.agg ?_ | refine LA.fn ?_ | refine LA.lend ?_ | exact Lend.d _ | exact Lend.zs _ | exact lend_whole rfl (by first | (simp; done) | (rw [List.length_map]; rfl)) | refine Lend.ptr rfl ?_ | refine Lend.fn ?_ | exact LendL.nil | refine LendL.cons ?_ ?_)) rfl rfl ?_)
      ·
       exact hT.ks
      ·
       first | assumption | omega | (simp; done) | (simp; omega)
      rw [g3]
      refine ax_q (q_mov rfl) ?_
      refine ax_q (q_ext rfl rfl) ?_
      refine ax_q (q_ext rfl rfl) ?_
      refine ax_e (e_alloc (by decide) rfl rfl) ?_
      refine ax_e (e_st rfl rfl rfl rfl rfl rfl rfl) ?_
      refine ax_q (q_mov rfl) ?_
      refine ax_nil ?_
      refine cx_keep rfl rfl ?_
      refine cx_seq ?_
      refine cx_ops ?_
      refine ax_q (q_ldN rfl rfl rfl) ?_
      refine ax_q (q_mov rfl) ?_
      first | refine ax_call rfl (vc_pure0 (c_TreeFind (ks := KL) (key := KY) ?_ ?_) hP rfl rfl ?_) | refine ax_call rfl (vc_lend0 (c_TreeFind (ks := KL) (key := KY) ?_ ?_) hP (by repeat (first | exact lal_id _ rfl | exact LAL.nil | refine LAL.cons ?_ ?_ | exact la_id _ rfl | exact LA.lend (lend_whole rfl (by first | (simp; done) | (rw [List.length_map]; rfl))) | refine LA.agg ?_ | refine LA.fn ?_ | refine LA.lend ?_ | exact Lend.d _ | exact Lend.zs _ | exact lend_whole rfl (by first | (simp; done) | (rw [List.length_map]; rfl)) | refine Lend.ptr rfl ?_ | refine Lend.fn ?_ | exact LendL.nil | refine LendL.cons ?_ ?_)) rfl rfl ?_)
      ·
       exact hT.ks
      ·
       first | assumption | omega | (simp; done) | (simp; omega)
      refine ax_q (q_mov rfl) ?_
      refine ax_q (q_ext rfl rfl) ?_
      refine ax_q (q_ext rfl rfl) ?_
      refine ax_q (q_mov rfl) ?_
      refine ax_q (q_mov rfl) ?_
      refine ax_nil ?_
      refine cx_keep rfl rfl ?_
      refine cx_seq ?_
      refine cx_ops ?_
      refine ax_q (q_ldN rfl rfl rfl) ?_
      refine ax_q (q_mov rfl) ?_
      first | refine ax_call rfl (vc_pure0 (c_TreeFind (ks := GN) (key := KY) ?_ ?_) hP rfl rfl ?_) | refine ax_call rfl (vc_lend0 (c_TreeFind (ks := GN) (key := KY) ?_ ?_) hP (by repeat (first | exact lal_id _ rfl | exact LAL.nil | refine LAL.cons ?_ ?_ | exact la_id _ rfl | exact LA.lend (lend_whole rfl (by first | (simp; done) | (rw [List.length_map]; rfl))) | refine LA.agg ?_ | refine LA.fn ?_ | refine LA.lend ?_ | exact Lend.d _ | exact Lend.zs _ | exact lend_whole rfl (by first | (simp; done) | (rw [List.length_map]; rfl)) | refine Lend.ptr rfl ?_ | refine Lend.fn ?_ | exact LendL.nil | refine LendL.cons ?_ ?_)) rfl rfl ?_)
      ·
       first | assumption | omega | (simp; done) | (simp; omega)
      ·
       first | assumption | omega | (simp; done) | (simp; omega)
      refine ax_q (q_mov rfl) ?_
      refine ax_q (q_ext rfl rfl) ?_
      refine ax_q (q_ext rfl rfl) ?_
      refine ax_q (q_mov rfl) ?_
      refine ax_q (q_mov rfl) ?_
      refine ax_nil ?_
      refine cx_keep rfl rfl ?_
      refine cx_seq ?_
      refine cx_ops ?_
      refine ax_q (q_ldN rfl rfl rfl) ?_
      refine ax_q (q_mov rfl) ?_
      first | refine ax_call rfl (vc_pure0 (c_TreeInsert (ks := GN) (key := KY) ?_ ?_ ?_) hP rfl rfl ?_) | refine ax_call rfl (vc_lend0 (c_TreeInsert (ks := GN) (key := KY) ?_ ?_ ?_) hP (by repeat (first | exact lal_id _ rfl | exact LAL.nil | refine LAL.cons ?_ ?_ | exact la_id _ rfl | exact LA.lend (lend_whole rfl (by first | (simp; done) | (rw [List.length_map]; rfl))) | refine LA.agg ?_ | refine LA.fn ?_ | refine LA.lend ?_ | exact Lend.d _ | exact Lend.zs _ | exact lend_whole rfl (by first | (simp; done) | (rw [List.length_map]; rfl)) | refine Lend.ptr rfl ?_ | refine Lend.fn ?_ | exact LendL.nil | refine LendL.cons ?_ ?_)) rfl rfl ?_)
      ·
       first | assumption | omega | (simp; done) | (simp; omega)
      ·
       first | assumption | omega | (simp; done) | (simp; omega)
      ·
       first | assumption | omega | (simp; done) | (simp; omega)
      rw [g6]
      refine ax_q (q_mov rfl) ?_
      refine ax_q (q_ext rfl rfl) ?_
      refine ax_q (q_ext rfl rfl) ?_
      refine ax_e (e_alloc (by decide) rfl rfl) ?_
      refine ax_e (e_st rfl rfl rfl rfl rfl rfl rfl) ?_
      refine ax_q (q_mov rfl) ?_
      refine ax_nil ?_
      refine cx_keep rfl rfl ?_
      refine cx_seq ?_
      refine cx_ops ?_
      refine ax_q (q_ldN rfl rfl rfl) ?_
      first | refine ax_call rfl (vc_pure0 (c_TreeRange (ks := KL) (a := []) (b := zzz) ?_ ?_ ?_) hP rfl rfl ?_) | refine ax_call rfl (vc_lend0 (c_TreeRange (ks := KL) (a := []) (b := zzz) ?_ ?_ ?_) hP (by repeat (first | exact lal_id _ rfl | exact LAL.nil | refine LAL.cons ?_ ?_ | exact la_id _ rfl | exact LA.lend (lend_whole rfl (by first | (simp; done) | (rw [List.length_map]; rfl))) | refine LA.agg ?_ | refine LA.fn ?_ | refine LA.lend ?_ | exact Lend.d _ | exact Lend.zs _ | exact lend_whole rfl (by first | (simp; done) | (rw [List.length_map]; rfl)) | refine Lend.ptr rfl ?_ | refine Lend.fn ?_ | exact LendL.nil | refine LendL.cons ?_ ?_)) rfl rfl ?_)
      ·
       exact hT.ks
      ·
       decide
      ·
       decide
      rw [filter_zzz hT.lt]
      refine ax_q (q_mov rfl) ?_
      refine ax_q (q_ext rfl rfl) ?_
      refine ax_q (q_ext rfl rfl) ?_
      refine ax_q (q_mov rfl) ?_
      refine ax_q (q_mov rfl) ?_
      refine ax_nil ?_
      refine cx_keep rfl rfl ?_
      refine cx_seq ?_
      refine cx_ops ?_
      refine ax_q (q_mov rfl) ?_
      refine ax_q (q_ibin rfl rfl rfl) ?_
      refine ax_q (q_mov rfl) ?_
      apply ax_and rfl rfl
      ·
       intro g
       have g := dT g
       refine ax_q (q_mov rfl) ?_
       refine ax_q (q_ibin rfl rfl rfl) ?_
       exact ax_nil ⟨rfl, by repeat (first | exact trivial | refine ⟨rfl, ?_⟩ | refine ⟨?_, ?_⟩)⟩
      refine ax_q (q_mov rfl) ?_
      apply ax_and rfl rfl
      ·
       intro g
       have g := (fun h => And.intro (dT (and_T h).1) (dT (and_T h).2)) g
       refine ax_q (q_mov rfl) ?_
       exact ax_nil ⟨rfl, by repeat (first | exact trivial | refine ⟨rfl, ?_⟩ | refine ⟨?_, ?_⟩)⟩
      refine ax_q (q_mov rfl) ?_
      apply ax_and rfl rfl
      ·
       intro g
       have g := (fun h => And.intro ((fun h => And.intro (dT (and_T h).1) (dT (and_T h).2)) (and_T h).1) (id (and_T h).2)) g
       refine ax_q (q_mov rfl) ?_
       refine ax_q (q_ibin rfl rfl rfl) ?_
       exact ax_nil ⟨rfl, by repeat (first | exact trivial | refine ⟨rfl, ?_⟩ | refine ⟨?_, ?_⟩)⟩
      refine ax_q (q_mov rfl) ?_
      apply ax_and rfl rfl
      ·
       intro g
       have g := (fun h => And.intro ((fun h => And.intro ((fun h => And.intro (dT (and_T h).1) (dT (and_T h).2)) (and_T h).1) (id (and_T h).2)) (and_T h).1) (dT (and_T h).2)) g
       refine ax_q (q_mov rfl) ?_
       refine ax_q (q_not rfl) ?_
       exact ax_nil ⟨rfl, by repeat (first | exact trivial | refine ⟨rfl, ?_⟩ | refine ⟨?_, ?_⟩)⟩
      refine ax_q (q_mov rfl) ?_
      apply ax_and rfl rfl
      ·
       intro g
       have g := (fun h => And.intro ((fun h => And.intro ((fun h => And.intro ((fun h => And.intro (dT (and_T h).1) (dT (and_T h).2)) (and_T h).1) (id (and_T h).2)) (and_T h).1) (dT (and_T h).2)) (and_T h).1) (bT (and_T h).2)) g
       refine ax_q (q_mov rfl) ?_
       refine ax_q (q_ibin rfl rfl rfl) ?_
       exact ax_nil ⟨rfl, by repeat (first | exact trivial | refine ⟨rfl, ?_⟩ | refine ⟨?_, ?_⟩)⟩
      refine ax_q (q_mov rfl) ?_
      apply ax_and rfl rfl
      ·
       intro g
       have g := (fun h => And.intro ((fun h => And.intro ((fun h => And.intro ((fun h => And.intro ((fun h => And.intro (dT (and_T h).1) (dT (and_T h).2)) (and_T h).1) (id (and_T h).2)) (and_T h).1) (dT (and_T h).2)) (and_T h).1) (bT (and_T h).2)) (and_T h).1) (dT (and_T h).2)) g
       refine ax_q (q_mov rfl) ?_
       refine ax_q (q_ibin rfl rfl rfl) ?_
       exact ax_nil ⟨rfl, by repeat (first | exact trivial | refine ⟨rfl, ?_⟩ | refine ⟨?_, ?_⟩)⟩
      refine ax_q (q_mov rfl) ?_
      apply ax_and rfl rfl
      ·
       intro g
       have g := (fun h => And.intro ((fun h => And.intro ((fun h => And.intro ((fun h => And.intro ((fun h => And.intro ((fun h => And.intro (dT (and_T h).1) (dT (and_T h).2)) (and_T h).1) (id (and_T h).2)) (and_T h).1) (dT (and_T h).2)) (and_T h).1) (bT (and_T h).2)) (and_T h).1) (dT (and_T h).2)) (and_T h).1) (dT (and_T h).2)) g
       refine ax_q (q_mov rfl) ?_
       refine ax_q (q_mov rfl) ?_
       first | refine ax_call rfl (vc_pure0 (c_sameTexts (xs := KL) (ys := KL) ?_ ?_) hP rfl rfl ?_) | refine ax_call rfl (vc_lend0 (c_sameTexts (xs := KL) (ys := KL) ?_ ?_) hP (by repeat (first | exact lal_id _ rfl | exact LAL.nil | refine LAL.cons ?_ ?_ | exact la_id _ rfl | exact LA.lend (lend_whole rfl (by first | (simp; done) | (rw [List.length_map]; rfl))) | refine LA.agg ?_ | refine LA.fn ?_ | refine LA.lend ?_ | exact Lend.d _ | exact Lend.zs _ | exact lend_whole rfl (by first | (simp; done) | (rw [List.length_map]; rfl)) | refine Lend.ptr rfl ?_ | refine Lend.fn ?_ | exact LendL.nil | refine LendL.cons ?_ ?_)) rfl rfl ?_)
       ·
        first | assumption | omega | (simp; done) | (simp; omega)
       ·
        first | assumption | omega | (simp; done) | (simp; omega)
       exact ax_nil ⟨rfl, by repeat (first | exact trivial | refine ⟨rfl, ?_⟩ | refine ⟨?_, ?_⟩)⟩
      refine ax_q (q_mov rfl) ?_
      apply ax_and rfl rfl
      ·
       intro g
       have g := (fun h => And.intro ((fun h => And.intro ((fun h => And.intro ((fun h => And.intro ((fun h => And.intro ((fun h => And.intro ((fun h => And.intro (dT (and_T h).1) (dT (and_T h).2)) (and_T h).1) (id (and_T h).2)) (and_T h).1) (dT (and_T h).2)) (and_T h).1) (bT (and_T h).2)) (and_T h).1) (dT (and_T h).2)) (and_T h).1) (dT (and_T h).2)) (and_T h).1) (id (and_T h).2)) g
       refine ax_q (q_ldN rfl rfl rfl) ?_
       first | refine ax_call rfl (vc_pure0 (c_TreeOK (ks := GN) ?_) hP rfl rfl ?_) | refine ax_call rfl (vc_lend0 (c_TreeOK (ks := GN) ?_) hP (by repeat (first | exact lal_id _ rfl | exact LAL.nil | refine LAL.cons ?_ ?_ | exact la_id _ rfl | exact LA.lend (lend_whole rfl (by first | (simp; done) | (rw [List.length_map]; rfl))) | refine LA.agg ?_ | refine LA.fn ?_ | refine LA.lend ?_ | exact Lend.d _ | exact Lend.zs _ | exact lend_whole rfl (by first | (simp; done) | (rw [List.length_map]; rfl)) | refine Lend.ptr rfl ?_ | refine Lend.fn ?_ | exact LendL.nil | refine LendL.cons ?_ ?_)) rfl rfl ?_)
       ·
        first | assumption | omega | (simp; done) | (simp; omega)
       exact ax_nil ⟨rfl, by repeat (first | exact trivial | refine ⟨rfl, ?_⟩ | refine ⟨?_, ?_⟩)⟩
      refine ax_q (q_mov rfl) ?_
      refine ax_nil ?_
      refine cx_keep rfl rfl ?_
      refine cx_ret (ret0 rfl rfl ?_)
      exact ⟨by rw [g4, g5, eqb_rfl]; rfl, rfl⟩

theorem own : ownKnob Try.prog.godebug = none := by kernel_rfl
theorem laid : laidOutB Try.prog = true := by kernel_rfl
theorem closedTs : closedT Try.prog [5, 22] = true := by kernel_rfl
theorem con (rows : List (List D)) (h : HasAll Try.prog Try.f3.params.toList rows) : Con Try.prog noMv 3 (argsAV Try.prog Try.f3.params.toList rows) [] (fun r h => r = AM.bool true ∧ h = []) := by
  rw [Try.params3] at h ⊢
  obtain ⟨d0, r0, rfl, h0, h⟩ := h
  obtain ⟨d1, r1, rfl, h1, h⟩ := h
  obtain rfl := h
  obtain ⟨a0, rfl, w0⟩ := (dec_slice (sz := 1) Try.underlying22 (by kernel_rfl) (dec_byte Try.underlying5)) h0
  obtain ⟨a1, rfl, w1⟩ := (dec_slice (sz := 1) Try.underlying22 (by kernel_rfl) (dec_byte Try.underlying5)) h1
  have e : argsAV Try.prog [22, 22] [[.sl 1 (a0.map byteRow)], [.sl 1 (a1.map byteRow)]] = [.d (.sl 1 (a0.map byteRow)), .d (.sl 1 (a1.map byteRow))] := by
    first | (simp only [argsAV, argAV, Try.underlying22]; done) | (simp only [argsAV, argAV, Try.underlying22]; rfl)
  show Con Try.prog noMv 3 (argsAV Try.prog [22, 22] [[.sl 1 (a0.map byteRow)], [.sl 1 (a1.map byteRow)]]) [] _
  rw [e]
  exact c_FnTree w0 w1
set_option maxRecDepth 100000 in
theorem lifted (os : Os) (started : os.Started) (H : Type) (enc : TypeId × Value → H) :
    ReturnsInHanded {} Try.checked os 3 .any (Rows.fnTreeSpec.pre6 enc Try.prog Try.f3 Rows.fnTreeRow.domain false) (Rows.fnTreeSpec.post enc Try.prog Try.f3 false true false false) := by
  refine returnsInHanded_of_change (C := Try.checked) own started (by kernel_rfl) Try.func3
    (ChangeSpec.witness6 (enc := enc) (C := Try.checked) false ⟨#[], #[.slice none 0 0, .slice none 0 0], []⟩ 8 (by kernel_rfl) (by kernel_rfl) (by kernel_rfl) (by kernel_rfl)) ?_
  intro W base args ds gs before hval hW hcnd _
  refine law_contract closedTs laid (by kernel_rfl) rfl rfl Try.underlying4 con (fun hl => ?_) hval hW
  match ds, hl with
  | [x0, x1], _ => rfl
theorem over : Rows.fnTreeRow.holds Try.pinned (OpenSpec.ofChange Rows.fnTreeSpec) :=
  OpenClaim.holds_of_wide 3 Try.f3 rfl rfl rfl rfl rfl rfl rfl ⟨rfl, rfl, rfl, rfl, rfl⟩ rfl rfl rfl rfl rfl (by kernel_rfl) Try.func3 (by kernel_rfl)
    (of_decide_eq_true (by kernel_rfl)) (by unfold Func.isWrapper; first | (rw [if_pos (by decide +kernel)]; kernel_rfl) | (rw [if_neg (by decide +kernel)]; exact ⟨rfl, rfl⟩))
    (fun os started H enc _ => lifted os started H enc)
theorem proved : Rows.FnTreeSaid := over
end fnTree
end Go.Proofs.Ytiapgkpjnadebaa
#print axioms Go.Proofs.Ytiapgkpjnadebaa.fnTree.proved
