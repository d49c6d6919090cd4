/- The law FnKeys of the given program returns true for all arguments, and its arguments read behind the call as they read before: the statement FnKeysSaid, with no condition. -/
import Derived.Test.YtnloffjegicicaaDoorW0
import Derived.Test.YtnloffjegicicaaDoorRows
import Derived.Test.YtnloffjegicicaaDoorTie
import Derived.Test.YtnloffjegicicaaDoorCards
import Derived.LaidLaws
import Derived.SevenTiedAt
namespace Go.Proofs.YtnloffjegicicaaDoor
open Go Go.AM Go.ChangeShapes Go.RowKit
set_option linter.unusedVariables false
set_option linter.unusedSimpArgs false
namespace fnKeys
set_option maxRecDepth 10000
/- loop.example/g00332/laws.FnKeys -/
def k_c_FnKeys : XCode :=
 .seq (.ops [.op (some 4) (.mov (.k (.bool false)))])
 (.keep [0, 1] (.seq (.seq (.ops [.op (some 24) (.mov (.t 0)),
   .op (some 25) (.lenS (.t 24)),
   .op (some 26) (.bin .gtr (.t 25) (.k (.int .i64 1048576))),
   .op (some 27) (.mov (.t 26)),
   .andor 31 false 3 27 [.op (some 28) (.mov (.t 1)), .op (some 29) (.lenS (.t 28)), .op (some 30) (.bin .gtr (.t 29) (.k (.int .i64 1048576)))] (.t 30)])
  (.keep [0, 1, 31] (.cond (.t 31)
  (.seq (.ops [.op (some 4) (.mov (.k (.bool true)))])
   (.keep [4] (.ret)))
  (.skip))))
 (.keep [0, 1] (.seq (.ops [.op (some 32) (.mov (.t 0)),
   .call (some 33) 5 [.t 32],
   .op (some 5) (.mov (.t 33))])
 (.keep [0, 1, 5] (.seq (.ops [.op (some 35) (.mov (.t 5)),
   .call (some 36) 6 [.t 35],
   .op (some 34) (.mov (.t 36)),
   .op (some 37) (.ext (.t 34) 0),
   .op (some 38) (.ext (.t 34) 1),
   .op (some 6) (.mov (.t 37)),
   .op (some 7) (.mov (.t 38))])
 (.keep [0, 1, 5, 6, 7] (.seq (.ops [.op (some 40) (.mov (.t 5)),
   .call (some 41) 7 [.t 40],
   .op (some 39) (.mov (.t 41)),
   .op (some 42) (.ext (.t 39) 0),
   .op (some 43) (.ext (.t 39) 1),
   .op (some 8) (.mov (.t 42)),
   .op (some 9) (.mov (.t 43))])
 (.keep [0, 1, 5, 6, 7, 8] (.seq (.ops [.op (some 45) (.mov (.t 6)),
   .call (some 46) 8 [.t 45],
   .op (some 44) (.mov (.t 46)),
   .op (some 47) (.ext (.t 44) 0),
   .op (some 48) (.ext (.t 44) 1),
   .op (some 10) (.mov (.t 47)),
   .op (some 11) (.mov (.t 48))])
 (.keep [0, 1, 5, 6, 7, 8, 10, 11] (.seq (.seq (.ops [.op (some 49) (.mov (.t 7)),
   .op (some 50) (.bin .neq (.t 49) (.k (.int .i64 0))),
   .op (some 51) (.mov (.t 50)),
   .andor 57 false 2 51 [.op (some 52) (.mov (.t 6)), .op (some 53) (.b2s (.t 52)), .op (some 54) (.mov (.t 8)), .op (some 55) (.b2s (.t 54)), .op (some 56) (.bin .neq (.t 53) (.t 55))] (.t 56),
   .op (some 58) (.mov (.t 57)),
   .andor 61 false 9 58 [.op (some 59) (.mov (.t 11)), .op (some 60) (.bin .neq (.t 59) (.k (.int .i64 0)))] (.t 60),
   .op (some 62) (.mov (.t 61)),
   .andor 67 false 13 62 [.op (some 63) (.mov (.t 10)), .op (some 64) (.mov (.t 5)), .call (some 65) 9 [.t 63, .t 64], .op (some 66) (.not (.t 65))] (.t 66)])
  (.keep [0, 1, 67] (.cond (.t 67)
  (.seq (.ops [.op (some 4) (.mov (.k (.bool false)))])
   (.keep [4] (.ret)))
  (.skip))))
 (.keep [0, 1] (.seq (.ops [.op (some 68) (.mov (.t 0)),
   .call (some 69) 10 [.t 68],
   .op (some 12) (.alloc [.int .i64 0, .int .i64 0, .str []]),
   .op none (.store 3 (.t 12) (.t 69))])
 (.keep [1, 12] (.seq (.ops [.op (some 70) (.mov (.t 1)),
   .call (some 71) 10 [.t 70],
   .op (some 13) (.alloc [.int .i64 0, .int .i64 0, .str []]),
   .op none (.store 3 (.t 13) (.t 71))])
 (.keep [12, 13] (.seq (.ops [.op (some 73) (.loadN 3 (.t 12)),
   .op (some 74) (.bslice 3 [.t 73]),
   .call (some 75) 6 [.t 74],
   .op (some 72) (.mov (.t 75)),
   .op (some 76) (.ext (.t 72) 0),
   .op (some 77) (.ext (.t 72) 1),
   .op (some 14) (.mov (.t 76)),
   .op (some 15) (.mov (.t 77))])
 (.keep [12, 13, 14, 15] (.seq (.ops [.op (some 79) (.loadN 3 (.t 13)),
   .op (some 80) (.bslice 3 [.t 79]),
   .call (some 81) 6 [.t 80],
   .op (some 78) (.mov (.t 81)),
   .op (some 82) (.ext (.t 78) 0),
   .op (some 83) (.ext (.t 78) 1),
   .op (some 16) (.mov (.t 82)),
   .op (some 17) (.mov (.t 83))])
 (.keep [12, 13, 14, 15, 16, 17] (.seq (.ops [.op (some 85) (.loadN 3 (.t 12)),
   .op (some 86) (.loadN 3 (.t 13)),
   .call (some 87) 11 [.t 85, .t 86],
   .op (some 84) (.mov (.t 87)),
   .op (some 88) (.ext (.t 84) 0),
   .op (some 89) (.ext (.t 84) 1),
   .op (some 18) (.mov (.t 88)),
   .op (some 19) (.mov (.t 89))])
 (.keep [12, 13, 14, 15, 16, 17, 18, 19] (.seq (.ops [.op (some 91) (.loadN 3 (.t 12)),
   .call (some 92) 12 [.t 91],
   .op (some 90) (.mov (.t 92)),
   .op (some 93) (.ext (.t 90) 0),
   .op (some 94) (.ext (.t 90) 1),
   .op (some 20) (.mov (.t 93)),
   .op (some 21) (.mov (.t 94))])
 (.keep [12, 13, 14, 15, 16, 17, 18, 19, 20, 21] (.seq (.ops [.op (some 96) (.loadN 3 (.t 12)),
   .call (some 97) 13 [.t 96],
   .op (some 95) (.mov (.t 97)),
   .op (some 98) (.ext (.t 95) 0),
   .op (some 99) (.ext (.t 95) 1),
   .op (some 22) (.mov (.t 98)),
   .op (some 23) (.mov (.t 99))])
 (.keep [12, 13, 14, 15, 16, 17, 18, 19, 20, 21, 22] (.seq (.seq (.ops [.op (some 100) (.mov (.t 15)),
   .op (some 101) (.bin .neq (.t 100) (.k (.int .i64 0))),
   .op (some 102) (.mov (.t 101)),
   .andor 105 false 2 102 [.op (some 103) (.mov (.t 17)), .op (some 104) (.bin .neq (.t 103) (.k (.int .i64 0)))] (.t 104),
   .op (some 106) (.mov (.t 105)),
   .andor 109 false 6 106 [.op (some 107) (.mov (.t 19)), .op (some 108) (.bin .neq (.t 107) (.k (.int .i64 0)))] (.t 108),
   .op (some 110) (.mov (.t 109)),
   .andor 113 false 10 110 [.op (some 111) (.mov (.t 21)), .op (some 112) (.bin .neq (.t 111) (.k (.int .i64 0)))] (.t 112),
   .op (some 114) (.mov (.t 113)),
   .andor 118 false 14 114 [.op (some 115) (.mov (.t 20)), .op (some 116) (.mov (.t 22)), .op (some 117) (.bin .neq (.t 115) (.t 116))] (.t 117),
   .op (some 119) (.mov (.t 118)),
   .andor 123 false 19 119 [.op (some 120) (.loadN 3 (.t 12)), .call (some 121) 14 [.t 120], .op (some 122) (.not (.t 121))] (.t 122)])
  (.keep [12, 13, 14, 16, 18, 123] (.cond (.t 123)
  (.seq (.ops [.op (some 4) (.mov (.k (.bool false)))])
   (.keep [4] (.ret)))
  (.skip))))
 (.keep [12, 13, 14, 16, 18] (.seq (.ops [.op (some 124) (.mov (.t 18)),
   .op (some 125) (.bin .lss (.t 124) (.k (.int .i64 0))),
   .op (some 126) (.mov (.t 14)),
   .op (some 127) (.b2s (.t 126)),
   .op (some 128) (.mov (.t 16)),
   .op (some 129) (.b2s (.t 128)),
   .op (some 130) (.bin .lss (.t 127) (.t 129)),
   .op (some 131) (.eqb false (.t 125) (.t 130)),
   .op (some 132) (.mov (.t 131)),
   .andor 141 true 8 132 [.op (some 133) (.mov (.t 18)), .op (some 134) (.bin .gtr (.t 133) (.k (.int .i64 0))), .op (some 135) (.mov (.t 14)), .op (some 136) (.b2s (.t 135)), .op (some 137) (.mov (.t 16)), .op (some 138) (.b2s (.t 137)), .op (some 139) (.bin .gtr (.t 136) (.t 138)), .op (some 140) (.eqb false (.t 134) (.t 139))] (.t 140),
   .op (some 142) (.mov (.t 141)),
   .andor 149 true 18 142 [.op (some 143) (.mov (.t 18)), .op (some 144) (.bin .eql (.t 143) (.k (.int .i64 0))), .op (some 145) (.loadN 3 (.t 12)), .op (some 146) (.loadN 3 (.t 13)), .op (some 147) (.eqs false [0, 0, 2] (.t 145) (.t 146)), .op (some 148) (.eqb false (.t 144) (.t 147))] (.t 148),
   .op (some 4) (.mov (.t 149))])
 (.keep [4] (.ret))))))))))))))))))))))))))))))))
theorem k_c_FnKeys_fits : fitsF Tryd.prog 3 ⟨150, k_c_FnKeys, [.t 4]⟩ = true := by kernel_rfl
set_option maxHeartbeats 4000000 in
theorem c_FnKeys {code more : Str} (w0 : wfL (fun _ => True) code) (w1 : wfL (fun _ => True) more) : Con Tryd.prog noMv 3 [.d (.sl 1 (code.map byteRow)), .d (.sl 1 (more.map byteRow))] [] (fun r h => r = bool true ∧ h = []) := by
 refine con_of2 k_c_FnKeys_fits rfl fun C hP hmv => ?_
 unfold k_c_FnKeys
 refine cx_seq ?_
 refine cx_ops ?_
 refine ax_q (q_mov rfl) ?_
 refine ax_nil ?_
 refine cx_keep rfl rfl ?_
 refine cx_seq ?_
 refine cx_seq ?_
 refine cx_ops ?_
 refine ax_q (q_mov rfl) ?_
 first | refine ax_q (q_lenS_map rfl) ?_ | refine ax_q (q_lenS_osl rfl) ?_ | refine ax_q (q_lenS_zs rfl) ?_ | refine ax_q (q_lenS rfl) ?_
 refine ax_q (q_ibin rfl rfl rfl) ?_
 refine ax_q (q_mov rfl) ?_
 apply ax_or rfl rfl
 ·
  intro g
  have g := dF g
  refine ax_q (q_mov rfl) ?_
  first | refine ax_q (q_lenS_map rfl) ?_ | refine ax_q (q_lenS_osl rfl) ?_ | refine ax_q (q_lenS_zs rfl) ?_ | refine ax_q (q_lenS rfl) ?_
  refine ax_q (q_ibin rfl rfl rfl) ?_
  exact ax_nil ⟨rfl, by repeat (first | exact trivial | refine ⟨rfl, ?_⟩ | refine ⟨?_, ?_⟩)⟩
 refine ax_nil ?_
 refine cx_keep rfl rfl ?_
 refine cx_cond rfl (fun h0 => ?_) (fun h0 => ?_)
 ·
  have h0 := (fun h => (or_T h).imp dT dT) h0
  refine cx_seq ?_
  refine cx_ops ?_
  refine ax_q (q_mov rfl) ?_
  refine ax_nil ?_
  refine cx_keep rfl rfl ?_
  refine cx_ret (ret0 rfl rfl ?_)
  exact ⟨rfl, rfl⟩
 ·
  have h0 := (fun h => And.intro (dF (or_F h).1) (dF (or_F h).2)) h0
  have hlc : code.length ≤ 1048576 := by omega
  have hlm : more.length ≤ 1048576 := by omega
  obtain ⟨_, hv1⟩ := valueF_ok (s := srcOf code) (n := 100) ((srcOf_ok hlc).mono (by omega))
  obtain ⟨_, hv2⟩ := valueF_ok (s := srcOf more) (n := 100) ((srcOf_ok hlm).mono (by omega))
  refine cx_skip ?_
  refine cx_keep rfl rfl ?_
  refine cx_seq ?_
  refine cx_ops ?_
  refine ax_q (q_mov rfl) ?_
  first | refine ax_call rfl (vc_pure (c_ValuesOf  ?_) hP rfl ?_) | refine ax_call rfl (vc_lend (c_ValuesOf  ?_) hP (by repeat (first | exact lal_id _ rfl | exact LAL.nil | refine LAL.cons ?_ ?_ | exact la_id _ rfl | exact LA.lend (lend_whole rfl (by first | (simp; done) | (rw [List.length_map]; rfl))) | refine LA.agg ?_ | refine LA.fn ?_ | refine LA.lend ?_ | exact Lend.d _ | exact Lend.zs _ | exact lend_whole rfl (by first | (simp; done) | (rw [List.length_map]; rfl)) | refine Lend.ptr rfl ?_ | refine Lend.fn ?_ | exact LendL.nil | refine LendL.cons ?_ ?_)) ?_)
  ·
   first | assumption | omega | (simp; done) | (simp; omega)
  rintro r h ⟨vs, ⟨hL1, hL2⟩, rfl, rfl⟩
  refine ⟨fun i => 33 + 200 * i, [0], ⟨rfl, rfl, rfl, rfl, rfl, (by first | exact (fun h => absurd h Bool.false_ne_true) | exact (fun _ => ⟨rfl, (noisl_of ⟨noisl_map (fun _ => rfl), trivial⟩)⟩))⟩, ?_⟩
  skip
  refine ax_q (q_mov rfl) ?_
  refine ax_nil ?_
  refine cx_keep rfl rfl ?_
  refine cx_seq ?_
  refine cx_ops ?_
  refine ax_q (q_mov rfl) ?_
  first | refine ax_call rfl (vc_pure (c_KeyBytes (l := vs) ?_ ?_) hP rfl ?_) | refine ax_call rfl (vc_lend (c_KeyBytes (l := vs) ?_ ?_) hP (by repeat (first | exact lal_id _ rfl | exact LAL.nil | refine LAL.cons ?_ ?_ | exact la_id _ rfl | exact LA.lend (lend_whole rfl (by first | (simp; done) | (rw [List.length_map]; rfl))) | refine LA.agg ?_ | refine LA.fn ?_ | refine LA.lend ?_ | exact Lend.d _ | exact Lend.zs _ | exact lend_whole rfl (by first | (simp; done) | (rw [List.length_map]; rfl)) | refine Lend.ptr rfl ?_ | refine Lend.fn ?_ | exact LendL.nil | refine LendL.cons ?_ ?_)) ?_)
  ·
   first | assumption | omega | (simp; done) | (simp; omega)
  ·
   first | assumption | omega | (simp; done) | (simp; omega)
  rintro r h ⟨rfl, rfl⟩
  refine ⟨fun i => 36 + 200 * i, [0], ⟨rfl, rfl, rfl, rfl, rfl, (by first | exact (fun h => absurd h Bool.false_ne_true) | exact (fun _ => ⟨rfl, (noisl_of (by repeat (first | exact trivial | refine ⟨noisl_map (fun _ => rfl), ?_⟩ | refine ⟨?_, ?_⟩)))⟩))⟩, ?_⟩
  skip
  refine ax_q (q_mov rfl) ?_
  refine ax_q (q_ext rfl rfl) ?_
  refine ax_q (q_ext rfl rfl) ?_
  refine ax_q (q_mov rfl) ?_
  refine ax_q (q_mov rfl) ?_
  refine ax_nil ?_
  refine cx_keep rfl rfl ?_
  refine cx_seq ?_
  refine cx_ops ?_
  refine ax_q (q_mov rfl) ?_
  first | refine ax_call rfl (vc_pure (c_sKeyBytes (l := vs) ?_ ?_) hP rfl ?_) | refine ax_call rfl (vc_lend (c_sKeyBytes (l := vs) ?_ ?_) hP (by repeat (first | exact lal_id _ rfl | exact LAL.nil | refine LAL.cons ?_ ?_ | exact la_id _ rfl | exact LA.lend (lend_whole rfl (by first | (simp; done) | (rw [List.length_map]; rfl))) | refine LA.agg ?_ | refine LA.fn ?_ | refine LA.lend ?_ | exact Lend.d _ | exact Lend.zs _ | exact lend_whole rfl (by first | (simp; done) | (rw [List.length_map]; rfl)) | refine Lend.ptr rfl ?_ | refine Lend.fn ?_ | exact LendL.nil | refine LendL.cons ?_ ?_)) ?_)
  ·
   first | assumption | omega | (simp; done) | (simp; omega)
  ·
   first | assumption | omega | (simp; done) | (simp; omega)
  rintro r h ⟨rfl, rfl⟩
  refine ⟨fun i => 41 + 200 * i, [0], ⟨rfl, rfl, rfl, rfl, rfl, (by first | exact (fun h => absurd h Bool.false_ne_true) | exact (fun _ => ⟨rfl, (noisl_of (by repeat (first | exact trivial | refine ⟨noisl_map (fun _ => rfl), ?_⟩ | refine ⟨?_, ?_⟩)))⟩))⟩, ?_⟩
  skip
  refine ax_q (q_mov rfl) ?_
  refine ax_q (q_ext rfl rfl) ?_
  refine ax_q (q_ext rfl rfl) ?_
  refine ax_q (q_mov rfl) ?_
  refine ax_q (q_mov rfl) ?_
  refine ax_nil ?_
  refine cx_keep rfl rfl ?_
  refine cx_seq ?_
  refine cx_ops ?_
  refine ax_q (q_mov rfl) ?_
  first | refine ax_call rfl (vc_pure (c_ReadKey (l := vs) ?_ ?_) hP rfl ?_) | refine ax_call rfl (vc_lend (c_ReadKey (l := vs) ?_ ?_) hP (by repeat (first | exact lal_id _ rfl | exact LAL.nil | refine LAL.cons ?_ ?_ | exact la_id _ rfl | exact LA.lend (lend_whole rfl (by first | (simp; done) | (rw [List.length_map]; rfl))) | refine LA.agg ?_ | refine LA.fn ?_ | refine LA.lend ?_ | exact Lend.d _ | exact Lend.zs _ | exact lend_whole rfl (by first | (simp; done) | (rw [List.length_map]; rfl)) | refine Lend.ptr rfl ?_ | refine Lend.fn ?_ | exact LendL.nil | refine LendL.cons ?_ ?_)) ?_)
  ·
   first | assumption | omega | (simp; done) | (simp; omega)
  ·
   first | assumption | omega | (simp; done) | (simp; omega)
  rintro r h ⟨rfl, rfl⟩
  refine ⟨fun i => 46 + 200 * i, [0], ⟨rfl, rfl, rfl, rfl, rfl, (by first | exact (fun h => absurd h Bool.false_ne_true) | exact (fun _ => ⟨rfl, (noisl_of (by repeat (first | exact trivial | refine ⟨noisl_map (fun _ => rfl), ?_⟩ | refine ⟨?_, ?_⟩)))⟩))⟩, ?_⟩
  skip
  refine ax_q (q_mov rfl) ?_
  refine ax_q (q_ext rfl rfl) ?_
  refine ax_q (q_ext rfl rfl) ?_
  refine ax_q (q_mov rfl) ?_
  refine ax_q (q_mov rfl) ?_
  refine ax_nil ?_
  refine cx_keep rfl rfl ?_
  refine cx_seq ?_
  refine cx_seq ?_
  refine cx_ops ?_
  refine ax_q (q_mov rfl) ?_
  refine ax_q (q_ibin rfl rfl rfl) ?_
  refine ax_q (q_mov rfl) ?_
  apply ax_or rfl rfl
  ·
   intro g
   have g := nF g
   refine ax_q (q_mov rfl) ?_
   refine ax_qe (r' := .d (.str (keysB vs))) (q_b2s rfl (src_osl rfl (by simp)) rows_allk ⟨36, 1, 0, _, .inl rfl⟩) (rfl) ?_
   refine ax_q (q_mov rfl) ?_
   refine ax_qe (r' := .d (.str (keysB vs))) (q_b2s rfl (src_osl rfl (by simp)) rows_allk ⟨41, 1, 0, _, .inl rfl⟩) (rfl) ?_
   refine ax_q (q_sbin rfl rfl rfl) ?_
   exact ax_nil ⟨rfl, by repeat (first | exact trivial | refine ⟨rfl, ?_⟩ | refine ⟨?_, ?_⟩)⟩
  refine ax_q (q_mov rfl) ?_
  apply ax_or rfl rfl
  ·
   intro g
   have g := (fun h => And.intro (nF (or_F h).1) (nF (or_F h).2)) g
   refine ax_q (q_mov rfl) ?_
   refine ax_q (q_ibin rfl rfl rfl) ?_
   exact ax_nil ⟨rfl, by repeat (first | exact trivial | refine ⟨rfl, ?_⟩ | refine ⟨?_, ?_⟩)⟩
  refine ax_q (q_mov rfl) ?_
  apply ax_or rfl rfl
  ·
   intro g
   have g := (fun h => And.intro ((fun h => And.intro (nF (or_F h).1) (nF (or_F h).2)) (or_F h).1) (nF (or_F h).2)) g
   refine ax_q (q_mov rfl) ?_
   refine ax_q (q_mov rfl) ?_
   first | refine ax_call rfl (vc_pure0 (c_sameValues (xs := vs) (ys := vs) ?_ ?_) hP rfl rfl ?_) | refine ax_call rfl (vc_lend0 (c_sameValues (xs := vs) (ys := vs) ?_ ?_) hP (by repeat (first | exact lal_id _ rfl | exact LAL.nil | refine LAL.cons ?_ ?_ | exact la_id _ rfl | exact LA.lend (lend_whole rfl (by first | (simp; done) | (rw [List.length_map]; rfl))) | refine LA.agg ?_ | refine LA.fn ?_ | refine LA.lend ?_ | exact Lend.d _ | exact Lend.zs _ | exact lend_whole rfl (by first | (simp; done) | (rw [List.length_map]; rfl)) | refine Lend.ptr rfl ?_ | refine Lend.fn ?_ | exact LendL.nil | refine LendL.cons ?_ ?_)) rfl rfl ?_)
   ·
    first | assumption | omega | (simp; done) | (simp; omega)
   ·
    first | assumption | omega | (simp; done) | (simp; omega)
   refine ax_q (q_not rfl) ?_
   exact ax_nil ⟨rfl, by repeat (first | exact trivial | refine ⟨rfl, ?_⟩ | refine ⟨?_, ?_⟩)⟩
  refine ax_nil ?_
  refine cx_keep rfl rfl ?_
  refine cx_cond rfl (fun h1 => ?_) (fun h1 => ?_)
  ·
   have h1 := (fun h => (or_T h).imp (fun h => (or_T h).imp (fun h => (or_T h).imp nT nT) nT) bT) h1
   exfalso
   rcases h1 with ((h | h) | h) | h
   ·
    exact h rfl
   ·
    exact h rfl
   ·
    exact h rfl
   ·
    rw [eqb_rfl] at h; cases h
  ·
   have h1 := (fun h => And.intro ((fun h => And.intro ((fun h => And.intro (nF (or_F h).1) (nF (or_F h).2)) (or_F h).1) (nF (or_F h).2)) (or_F h).1) (bF (or_F h).2)) h1
   refine cx_skip ?_
   refine cx_keep rfl rfl ?_
   refine cx_seq ?_
   refine cx_ops ?_
   refine ax_q (q_mov rfl) ?_
   generalize hvd : (valueF (srcOf code)).1 = v at hv1
   generalize hwd : (valueF (srcOf more)).1 = w at hv2
   have htv := vOK_t hv1
   have htw := vOK_t hv2
   have ho1 := ok_one hv1
   have ho2 := ok_one hv2
   first | refine ax_call rfl (vc_pure0 (c_ValueOf  ?_) hP rfl rfl ?_) | refine ax_call rfl (vc_lend0 (c_ValueOf  ?_) hP (by repeat (first | exact lal_id _ rfl | exact LAL.nil | refine LAL.cons ?_ ?_ | exact la_id _ rfl | exact LA.lend (lend_whole rfl (by first | (simp; done) | (rw [List.length_map]; rfl))) | refine LA.agg ?_ | refine LA.fn ?_ | refine LA.lend ?_ | exact Lend.d _ | exact Lend.zs _ | exact lend_whole rfl (by first | (simp; done) | (rw [List.length_map]; rfl)) | refine Lend.ptr rfl ?_ | refine Lend.fn ?_ | exact LendL.nil | refine LendL.cons ?_ ?_)) rfl rfl ?_)
   ·
    first | assumption | omega | (simp; done) | (simp; omega)
   rw [hvd]
   refine ax_e (e_alloc (by decide) rfl rfl) ?_
   refine ax_e (e_st rfl rfl rfl rfl rfl rfl rfl) ?_
   refine ax_nil ?_
   refine cx_keep rfl rfl ?_
   refine cx_seq ?_
   refine cx_ops ?_
   refine ax_q (q_mov rfl) ?_
   first | refine ax_call rfl (vc_pure0 (c_ValueOf  ?_) hP rfl rfl ?_) | refine ax_call rfl (vc_lend0 (c_ValueOf  ?_) hP (by repeat (first | exact lal_id _ rfl | exact LAL.nil | refine LAL.cons ?_ ?_ | exact la_id _ rfl | exact LA.lend (lend_whole rfl (by first | (simp; done) | (rw [List.length_map]; rfl))) | refine LA.agg ?_ | refine LA.fn ?_ | refine LA.lend ?_ | exact Lend.d _ | exact Lend.zs _ | exact lend_whole rfl (by first | (simp; done) | (rw [List.length_map]; rfl)) | refine Lend.ptr rfl ?_ | refine Lend.fn ?_ | exact LendL.nil | refine LendL.cons ?_ ?_)) rfl rfl ?_)
   ·
    first | assumption | omega | (simp; done) | (simp; omega)
   rw [hwd]
   refine ax_e (e_alloc (by decide) rfl rfl) ?_
   refine ax_e (e_st rfl rfl rfl rfl rfl rfl rfl) ?_
   refine ax_nil ?_
   refine cx_keep rfl rfl ?_
   refine cx_seq ?_
   refine cx_ops ?_
   refine ax_q (q_ldN rfl rfl rfl) ?_
   refine ax_e (e_bslice rfl (by decide) rfl rfl) ?_
   first | refine ax_call rfl (vc_pure (c_KeyBytes (l := [v]) ?_ ?_) hP rfl ?_) | refine ax_call rfl (vc_lend (c_KeyBytes (l := [v]) ?_ ?_) hP (by repeat (first | exact lal_id _ rfl | exact LAL.nil | refine LAL.cons ?_ ?_ | exact la_id _ rfl | exact LA.lend (lend_whole rfl (by first | (simp; done) | (rw [List.length_map]; rfl))) | refine LA.agg ?_ | refine LA.fn ?_ | refine LA.lend ?_ | exact Lend.d _ | exact Lend.zs _ | exact lend_whole rfl (by first | (simp; done) | (rw [List.length_map]; rfl)) | refine Lend.ptr rfl ?_ | refine Lend.fn ?_ | exact LendL.nil | refine LendL.cons ?_ ?_)) ?_)
   ·
    first | assumption | omega | (simp; done) | (simp; omega)
   ·
    first | assumption | omega | (simp; done) | (simp; omega)
   rintro r h ⟨rfl, rfl⟩
   refine ⟨fun i => 75 + 200 * i, [0], ⟨rfl, rfl, rfl, rfl, rfl, (by first | exact (fun h => absurd h Bool.false_ne_true) | exact (fun _ => ⟨rfl, (noisl_of (by repeat (first | exact trivial | refine ⟨noisl_map (fun _ => rfl), ?_⟩ | refine ⟨?_, ?_⟩)))⟩))⟩, ?_⟩
   skip
   refine ax_q (q_mov rfl) ?_
   refine ax_q (q_ext rfl rfl) ?_
   refine ax_q (q_ext rfl rfl) ?_
   refine ax_q (q_mov rfl) ?_
   refine ax_q (q_mov rfl) ?_
   refine ax_nil ?_
   refine cx_keep rfl rfl ?_
   refine cx_seq ?_
   refine cx_ops ?_
   refine ax_q (q_ldN rfl rfl rfl) ?_
   refine ax_e (e_bslice rfl (by decide) rfl rfl) ?_
   first | refine ax_call rfl (vc_pure (c_KeyBytes (l := [w]) ?_ ?_) hP rfl ?_) | refine ax_call rfl (vc_lend (c_KeyBytes (l := [w]) ?_ ?_) hP (by repeat (first | exact lal_id _ rfl | exact LAL.nil | refine LAL.cons ?_ ?_ | exact la_id _ rfl | exact LA.lend (lend_whole rfl (by first | (simp; done) | (rw [List.length_map]; rfl))) | refine LA.agg ?_ | refine LA.fn ?_ | refine LA.lend ?_ | exact Lend.d _ | exact Lend.zs _ | exact lend_whole rfl (by first | (simp; done) | (rw [List.length_map]; rfl)) | refine Lend.ptr rfl ?_ | refine Lend.fn ?_ | exact LendL.nil | refine LendL.cons ?_ ?_)) ?_)
   ·
    first | assumption | omega | (simp; done) | (simp; omega)
   ·
    first | assumption | omega | (simp; done) | (simp; omega)
   rintro r h ⟨rfl, rfl⟩
   refine ⟨fun i => 81 + 200 * i, [0], ⟨rfl, rfl, rfl, rfl, rfl, (by first | exact (fun h => absurd h Bool.false_ne_true) | exact (fun _ => ⟨rfl, (noisl_of (by repeat (first | exact trivial | refine ⟨noisl_map (fun _ => rfl), ?_⟩ | refine ⟨?_, ?_⟩)))⟩))⟩, ?_⟩
   skip
   refine ax_q (q_mov rfl) ?_
   refine ax_q (q_ext rfl rfl) ?_
   refine ax_q (q_ext rfl rfl) ?_
   refine ax_q (q_mov rfl) ?_
   refine ax_q (q_mov rfl) ?_
   refine ax_nil ?_
   refine cx_keep rfl rfl ?_
   refine cx_seq ?_
   refine cx_ops ?_
   refine ax_q (q_ldN rfl rfl rfl) ?_
   refine ax_q (q_ldN rfl rfl rfl) ?_
   first | refine ax_call rfl (vc_pure0 (c_CompareValues (a := v) (b := w) ?_ ?_ ?_ ?_) hP rfl rfl ?_) | refine ax_call rfl (vc_lend0 (c_CompareValues (a := v) (b := w) ?_ ?_ ?_ ?_) hP (by repeat (first | exact lal_id _ rfl | exact LAL.nil | refine LAL.cons ?_ ?_ | exact la_id _ rfl | exact LA.lend (lend_whole rfl (by first | (simp; done) | (rw [List.length_map]; rfl))) | refine LA.agg ?_ | refine LA.fn ?_ | refine LA.lend ?_ | exact Lend.d _ | exact Lend.zs _ | exact lend_whole rfl (by first | (simp; done) | (rw [List.length_map]; rfl)) | refine Lend.ptr rfl ?_ | refine Lend.fn ?_ | exact LendL.nil | refine LendL.cons ?_ ?_)) rfl rfl ?_)
   ·
    first | assumption | omega | (simp; done) | (simp; omega)
   ·
    first | assumption | omega | (simp; done) | (simp; omega)
   ·
    first | assumption | omega | (simp; done) | (simp; omega)
   ·
    first | assumption | omega | (simp; done) | (simp; omega)
   refine ax_q (q_mov rfl) ?_
   refine ax_q (q_ext rfl rfl) ?_
   refine ax_q (q_ext rfl rfl) ?_
   refine ax_q (q_mov rfl) ?_
   refine ax_q (q_mov rfl) ?_
   refine ax_nil ?_
   refine cx_keep rfl rfl ?_
   refine cx_seq ?_
   refine cx_ops ?_
   refine ax_q (q_ldN rfl rfl rfl) ?_
   first | refine ax_call rfl (vc_pure0 (c_ValueText (v := v) ?_) hP rfl rfl ?_) | refine ax_call rfl (vc_lend0 (c_ValueText (v := v) ?_) hP (by repeat (first | exact lal_id _ rfl | exact LAL.nil | refine LAL.cons ?_ ?_ | exact la_id _ rfl | exact LA.lend (lend_whole rfl (by first | (simp; done) | (rw [List.length_map]; rfl))) | refine LA.agg ?_ | refine LA.fn ?_ | refine LA.lend ?_ | exact Lend.d _ | exact Lend.zs _ | exact lend_whole rfl (by first | (simp; done) | (rw [List.length_map]; rfl)) | refine Lend.ptr rfl ?_ | refine Lend.fn ?_ | exact LendL.nil | refine LendL.cons ?_ ?_)) rfl rfl ?_)
   ·
    first | assumption | omega | (simp; done) | (simp; omega)
   refine ax_q (q_mov rfl) ?_
   refine ax_q (q_ext rfl rfl) ?_
   refine ax_q (q_ext rfl rfl) ?_
   refine ax_q (q_mov rfl) ?_
   refine ax_q (q_mov rfl) ?_
   refine ax_nil ?_
   refine cx_keep rfl rfl ?_
   refine cx_seq ?_
   refine cx_ops ?_
   refine ax_q (q_ldN rfl rfl rfl) ?_
   first | refine ax_call rfl (vc_pure0 (c_sValueText (v := v) ?_) hP rfl rfl ?_) | refine ax_call rfl (vc_lend0 (c_sValueText (v := v) ?_) hP (by repeat (first | exact lal_id _ rfl | exact LAL.nil | refine LAL.cons ?_ ?_ | exact la_id _ rfl | exact LA.lend (lend_whole rfl (by first | (simp; done) | (rw [List.length_map]; rfl))) | refine LA.agg ?_ | refine LA.fn ?_ | refine LA.lend ?_ | exact Lend.d _ | exact Lend.zs _ | exact lend_whole rfl (by first | (simp; done) | (rw [List.length_map]; rfl)) | refine Lend.ptr rfl ?_ | refine Lend.fn ?_ | exact LendL.nil | refine LendL.cons ?_ ?_)) rfl rfl ?_)
   ·
    first | assumption | omega | (simp; done) | (simp; omega)
   refine ax_q (q_mov rfl) ?_
   refine ax_q (q_ext rfl rfl) ?_
   refine ax_q (q_ext rfl rfl) ?_
   refine ax_q (q_mov rfl) ?_
   refine ax_q (q_mov rfl) ?_
   refine ax_nil ?_
   refine cx_keep rfl rfl ?_
   refine cx_seq ?_
   refine cx_seq ?_
   refine cx_ops ?_
   refine ax_q (q_mov rfl) ?_
   refine ax_q (q_ibin rfl rfl rfl) ?_
   refine ax_q (q_mov rfl) ?_
   apply ax_or rfl rfl
   ·
    intro g
    have g := nF g
    refine ax_q (q_mov rfl) ?_
    refine ax_q (q_ibin rfl rfl rfl) ?_
    exact ax_nil ⟨rfl, by repeat (first | exact trivial | refine ⟨rfl, ?_⟩ | refine ⟨?_, ?_⟩)⟩
   refine ax_q (q_mov rfl) ?_
   apply ax_or rfl rfl
   ·
    intro g
    have g := (fun h => And.intro (nF (or_F h).1) (nF (or_F h).2)) g
    refine ax_q (q_mov rfl) ?_
    refine ax_q (q_ibin rfl rfl rfl) ?_
    exact ax_nil ⟨rfl, by repeat (first | exact trivial | refine ⟨rfl, ?_⟩ | refine ⟨?_, ?_⟩)⟩
   refine ax_q (q_mov rfl) ?_
   apply ax_or rfl rfl
   ·
    intro g
    have g := (fun h => And.intro ((fun h => And.intro (nF (or_F h).1) (nF (or_F h).2)) (or_F h).1) (nF (or_F h).2)) g
    refine ax_q (q_mov rfl) ?_
    refine ax_q (q_ibin rfl rfl rfl) ?_
    exact ax_nil ⟨rfl, by repeat (first | exact trivial | refine ⟨rfl, ?_⟩ | refine ⟨?_, ?_⟩)⟩
   refine ax_q (q_mov rfl) ?_
   apply ax_or rfl rfl
   ·
    intro g
    have g := (fun h => And.intro ((fun h => And.intro ((fun h => And.intro (nF (or_F h).1) (nF (or_F h).2)) (or_F h).1) (nF (or_F h).2)) (or_F h).1) (nF (or_F h).2)) g
    refine ax_q (q_mov rfl) ?_
    refine ax_q (q_mov rfl) ?_
    refine ax_q (q_sbin rfl rfl rfl) ?_
    exact ax_nil ⟨rfl, by repeat (first | exact trivial | refine ⟨rfl, ?_⟩ | refine ⟨?_, ?_⟩)⟩
   refine ax_q (q_mov rfl) ?_
   apply ax_or rfl rfl
   ·
    intro g
    have g := (fun h => And.intro ((fun h => And.intro ((fun h => And.intro ((fun h => And.intro (nF (or_F h).1) (nF (or_F h).2)) (or_F h).1) (nF (or_F h).2)) (or_F h).1) (nF (or_F h).2)) (or_F h).1) (nF (or_F h).2)) g
    refine ax_q (q_ldN rfl rfl rfl) ?_
    first | refine ax_call rfl (vc_pure0 (c_ValueOK (v := v) ?_) hP rfl rfl ?_) | refine ax_call rfl (vc_lend0 (c_ValueOK (v := v) ?_) hP (by repeat (first | exact lal_id _ rfl | exact LAL.nil | refine LAL.cons ?_ ?_ | exact la_id _ rfl | exact LA.lend (lend_whole rfl (by first | (simp; done) | (rw [List.length_map]; rfl))) | refine LA.agg ?_ | refine LA.fn ?_ | refine LA.lend ?_ | exact Lend.d _ | exact Lend.zs _ | exact lend_whole rfl (by first | (simp; done) | (rw [List.length_map]; rfl)) | refine Lend.ptr rfl ?_ | refine Lend.fn ?_ | exact LendL.nil | refine LendL.cons ?_ ?_)) rfl rfl ?_)
    ·
     first | assumption | omega | (simp; done) | (simp; omega)
    refine ax_q (q_not rfl) ?_
    exact ax_nil ⟨rfl, by repeat (first | exact trivial | refine ⟨rfl, ?_⟩ | refine ⟨?_, ?_⟩)⟩
   refine ax_nil ?_
   refine cx_keep rfl rfl ?_
   refine cx_cond rfl (fun h2 => ?_) (fun h2 => ?_)
   ·
    have h2 := (fun h => (or_T h).imp (fun h => (or_T h).imp (fun h => (or_T h).imp (fun h => (or_T h).imp (fun h => (or_T h).imp nT nT) nT) nT) nT) bT) h2
    exfalso
    rcases h2 with ((((h | h) | h) | h) | h) | h
    ·
     exact h rfl
    ·
     exact h rfl
    ·
     exact h rfl
    ·
     exact h rfl
    ·
     exact h rfl
    ·
     rw [hv1] at h; cases h
   ·
    have h2 := (fun h => And.intro ((fun h => And.intro ((fun h => And.intro ((fun h => And.intro ((fun h => And.intro (nF (or_F h).1) (nF (or_F h).2)) (or_F h).1) (nF (or_F h).2)) (or_F h).1) (nF (or_F h).2)) (or_F h).1) (nF (or_F h).2)) (or_F h).1) (bF (or_F h).2)) h2
    refine cx_skip ?_
    refine cx_keep rfl rfl ?_
    refine cx_seq ?_
    refine cx_ops ?_
    refine ax_q (q_mov rfl) ?_
    refine ax_q (q_ibin rfl rfl rfl) ?_
    refine ax_q (q_mov rfl) ?_
    refine ax_qe (r' := .d (.str (keyB v))) (q_b2s (bs := keysB [v]) rfl (src_osl rfl (by simp)) rows_allk ⟨75, 1, 0, _, .inl rfl⟩) (by rw [keys_one]) ?_
    refine ax_q (q_mov rfl) ?_
    refine ax_qe (r' := .d (.str (keyB w))) (q_b2s (bs := keysB [w]) rfl (src_osl rfl (by simp)) rows_allk ⟨81, 1, 0, _, .inl rfl⟩) (by rw [keys_one]) ?_
    refine ax_q (q_sbin rfl rfl rfl) ?_
    refine ax_q (q_eqb rfl rfl) ?_
    refine ax_q (q_mov rfl) ?_
    apply ax_and rfl rfl
    ·
     intro g
     have g := beqT g
     refine ax_q (q_mov rfl) ?_
     refine ax_q (q_ibin rfl rfl rfl) ?_
     refine ax_q (q_mov rfl) ?_
     refine ax_qe (r' := .d (.str (keyB v))) (q_b2s (bs := keysB [v]) rfl (src_osl rfl (by simp)) rows_allk ⟨75, 1, 0, _, .inl rfl⟩) (by rw [keys_one]) ?_
     refine ax_q (q_mov rfl) ?_
     refine ax_qe (r' := .d (.str (keyB w))) (q_b2s (bs := keysB [w]) rfl (src_osl rfl (by simp)) rows_allk ⟨81, 1, 0, _, .inl rfl⟩) (by rw [keys_one]) ?_
     refine ax_q (q_sbin rfl rfl rfl) ?_
     refine ax_q (q_eqb rfl rfl) ?_
     exact ax_nil ⟨rfl, by repeat (first | exact trivial | refine ⟨rfl, ?_⟩ | refine ⟨?_, ?_⟩)⟩
    refine ax_q (q_mov rfl) ?_
    apply ax_and rfl rfl
    ·
     intro g
     have g := (fun h => And.intro (beqT (and_T h).1) (beqT (and_T h).2)) g
     refine ax_q (q_mov rfl) ?_
     refine ax_q (q_ibin rfl rfl rfl) ?_
     refine ax_q (q_ldN rfl rfl rfl) ?_
     refine ax_q (q_ldN rfl rfl rfl) ?_
     first | refine ax_q (GValue.q_eqs rfl rfl) ?_ | refine ax_q (q_eqs rfl rfl rfl) ?_
     refine ax_q (q_eqb rfl rfl) ?_
     exact ax_nil ⟨rfl, by repeat (first | exact trivial | refine ⟨rfl, ?_⟩ | refine ⟨?_, ?_⟩)⟩
    refine ax_q (q_mov rfl) ?_
    refine ax_nil ?_
    refine cx_keep rfl rfl ?_
    refine cx_ret (ret0 rfl rfl ?_)
    exact ⟨congrArg AM.bool (keys_law hv1 hv2), rfl⟩

theorem own : ownKnob Tryd.prog.godebug = none := by kernel_rfl
theorem laid : laidOutB Tryd.prog = true := by kernel_rfl
theorem closedTs : closedT Tryd.prog [5, 22] = true := by kernel_rfl
theorem con (rows : List (List D)) (h : HasAll Tryd.prog Tryd.f3.params.toList rows) : Con Tryd.prog noMv 3 (argsAV Tryd.prog Tryd.f3.params.toList rows) [] (fun r h => r = AM.bool true ∧ h = []) := by
  rw [Tryd.params3] at h ⊢
  obtain ⟨d0, r0, rfl, h0, h⟩ := h
  obtain ⟨d1, r1, rfl, h1, h⟩ := h
  obtain rfl := h
  obtain ⟨a0, rfl, w0⟩ := (dec_slice (sz := 1) Tryd.underlying22 (by kernel_rfl) (dec_byte Tryd.underlying5)) h0
  obtain ⟨a1, rfl, w1⟩ := (dec_slice (sz := 1) Tryd.underlying22 (by kernel_rfl) (dec_byte Tryd.underlying5)) h1
  have e : argsAV Tryd.prog [22, 22] [[.sl 1 (a0.map byteRow)], [.sl 1 (a1.map byteRow)]] = [.d (.sl 1 (a0.map byteRow)), .d (.sl 1 (a1.map byteRow))] := by
    first | (simp only [argsAV, argAV, Tryd.underlying22]; done) | (simp only [argsAV, argAV, Tryd.underlying22]; rfl)
  show Con Tryd.prog noMv 3 (argsAV Tryd.prog [22, 22] [[.sl 1 (a0.map byteRow)], [.sl 1 (a1.map byteRow)]]) [] _
  rw [e]
  exact c_FnKeys w0 w1
/-- The settled world, what is listed holding what its initialiser lays: the witness. -/
noncomputable def laidWorld (os : Os) : World :=
  let w0 := World.holding Tryd.prog os ⟨#[], #[], []⟩
  { w0 with heap := (((w0.heap).modify 1 (fun o => match o with
      | .cells _ t frozen => .cells #[.int .u8 0, .int .u8 1, .int .u8 28, .int .u8 2, .int .u8 29, .int .u8 14, .int .u8 24, .int .u8 3, .int .u8 30, .int .u8 22, .int .u8 20, .int .u8 15, .int .u8 25, .int .u8 17, .int .u8 4, .int .u8 8, .int .u8 31, .int .u8 27, .int .u8 13, .int .u8 23, .int .u8 21, .int .u8 19, .int .u8 16, .int .u8 7, .int .u8 26, .int .u8 12, .int .u8 18, .int .u8 6, .int .u8 11, .int .u8 5, .int .u8 10, .int .u8 9] t frozen
      | o => o)).modify 2 (fun o => match o with
      | .cells _ t frozen => .cells #[.int .u8 0, .int .u8 1, .int .u8 56, .int .u8 2, .int .u8 57, .int .u8 49, .int .u8 28, .int .u8 3, .int .u8 61, .int .u8 58, .int .u8 42, .int .u8 50, .int .u8 38, .int .u8 29, .int .u8 17, .int .u8 4, .int .u8 62, .int .u8 47, .int .u8 59, .int .u8 36, .int .u8 45, .int .u8 43, .int .u8 51, .int .u8 22, .int .u8 53, .int .u8 39, .int .u8 33, .int .u8 30, .int .u8 24, .int .u8 18, .int .u8 12, .int .u8 5, .int .u8 63, .int .u8 55, .int .u8 48, .int .u8 27, .int .u8 60, .int .u8 41, .int .u8 37, .int .u8 16, .int .u8 46, .int .u8 35, .int .u8 44, .int .u8 21, .int .u8 52, .int .u8 32, .int .u8 23, .int .u8 11, .int .u8 54, .int .u8 26, .int .u8 40, .int .u8 15, .int .u8 34, .int .u8 20, .int .u8 31, .int .u8 10, .int .u8 25, .int .u8 14, .int .u8 19, .int .u8 9, .int .u8 13, .int .u8 8, .int .u8 7, .int .u8 6] t frozen
      | o => o)).modify 0 (fun o => match o with
      | .cells _ t frozen => .cells #[.int .u64 1, .int .u64 10, .int .u64 100, .int .u64 1000, .int .u64 10000, .int .u64 100000, .int .u64 1000000, .int .u64 10000000, .int .u64 100000000, .int .u64 1000000000, .int .u64 10000000000, .int .u64 100000000000, .int .u64 1000000000000, .int .u64 10000000000000, .int .u64 100000000000000, .int .u64 1000000000000000, .int .u64 10000000000000000, .int .u64 100000000000000000, .int .u64 1000000000000000000, .int .u64 10000000000000000000] t frozen
      | o => o) }
set_option maxRecDepth 100000 in
theorem laid_met (os : Os) (args : Array Value) : laidMetH Tryd.prog Rows.fnKeysRow.laid ((laidWorld os).forCall (fun _ _ => 0) ⟨#[], args, []⟩).memory :=
  show laidMet Tryd.prog Rows.fnKeysRow.laid _ from laidMet_of_run' 8 (by kernel_rfl) (by kernel_rfl)
set_option maxRecDepth 100000 in
theorem gok {W : World} (h : laidMetH Tryd.prog Rows.fnKeysRow.laid W) : GOK Tryd.prog (fun _ => False) noN W :=
  have h' : laidMet Tryd.prog Rows.fnKeysRow.laid W := h
  gok_pow (l := Rows.fnKeysRow.laid) (g := 0) (t := 115) (e := 109) (by first | exact List.mem_of_getElem? (i := 2) rfl | simp [Rows.fnKeysRow]) (by kernel_rfl) (by kernel_rfl) Tryd.underlying115 Tryd.underlying109 (by kernel_rfl) (by kernel_rfl) (by kernel_rfl) (by kernel_rfl) h'
set_option maxRecDepth 100000 in
theorem lifted (os : Os) (started : os.Started) (H : Type) (enc : TypeId × Value → H) :
    ReturnsInHanded {} Tryd.checked os 3 .any (fun w args => (Rows.fnKeysSpec.pre enc Tryd.prog Tryd.f3 Rows.fnKeysRow.domain false w args ∧ laidMetH Tryd.prog Rows.fnKeysRow.laid w) ∧ sizedMet enc Tryd.prog Tryd.f3 (OpenSpec.ofChange Rows.fnKeysSpec) false w args) (Rows.fnKeysSpec.post enc Tryd.prog Tryd.f3 false true false false) := by
  refine returnsInHanded_of_change_and (C := Tryd.checked) (X := fun w _ => laidMetH Tryd.prog Rows.fnKeysRow.laid w) (fun _ _ _ hh h => h.of_heap hh) own started (by kernel_rfl) Tryd.func3
    (ChangeSpec.witness_at (enc := enc) (C := Tryd.checked) (os := os) (X := fun w _ => laidMetH Tryd.prog Rows.fnKeysRow.laid w) false (laidWorld os) #[.slice none 0 0, .slice none 0 0] 8 rfl (by kernel_rfl) (by kernel_rfl) (by kernel_rfl) (by kernel_rfl) (by kernel_rfl) (laid_met os _)) ?_
  intro W base args ds gs before hval hW hcnd _ hL _
  refine law_contract closedTs laid (by kernel_rfl) rfl rfl Tryd.underlying4 con (fun hl => ?_) hval hW (gok hL)
  match ds, hl with
  | [x0, x1], _ => rfl
theorem over : Rows.fnKeysRow.holds Tryd.pinned (OpenSpec.ofChange Rows.fnKeysSpec) :=
  OpenClaim.holds_of_wide 3 Tryd.f3 rfl rfl rfl rfl rfl rfl rfl ⟨rfl, rfl, rfl, rfl, rfl⟩ rfl rfl rfl rfl rfl (by kernel_rfl) Tryd.func3 (by kernel_rfl)
    (of_decide_eq_true (by kernel_rfl)) (by unfold Func.isWrapper; first | (rw [if_pos (by decide +kernel)]; kernel_rfl) | (rw [if_neg (by decide +kernel)]; exact ⟨rfl, rfl⟩))
    (fun os started H enc _ => lifted os started H enc)
theorem proved : Rows.FnKeysCardSaid :=
  Claim7.holds_tied_plain_at .later [] [.data, .data, .data] true (true, "170c882ff1a7f9f76d579f967808ff467e9e26a9f2e3ab2f597d493fe1041e99") false
    over (fun _ h => by cases h) (by kernel_rfl) (fun _ h => by cases h) fnKeys_row_tie rfl ⟨rfl, rfl⟩ (by kernel_rfl) rfl
    (fun f fn hf hfn => by
      obtain rfl : f = 3 := (Option.some.inj ((show Tryd.prog.funcNamed "loop.example/g00332/laws.FnKeys" = some 3 by kernel_rfl).symm.trans hf)).symm
      obtain rfl : fn = Tryd.f3 := (Option.some.inj (Tryd.func3.symm.trans hfn)).symm
      refine ⟨by kernel_rfl, fun j t ht => ?_⟩
      rw [Tryd.params3] at ht
      rcases j with _ | _ | j
      · obtain rfl : t = 22 := by simpa using ht.symm
        exact (show Tryd.prog.wantsStandIn 22 = false by kernel_rfl)
      · obtain rfl : t = 22 := by simpa using ht.symm
        exact (show Tryd.prog.wantsStandIn 22 = false by kernel_rfl)
      · simp at ht)
    (by kernel_rfl)
end fnKeys
end Go.Proofs.YtnloffjegicicaaDoor
#print axioms Go.Proofs.YtnloffjegicicaaDoor.fnKeys.proved
