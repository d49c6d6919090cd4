/- The law FnPage of the given program returns true for all arguments, and its arguments read behind the call as they read before: the statement FnPageSaid, with no condition. -/
import Derived.Test.YthalkmobccealaaW0
import Derived.Test.YthalkmobccealaaRows
namespace Go.Proofs.Ythalkmobccealaa
open Go Go.AM Go.ChangeShapes Go.RowKit
set_option linter.unusedVariables false
set_option linter.unusedSimpArgs false
namespace fnPage
set_option maxRecDepth 10000
/- loop.example/g00332/laws.FnPage -/
def k_c_FnPage : XCode :=
 .seq (.ops [.op (some 4) (.mov (.k (.bool false)))])
 (.keep [0, 1] (.seq (.seq (.ops [.op (some 28) (.mov (.t 0)),
   .op (some 29) (.lenS (.t 28)),
   .op (some 30) (.bin .gtr (.t 29) (.k (.int .i64 1048576))),
   .op (some 31) (.mov (.t 30)),
   .andor 35 false 3 31 [.op (some 32) (.mov (.t 1)), .op (some 33) (.lenS (.t 32)), .op (some 34) (.bin .gtr (.t 33) (.k (.int .i64 1048576)))] (.t 34)])
  (.keep [0, 1, 35] (.cond (.t 35)
  (.seq (.ops [.op (some 4) (.mov (.k (.bool true)))])
   (.keep [4] (.ret)))
  (.skip))))
 (.keep [0, 1] (.seq (.ops [.op (some 36) (.mov (.t 0)),
   .call (some 37) 13 [.t 36],
   .op (some 5) (.alloc [.int .i64 0, .nils 1]),
   .op none (.store 2 (.t 5) (.t 37))])
 (.keep [1, 5] (.seq (.ops [.op (some 39) (.loadN 2 (.t 5)),
   .call (some 40) 14 [.t 39, .k (.str [102, 114, 101, 115, 104])],
   .op (some 38) (.mov (.t 40)),
   .op (some 41) (.ext (.t 38) 0),
   .op (some 42) (.ext (.t 38) 1),
   .op (some 43) (.ext (.t 38) 2),
   .op (some 6) (.alloc [.int .i64 0, .nils 1]),
   .op none (.store 2 (.t 6) (.t 41)),
   .op (some 7) (.mov (.t 42)),
   .op (some 8) (.mov (.t 43))])
 (.keep [1, 5, 6, 7, 8] (.seq (.ops [.op (some 45) (.loadN 2 (.t 5)),
   .call (some 46) 15 [.t 45, .k (.str [102, 114, 101, 115, 104])],
   .op (some 44) (.mov (.t 46)),
   .op (some 47) (.ext (.t 44) 0),
   .op (some 48) (.ext (.t 44) 1),
   .op (some 49) (.ext (.t 44) 2),
   .op (some 9) (.alloc [.int .i64 0, .nils 1]),
   .op none (.store 2 (.t 9) (.t 47)),
   .op (some 10) (.mov (.t 48)),
   .op (some 11) (.mov (.t 49))])
 (.keep [1, 5, 6, 7, 8, 10, 11] (.seq (.ops [.op (some 51) (.loadN 2 (.t 5)),
   .call (some 52) 16 [.t 51],
   .op (some 50) (.mov (.t 52)),
   .op (some 53) (.ext (.t 50) 0),
   .op (some 54) (.ext (.t 50) 1),
   .op (some 12) (.mov (.t 53)),
   .op (some 13) (.mov (.t 54))])
 (.keep [1, 5, 6, 7, 8, 10, 11, 12, 13] (.seq (.seq (.ops [.op (some 55) (.mov (.t 8)),
   .op (some 56) (.mov (.t 11)),
   .op (some 57) (.bin .neq (.t 55) (.t 56)),
   .op (some 58) (.mov (.t 57)),
   .andor 62 false 3 58 [.op (some 59) (.mov (.t 7)), .op (some 60) (.mov (.t 10)), .op (some 61) (.bin .neq (.t 59) (.t 60))] (.t 61),
   .op (some 63) (.mov (.t 62)),
   .andor 66 false 8 63 [.op (some 64) (.mov (.t 13)), .op (some 65) (.bin .neq (.t 64) (.k (.int .i64 0)))] (.t 65),
   .op (some 67) (.mov (.t 66)),
   .andor 73 false 12 67 [.op (some 68) (.mov (.t 8)), .op (some 69) (.bin .eql (.t 68) (.k (.int .i64 7))), .op (some 70) (.mov (.t 12)), .op (some 71) (.bin .eql (.t 70) (.k (.int .i64 4))), .op (some 72) (.eqb true (.t 69) (.t 71))] (.t 72)])
  (.keep [1, 5, 6, 7, 8, 12, 73] (.cond (.t 73)
  (.seq (.ops [.op (some 4) (.mov (.k (.bool false)))])
   (.keep [4] (.ret)))
  (.skip))))
 (.keep [1, 5, 6, 7, 8, 12] (.seq (.seq (.ops [.op (some 74) (.mov (.t 8)),
   .op (some 75) (.bin .eql (.t 74) (.k (.int .i64 0)))])
  (.keep [1, 5, 6, 7, 12, 75] (.cond (.t 75)
  (.seq (.ops [.op (some 77) (.loadN 2 (.t 6)),
    .call (some 78) 16 [.t 77],
    .op (some 76) (.mov (.t 78)),
    .op (some 79) (.ext (.t 76) 0),
    .op (some 80) (.ext (.t 76) 1),
    .op (some 14) (.mov (.t 79)),
    .op (some 15) (.mov (.t 80))])
   (.keep [1, 5, 6, 7, 12, 14, 15] (.seq (.ops [.op (some 81) (.mov (.t 15)),
    .op (some 82) (.bin .neq (.t 81) (.k (.int .i64 0))),
    .op (some 83) (.mov (.t 82)),
    .andor 88 false 2 83 [.op (some 84) (.mov (.t 14)), .op (some 85) (.mov (.t 12)), .op (some 86) (.bin .add (.t 85) (.k (.int .i64 1))), .op (some 87) (.bin .neq (.t 84) (.t 86))] (.t 87),
    .op (some 89) (.mov (.t 88)),
    .andor 96 false 8 89 [.op (some 90) (.fadr (.t 6) 1), .op (some 91) (.load1 (.t 90)), .op (some 92) (.mov (.t 7)), .op (some 93) (.iadr 1 (.t 91) (.t 92)), .op (some 94) (.load1 (.t 93)), .op (some 95) (.bin .neq (.t 94) (.k (.str [102, 114, 101, 115, 104])))] (.t 95),
    .op (some 97) (.mov (.t 96)),
    .andor 104 false 16 97 [.op (some 98) (.fadr (.t 5) 1), .op (some 99) (.load1 (.t 98)), .op (some 100) (.mov (.t 7)), .op (some 101) (.iadr 1 (.t 99) (.t 100)), .op (some 102) (.load1 (.t 101)), .op (some 103) (.bin .neq (.t 102) (.k (.str [])))] (.t 103)])
   (.keep [1, 5, 104] (.cond (.t 104)
   (.seq (.ops [.op (some 4) (.mov (.k (.bool false)))])
    (.keep [4] (.ret)))
   (.skip))))))
  (.skip))))
 (.keep [1, 5] (.seq (.ops [.op (some 105) (.mov (.t 1)),
   .call (some 106) 17 [.t 105, .k (.int .i64 0), .k (.int .i64 4)],
   .op (some 16) (.mov (.t 106))])
 (.keep [5, 16] (.seq (.ops [.op (some 108) (.loadN 2 (.t 5)),
   .op (some 109) (.mov (.t 16)),
   .call (some 110) 18 [.t 108, .t 109, .k (.str [115, 101, 116]), .k (.int .i64 77)],
   .op (some 107) (.mov (.t 110)),
   .op (some 111) (.ext (.t 107) 0),
   .op (some 112) (.ext (.t 107) 1),
   .op (some 17) (.alloc [.int .i64 0, .nils 1]),
   .op none (.store 2 (.t 17) (.t 111)),
   .op (some 18) (.mov (.t 112))])
 (.keep [5, 16, 17, 18] (.seq (.seq (.ops [.op (some 113) (.mov (.t 18)),
   .op (some 114) (.bin .neq (.t 113) (.k (.int .i64 0))),
   .op (some 115) (.mov (.t 114)),
   .andor 119 false 2 115 [.op (some 116) (.fadr (.t 17) 0), .op (some 117) (.load1 (.t 116)), .op (some 118) (.bin .neq (.t 117) (.k (.int .i64 77)))] (.t 118),
   .op (some 120) (.mov (.t 119)),
   .andor 125 false 7 120 [.op (some 121) (.fadr (.t 17) 1), .op (some 122) (.load1 (.t 121)), .op (some 123) (.lenS (.t 122)), .op (some 124) (.bin .neq (.t 123) (.k (.int .i64 4)))] (.t 124)])
  (.keep [5, 16, 17, 125] (.cond (.t 125)
  (.seq (.ops [.op (some 4) (.mov (.k (.bool false)))])
   (.keep [4] (.ret)))
  (.skip))))
 (.keep [5, 16, 17] (.seq (.seq (.ops [.op (some 19) (.mov (.k (.int .i64 0)))])
  (.keep [5, 16, 17, 19] (.block 0 (.loop (.seq (.seq (.ops [.op (some 126) (.mov (.t 19)),
     .op (some 127) (.bin .lss (.t 126) (.k (.int .i64 4)))])
   (.keep [5, 16, 17, 19, 127] (.cond (.t 127)
    (.skip)
    (.exit 0))))
   (.keep [5, 16, 17, 19] (.seq (.block 1 (.seq (.draw [.op (some 130) (.mov (.t 19)),
     .op (some 131) (.mov (.t 16)),
     .op (some 132) (.bin .eql (.t 130) (.t 131)),
     .op (some 133) (.mov (.t 132)),
     .andor 140 true 3 133 [.op (some 134) (.fadr (.t 17) 1), .op (some 135) (.load1 (.t 134)), .op (some 136) (.mov (.t 19)), .op (some 137) (.iadr 1 (.t 135) (.t 136)), .op (some 138) (.load1 (.t 137)), .op (some 139) (.bin .neq (.t 138) (.k (.str [115, 101, 116])))] (.t 139),
     .op (some 141) (.mov (.t 140)),
     .andor 158 false 11 141 [.op (some 142) (.mov (.t 19)), .op (some 143) (.mov (.t 16)), .op (some 144) (.bin .neq (.t 142) (.t 143)), .op (some 145) (.mov (.t 144)), .andor 157 true 15 145 [.op (some 146) (.fadr (.t 17) 1), .op (some 147) (.load1 (.t 146)), .op (some 148) (.mov (.t 19)), .op (some 149) (.iadr 1 (.t 147) (.t 148)), .op (some 150) (.load1 (.t 149)), .op (some 151) (.fadr (.t 5) 1), .op (some 152) (.load1 (.t 151)), .op (some 153) (.mov (.t 19)), .op (some 154) (.iadr 1 (.t 152) (.t 153)), .op (some 155) (.load1 (.t 154)), .op (some 156) (.bin .neq (.t 150) (.t 155))] (.t 156)] (.t 157)])
    (.keep [5, 16, 17, 19, 158] (.cond (.t 158)
    (.seq (.ops [.op (some 4) (.mov (.k (.bool false)))])
     (.keep [4] (.ret)))
    (.skip)))))
   (.keep [5, 16, 17, 19] (.ops [.op (some 128) (.mov (.t 19)),
    .op (some 129) (.bin .add (.t 128) (.k (.int .i64 1))),
    .op (some 19) (.mov (.t 129))])))))))))
 (.keep [17] (.seq (.ops [.op (some 160) (.loadN 2 (.t 17)),
   .call (some 161) 19 [.k (.int .i64 5), .t 160],
   .op (some 159) (.mov (.t 161)),
   .op (some 162) (.ext (.t 159) 0),
   .op (some 163) (.ext (.t 159) 1),
   .op (some 20) (.mov (.t 162)),
   .op (some 21) (.mov (.t 163))])
 (.keep [17, 20, 21] (.seq (.ops [.op (some 165) (.loadN 2 (.t 17)),
   .call (some 166) 20 [.k (.int .i64 5), .t 165],
   .op (some 164) (.mov (.t 166)),
   .op (some 167) (.ext (.t 164) 0),
   .op (some 168) (.ext (.t 164) 1),
   .op (some 22) (.mov (.t 167)),
   .op (some 23) (.mov (.t 168))])
 (.keep [17, 20, 21, 22] (.seq (.ops [.op (some 170) (.mov (.t 20)),
   .call (some 171) 21 [.k (.int .i64 5), .t 170],
   .op (some 169) (.mov (.t 171)),
   .op (some 172) (.ext (.t 169) 0),
   .op (some 173) (.ext (.t 169) 1),
   .op (some 24) (.alloc [.int .i64 0, .nils 1]),
   .op none (.store 2 (.t 24) (.t 172)),
   .op (some 25) (.mov (.t 173))])
 (.keep [17, 20, 21, 22, 24, 25] (.seq (.ops [.op (some 175) (.mov (.t 20)),
   .call (some 176) 21 [.k (.int .i64 6), .t 175],
   .op (some 174) (.mov (.t 176)),
   .op (some 177) (.ext (.t 174) 0),
   .op (some 178) (.ext (.t 174) 1),
   .op (some 26) (.alloc [.int .i64 0, .nils 1]),
   .op none (.store 2 (.t 26) (.t 177)),
   .op (some 27) (.mov (.t 178))])
 (.keep [17, 20, 21, 22, 24, 25, 27] (.seq (.ops [.op (some 179) (.mov (.t 21)),
   .op (some 180) (.bin .eql (.t 179) (.k (.int .i64 0))),
   .op (some 181) (.mov (.t 180)),
   .andor 187 true 2 181 [.op (some 182) (.mov (.t 20)), .op (some 183) (.b2s (.t 182)), .op (some 184) (.mov (.t 22)), .op (some 185) (.b2s (.t 184)), .op (some 186) (.bin .eql (.t 183) (.t 185))] (.t 186),
   .op (some 188) (.mov (.t 187)),
   .andor 192 true 9 188 [.op (some 189) (.mov (.t 20)), .op (some 190) (.lenS (.t 189)), .op (some 191) (.bin .leq (.t 190) (.k (.int .i64 160)))] (.t 191),
   .op (some 193) (.mov (.t 192)),
   .andor 196 true 14 193 [.op (some 194) (.mov (.t 25)), .op (some 195) (.bin .eql (.t 194) (.k (.int .i64 0)))] (.t 195),
   .op (some 197) (.mov (.t 196)),
   .andor 201 true 18 197 [.op (some 198) (.loadN 2 (.t 24)), .op (some 199) (.loadN 2 (.t 17)), .call (some 200) 22 [.t 198, .t 199]] (.t 200),
   .op (some 202) (.mov (.t 201)),
   .andor 205 true 23 202 [.op (some 203) (.mov (.t 27)), .op (some 204) (.bin .eql (.t 203) (.k (.int .i64 3)))] (.t 204),
   .op (some 206) (.mov (.t 205)),
   .andor 209 true 27 206 [.op (some 207) (.loadN 2 (.t 17)), .call (some 208) 23 [.t 207]] (.t 208),
   .op (some 210) (.mov (.t 209)),
   .andor 214 true 31 210 [.call (some 211) 24 [], .call (some 212) 25 [], .call (some 213) 22 [.t 211, .t 212]] (.t 213),
   .op (some 4) (.mov (.t 214))])
 (.keep [4] (.ret))))))))))))))))))))))))))))))))))
theorem k_c_FnPage_fits : fitsF Try.prog 4 ⟨215, k_c_FnPage, [.t 4]⟩ = true := by kernel_rfl
set_option maxHeartbeats 4000000 in
theorem c_FnPage {code more : Str} (w0 : wfL (fun _ => True) code) (w1 : wfL (fun _ => True) more) : Con Try.prog noMv 4 [.d (.sl 1 (code.map byteRow)), .d (.sl 1 (more.map byteRow))] [] (fun r h => r = bool true ∧ h = []) := by
 refine con_of2 k_c_FnPage_fits rfl fun C hP hmv => ?_
 unfold k_c_FnPage
 refine cx_seq ?_
 refine cx_ops ?_
 refine ax_q (q_mov rfl) ?_
 refine ax_nil ?_
 refine cx_keep rfl rfl ?_
 refine cx_seq ?_
 refine cx_seq ?_
 refine cx_ops ?_
 refine ax_q (q_mov rfl) ?_
 first | refine ax_q (q_lenS_map rfl) ?_ | refine ax_q (q_lenS_osl rfl) ?_ | refine ax_q (q_lenS_zs rfl) ?_ | refine ax_q (q_lenS rfl) ?_
 refine ax_q (q_ibin rfl rfl rfl) ?_
 refine ax_q (q_mov rfl) ?_
 apply ax_or rfl rfl
 ·
  intro g
  have g := dF g
  refine ax_q (q_mov rfl) ?_
  first | refine ax_q (q_lenS_map rfl) ?_ | refine ax_q (q_lenS_osl rfl) ?_ | refine ax_q (q_lenS_zs rfl) ?_ | refine ax_q (q_lenS rfl) ?_
  refine ax_q (q_ibin rfl rfl rfl) ?_
  exact ax_nil ⟨rfl, by repeat (first | exact trivial | refine ⟨rfl, ?_⟩ | refine ⟨?_, ?_⟩)⟩
 refine ax_nil ?_
 refine cx_keep rfl rfl ?_
 refine cx_cond rfl (fun h0 => ?_) (fun h0 => ?_)
 ·
  have h0 := (fun h => (or_T h).imp dT dT) h0
  refine cx_seq ?_
  refine cx_ops ?_
  refine ax_q (q_mov rfl) ?_
  refine ax_nil ?_
  refine cx_keep rfl rfl ?_
  refine cx_ret (ret0 rfl rfl ?_)
  exact ⟨rfl, rfl⟩
 ·
  have h0 := (fun h => And.intro (dF (or_F h).1) (dF (or_F h).2)) h0
  have hlc : code.length ≤ 1048576 := by omega
  have hlm : more.length ≤ 1048576 := by omega
  refine cx_skip ?_
  refine cx_keep rfl rfl ?_
  refine cx_seq ?_
  refine cx_ops ?_
  refine ax_q (q_mov rfl) ?_
  first | refine ax_call rfl (vc_pure (c_PageOf  ?_) hP rfl ?_) | refine ax_call rfl (vc_lend (c_PageOf  ?_) hP (by repeat (first | exact lal_id _ rfl | exact LAL.nil | refine LAL.cons ?_ ?_ | exact la_id _ rfl | exact LA.lend (lend_whole rfl (by first | (simp; done) | (rw [List.length_map]; rfl))) | refine LA.agg ?_ | refine LA.fn ?_ | refine LA.lend ?_ | exact Lend.d _ | exact Lend.zs _ | exact lend_whole rfl (by first | (simp; done) | (rw [List.length_map]; rfl)) | refine Lend.ptr rfl ?_ | refine Lend.fn ?_ | exact LendL.nil | refine LendL.cons ?_ ?_)) ?_)
  ·
   first | assumption | omega | (simp; done) | (simp; omega)
  rintro r h ⟨p, hp, rfl, rfl⟩
  refine ⟨fun i => 37 + 200 * i, [0], ⟨rfl, rfl, rfl, rfl, rfl, (by first | exact (fun h => absurd h Bool.false_ne_true) | exact (fun _ => ⟨rfl, (noisl_of ⟨noisl_map (fun _ => rfl), trivial⟩)⟩))⟩, ?_⟩
  skip
  obtain ⟨q, k, c, ei, hql, hk0, hk4, hfc⟩ := ins_fact (F := [102, 114, 101, 115, 104]) hp (by decide) (by decide)
  have hpl := hp.ln
  have hpo := hp.ok
  obtain ⟨hat0, hat4⟩ := @atF_bounds more 0 4 (by omega)
  obtain ⟨es, ht⟩ := set_ok (F := [115, 101, 116]) (n := 77) hp ⟨hat0, hat4⟩ (by decide) (by omega)
  have hti : ∀ i, i < 4 → (⟨77, p.slots.set (atF more 0 4).toNat [115, 101, 116]⟩ : Page).slots.getD i [] = if (i : Int) = atF more 0 4 then [115, 101, 116] else p.slots.getD i [] := fun i hi => set_get (by omega) hat0
  have ht7 : (⟨77, p.slots.set (atF more 0 4).toNat [115, 101, 116]⟩ : Page).lsn = 77 := rfl
  generalize (⟨77, p.slots.set (atF more 0 4).toNat [115, 101, 116]⟩ : Page) = t at es ht hti ht7
  have htl := ht.ln
  have hto := ht.ok
  have hbl := pb_len (no := 5) ht
  have r5 := rp_pb (no := 5) (nx := 5) ht (by omega)
  have r6 := rp_pb (no := 5) (nx := 6) ht (by omega)
  rw [if_pos rfl] at r5
  rw [if_neg (by decide)] at r6
  generalize he : atF more 0 4 = slot at es hti hat0 hat4
  refine ax_e (e_alloc (by decide) rfl rfl) ?_
  refine ax_e (e_st rfl rfl rfl rfl rfl rfl rfl) ?_
  refine ax_nil ?_
  refine cx_keep rfl rfl ?_
  refine cx_seq ?_
  refine cx_ops ?_
  refine ax_q (q_ldN rfl rfl rfl) ?_
  first | refine ax_call rfl (vc_pure (c_PageInsert (p := p) (x := [102, 114, 101, 115, 104]) ?_) hP rfl ?_) | refine ax_call rfl (vc_lend (c_PageInsert (p := p) (x := [102, 114, 101, 115, 104]) ?_) hP (by repeat (first | exact lal_id _ rfl | exact LAL.nil | refine LAL.cons ?_ ?_ | exact la_id _ rfl | exact LA.lend (lend_whole rfl (by first | (simp; done) | (rw [List.length_map]; rfl))) | refine LA.agg ?_ | refine LA.fn ?_ | refine LA.lend ?_ | exact Lend.d _ | exact Lend.zs _ | exact lend_whole rfl (by first | (simp; done) | (rw [List.length_map]; rfl)) | refine Lend.ptr rfl ?_ | refine Lend.fn ?_ | exact LendL.nil | refine LendL.cons ?_ ?_)) ?_)
  ·
   first | assumption | omega | (simp; done) | (simp; omega)
  rintro r h ⟨rfl, rfl⟩
  refine ⟨fun i => 40 + 200 * i, [0], ⟨rfl, rfl, rfl, rfl, rfl, (by first | exact (fun h => absurd h Bool.false_ne_true) | exact (fun _ => ⟨rfl, (noisl_of (by repeat (first | exact trivial | refine ⟨noisl_map (fun _ => rfl), ?_⟩ | refine ⟨?_, ?_⟩)))⟩))⟩, ?_⟩
  skip
  rw [ei]
  dsimp only
  refine ax_q (q_mov rfl) ?_
  refine ax_q (q_ext rfl rfl) ?_
  refine ax_q (q_ext rfl rfl) ?_
  refine ax_q (q_ext rfl rfl) ?_
  refine ax_e (e_alloc (by decide) rfl rfl) ?_
  refine ax_e (e_st rfl rfl rfl rfl rfl rfl rfl) ?_
  refine ax_q (q_mov rfl) ?_
  refine ax_q (q_mov rfl) ?_
  refine ax_nil ?_
  refine cx_keep rfl rfl ?_
  refine cx_seq ?_
  refine cx_ops ?_
  refine ax_q (q_ldN rfl rfl rfl) ?_
  first | refine ax_call rfl (vc_pure (c_sPageInsert (p := p) (x := [102, 114, 101, 115, 104]) ?_) hP rfl ?_) | refine ax_call rfl (vc_lend (c_sPageInsert (p := p) (x := [102, 114, 101, 115, 104]) ?_) hP (by repeat (first | exact lal_id _ rfl | exact LAL.nil | refine LAL.cons ?_ ?_ | exact la_id _ rfl | exact LA.lend (lend_whole rfl (by first | (simp; done) | (rw [List.length_map]; rfl))) | refine LA.agg ?_ | refine LA.fn ?_ | refine LA.lend ?_ | exact Lend.d _ | exact Lend.zs _ | exact lend_whole rfl (by first | (simp; done) | (rw [List.length_map]; rfl)) | refine Lend.ptr rfl ?_ | refine Lend.fn ?_ | exact LendL.nil | refine LendL.cons ?_ ?_)) ?_)
  ·
   first | assumption | omega | (simp; done) | (simp; omega)
  rintro r h ⟨rfl, rfl⟩
  refine ⟨fun i => 46 + 200 * i, [0], ⟨rfl, rfl, rfl, rfl, rfl, (by first | exact (fun h => absurd h Bool.false_ne_true) | exact (fun _ => ⟨rfl, (noisl_of (by repeat (first | exact trivial | refine ⟨noisl_map (fun _ => rfl), ?_⟩ | refine ⟨?_, ?_⟩)))⟩))⟩, ?_⟩
  skip
  rw [ei]
  dsimp only
  refine ax_q (q_mov rfl) ?_
  refine ax_q (q_ext rfl rfl) ?_
  refine ax_q (q_ext rfl rfl) ?_
  refine ax_q (q_ext rfl rfl) ?_
  refine ax_e (e_alloc (by decide) rfl rfl) ?_
  refine ax_e (e_st rfl rfl rfl rfl rfl rfl rfl) ?_
  refine ax_q (q_mov rfl) ?_
  refine ax_q (q_mov rfl) ?_
  refine ax_nil ?_
  refine cx_keep rfl rfl ?_
  refine cx_seq ?_
  refine cx_ops ?_
  refine ax_q (q_ldN rfl rfl rfl) ?_
  first | refine ax_call rfl (vc_pure0 (c_PageUsed (p := p) ?_) hP rfl rfl ?_) | refine ax_call rfl (vc_lend0 (c_PageUsed (p := p) ?_) hP (by repeat (first | exact lal_id _ rfl | exact LAL.nil | refine LAL.cons ?_ ?_ | exact la_id _ rfl | exact LA.lend (lend_whole rfl (by first | (simp; done) | (rw [List.length_map]; rfl))) | refine LA.agg ?_ | refine LA.fn ?_ | refine LA.lend ?_ | exact Lend.d _ | exact Lend.zs _ | exact lend_whole rfl (by first | (simp; done) | (rw [List.length_map]; rfl)) | refine Lend.ptr rfl ?_ | refine Lend.fn ?_ | exact LendL.nil | refine LendL.cons ?_ ?_)) rfl rfl ?_)
  ·
   first | assumption | omega | (simp; done) | (simp; omega)
  rw [if_pos hpo, if_pos hpo]
  have hul : usedN p.slots ≤ p.slots.length := usedK_le
  refine ax_q (q_mov rfl) ?_
  refine ax_q (q_ext rfl rfl) ?_
  refine ax_q (q_ext rfl rfl) ?_
  refine ax_q (q_mov rfl) ?_
  refine ax_q (q_mov rfl) ?_
  refine ax_nil ?_
  refine cx_keep rfl rfl ?_
  refine cx_seq ?_
  refine cx_seq ?_
  refine cx_ops ?_
  refine ax_q (q_mov rfl) ?_
  refine ax_q (q_mov rfl) ?_
  refine ax_q (q_ibin rfl rfl rfl) ?_
  refine ax_q (q_mov rfl) ?_
  apply ax_or rfl rfl
  ·
   intro g
   have g := nF g
   refine ax_q (q_mov rfl) ?_
   refine ax_q (q_mov rfl) ?_
   refine ax_q (q_ibin rfl rfl rfl) ?_
   exact ax_nil ⟨rfl, by repeat (first | exact trivial | refine ⟨rfl, ?_⟩ | refine ⟨?_, ?_⟩)⟩
  refine ax_q (q_mov rfl) ?_
  apply ax_or rfl rfl
  ·
   intro g
   have g := (fun h => And.intro (nF (or_F h).1) (nF (or_F h).2)) g
   refine ax_q (q_mov rfl) ?_
   refine ax_q (q_ibin rfl rfl rfl) ?_
   exact ax_nil ⟨rfl, by repeat (first | exact trivial | refine ⟨rfl, ?_⟩ | refine ⟨?_, ?_⟩)⟩
  refine ax_q (q_mov rfl) ?_
  apply ax_or rfl rfl
  ·
   intro g
   have g := (fun h => And.intro ((fun h => And.intro (nF (or_F h).1) (nF (or_F h).2)) (or_F h).1) (nF (or_F h).2)) g
   refine ax_q (q_mov rfl) ?_
   refine ax_q (q_ibin rfl rfl rfl) ?_
   refine ax_q (q_mov rfl) ?_
   refine ax_q (q_ibin rfl rfl rfl) ?_
   refine ax_q (q_eqb rfl rfl) ?_
   exact ax_nil ⟨rfl, by repeat (first | exact trivial | refine ⟨rfl, ?_⟩ | refine ⟨?_, ?_⟩)⟩
  refine ax_nil ?_
  refine cx_keep rfl rfl ?_
  refine cx_cond rfl (fun h1 => ?_) (fun h1 => ?_)
  ·
   have h1 := (fun h => (or_T h).imp (fun h => (or_T h).imp (fun h => (or_T h).imp nT nT) nT) bneT) h1
   exfalso
   rcases h1 with ((h | h) | h) | h
   ·
    exact h rfl
   ·
    exact h rfl
   ·
    exact h rfl
   ·
    rcases hfc with ⟨f1, f2⟩ | ⟨f1, f2, _⟩
    ·
     rw [f1, f2] at h; exact h rfl
    ·
     have f3 : ¬ ((usedN p.slots : Nat) : Int) = 4 := by omega
     rw [f1, decide_eq_false f3] at h; exact h rfl
  ·
   have h1 := (fun h => And.intro ((fun h => And.intro ((fun h => And.intro (nF (or_F h).1) (nF (or_F h).2)) (or_F h).1) (nF (or_F h).2)) (or_F h).1) (bneF (or_F h).2)) h1
   refine cx_skip ?_
   refine cx_keep rfl rfl ?_
   refine cx_seq ?_
   refine cx_seq ?_
   refine cx_ops ?_
   refine ax_q (q_mov rfl) ?_
   refine ax_q (q_ibin rfl rfl rfl) ?_
   refine ax_nil ?_
   refine cx_keep rfl rfl ?_
   refine cx_cond rfl (fun h2 => ?_) (fun h2 => ?_)
   ·
    have h2 := dT h2
    obtain ⟨_, hu4, hqo, hqu, hqg, hpg⟩ := hfc.resolve_left (fun h => by omega)
    refine cx_seq ?_
    refine cx_ops ?_
    refine ax_q (q_ldN rfl rfl rfl) ?_
    first | refine ax_call rfl (vc_pure0 (c_PageUsed (p := q) ?_) hP rfl rfl ?_) | refine ax_call rfl (vc_lend0 (c_PageUsed (p := q) ?_) hP (by repeat (first | exact lal_id _ rfl | exact LAL.nil | refine LAL.cons ?_ ?_ | exact la_id _ rfl | exact LA.lend (lend_whole rfl (by first | (simp; done) | (rw [List.length_map]; rfl))) | refine LA.agg ?_ | refine LA.fn ?_ | refine LA.lend ?_ | exact Lend.d _ | exact Lend.zs _ | exact lend_whole rfl (by first | (simp; done) | (rw [List.length_map]; rfl)) | refine Lend.ptr rfl ?_ | refine Lend.fn ?_ | exact LendL.nil | refine LendL.cons ?_ ?_)) rfl rfl ?_)
    ·
     first | assumption | omega | (simp; done) | (simp; omega)
    rw [if_pos hqo, if_pos hqo, hqu]
    refine ax_q (q_mov rfl) ?_
    refine ax_q (q_ext rfl rfl) ?_
    refine ax_q (q_ext rfl rfl) ?_
    refine ax_q (q_mov rfl) ?_
    refine ax_q (q_mov rfl) ?_
    refine ax_nil ?_
    refine cx_keep rfl rfl ?_
    refine cx_seq ?_
    refine cx_ops ?_
    refine ax_q (q_mov rfl) ?_
    refine ax_q (q_ibin rfl rfl rfl) ?_
    refine ax_q (q_mov rfl) ?_
    apply ax_or rfl rfl
    ·
     intro g
     have g := nF g
     refine ax_q (q_mov rfl) ?_
     refine ax_q (q_mov rfl) ?_
     refine ax_q (q_add rfl rfl (by omega)) ?_
     refine ax_q (q_ibin rfl rfl rfl) ?_
     exact ax_nil ⟨rfl, by repeat (first | exact trivial | refine ⟨rfl, ?_⟩ | refine ⟨?_, ?_⟩)⟩
    refine ax_q (q_mov rfl) ?_
    apply ax_or rfl rfl
    ·
     intro g
     have g := (fun h => And.intro (nF (or_F h).1) (nF (or_F h).2)) g
     refine ax_q (q_fadr_ptr rfl) ?_
     refine ax_q (q_load1_ptr rfl rfl rfl) ?_
     refine ax_q (q_mov rfl) ?_
     refine ax_q (q_ixoI rfl rfl (by omega) (by omega)) ?_
     refine ax_qe (r' := str (q.slots.getD k.toNat [])) (q_load1_rptr rfl rfl (mapAt (by omega)) rfl) (by rw [getDs (by omega)]) ?_
     refine ax_q (q_sbin rfl rfl rfl) ?_
     exact ax_nil ⟨rfl, by repeat (first | exact trivial | refine ⟨rfl, ?_⟩ | refine ⟨?_, ?_⟩)⟩
    refine ax_q (q_mov rfl) ?_
    apply ax_or rfl rfl
    ·
     intro g
     have g := (fun h => And.intro ((fun h => And.intro (nF (or_F h).1) (nF (or_F h).2)) (or_F h).1) (nF (or_F h).2)) g
     refine ax_q (q_fadr_ptr rfl) ?_
     refine ax_q (q_load1_ptr rfl rfl rfl) ?_
     refine ax_q (q_mov rfl) ?_
     refine ax_q (q_ixoI rfl rfl (by omega) (by omega)) ?_
     refine ax_qe (r' := str (p.slots.getD k.toNat [])) (q_load1_rptr rfl rfl (mapAt (by omega)) rfl) (by rw [getDs (by omega)]) ?_
     refine ax_q (q_sbin rfl rfl rfl) ?_
     exact ax_nil ⟨rfl, by repeat (first | exact trivial | refine ⟨rfl, ?_⟩ | refine ⟨?_, ?_⟩)⟩
    refine ax_nil ?_
    refine cx_keep rfl rfl ?_
    refine cx_cond rfl (fun h3 => ?_) (fun h3 => ?_)
    ·
     have h3 := (fun h => (or_T h).imp (fun h => (or_T h).imp (fun h => (or_T h).imp nT nT) nT) nT) h3
     exfalso
     rcases h3 with ((h | h) | h) | h
     ·
      exact h rfl
     ·
      exact h (by omega)
     ·
      exact h hqg
     ·
      exact h hpg
    ·
     have h3 := (fun h => And.intro ((fun h => And.intro ((fun h => And.intro (nF (or_F h).1) (nF (or_F h).2)) (or_F h).1) (nF (or_F h).2)) (or_F h).1) (nF (or_F h).2)) h3
     refine cx_skip ?_
     refine cx_keep rfl rfl ?_
     refine cx_seq ?_
     refine cx_ops ?_
     refine ax_q (q_mov rfl) ?_
     first | refine ax_call rfl (vc_pure0 (c_at  ?_ ?_ ?_) hP rfl rfl ?_) | refine ax_call rfl (vc_lend0 (c_at  ?_ ?_ ?_) hP (by repeat (first | exact lal_id _ rfl | exact LAL.nil | refine LAL.cons ?_ ?_ | exact la_id _ rfl | exact LA.lend (lend_whole rfl (by first | (simp; done) | (rw [List.length_map]; rfl))) | refine LA.agg ?_ | refine LA.fn ?_ | refine LA.lend ?_ | exact Lend.d _ | exact Lend.zs _ | exact lend_whole rfl (by first | (simp; done) | (rw [List.length_map]; rfl)) | refine Lend.ptr rfl ?_ | refine Lend.fn ?_ | exact LendL.nil | refine LendL.cons ?_ ?_)) rfl rfl ?_)
     ·
      first | assumption | omega | (simp; done) | (simp; omega)
     ·
      first | assumption | omega | (simp; done) | (simp; omega)
     ·
      first | assumption | omega | (simp; done) | (simp; omega)
     rw [he]
     refine ax_q (q_mov rfl) ?_
     refine ax_nil ?_
     refine cx_keep rfl rfl ?_
     refine cx_seq ?_
     refine cx_ops ?_
     refine ax_q (q_ldN rfl rfl rfl) ?_
     refine ax_q (q_mov rfl) ?_
     first | refine ax_call rfl (vc_pure (c_PageSet (p := p) (slot := slot) (lsn := 77) (x := [115, 101, 116]) ?_) hP rfl ?_) | refine ax_call rfl (vc_lend (c_PageSet (p := p) (slot := slot) (lsn := 77) (x := [115, 101, 116]) ?_) hP (by repeat (first | exact lal_id _ rfl | exact LAL.nil | refine LAL.cons ?_ ?_ | exact la_id _ rfl | exact LA.lend (lend_whole rfl (by first | (simp; done) | (rw [List.length_map]; rfl))) | refine LA.agg ?_ | refine LA.fn ?_ | refine LA.lend ?_ | exact Lend.d _ | exact Lend.zs _ | exact lend_whole rfl (by first | (simp; done) | (rw [List.length_map]; rfl)) | refine Lend.ptr rfl ?_ | refine Lend.fn ?_ | exact LendL.nil | refine LendL.cons ?_ ?_)) ?_)
     ·
      first | assumption | omega | (simp; done) | (simp; omega)
     rintro r h ⟨rfl, rfl⟩
     refine ⟨fun i => 110 + 200 * i, [0], ⟨rfl, rfl, rfl, rfl, rfl, (by first | exact (fun h => absurd h Bool.false_ne_true) | exact (fun _ => ⟨rfl, (noisl_of (by repeat (first | exact trivial | refine ⟨noisl_map (fun _ => rfl), ?_⟩ | refine ⟨?_, ?_⟩)))⟩))⟩, ?_⟩
     skip
     rw [es]
     dsimp only
     refine ax_q (q_mov rfl) ?_
     refine ax_q (q_ext rfl rfl) ?_
     refine ax_q (q_ext rfl rfl) ?_
     refine ax_e (e_alloc (by decide) rfl rfl) ?_
     refine ax_e (e_st rfl rfl rfl rfl rfl rfl rfl) ?_
     refine ax_q (q_mov rfl) ?_
     refine ax_nil ?_
     refine cx_keep rfl rfl ?_
     refine cx_seq ?_
     refine cx_seq ?_
     refine cx_ops ?_
     refine ax_q (q_mov rfl) ?_
     refine ax_q (q_ibin rfl rfl rfl) ?_
     refine ax_q (q_mov rfl) ?_
     apply ax_or rfl rfl
     ·
      intro g
      have g := nF g
      refine ax_q (q_fadr_ptr rfl) ?_
      refine ax_q (q_load1_ptr rfl rfl rfl) ?_
      refine ax_q (q_ibin rfl rfl rfl) ?_
      exact ax_nil ⟨rfl, by repeat (first | exact trivial | refine ⟨rfl, ?_⟩ | refine ⟨?_, ?_⟩)⟩
     refine ax_q (q_mov rfl) ?_
     apply ax_or rfl rfl
     ·
      intro g
      have g := (fun h => And.intro (nF (or_F h).1) (nF (or_F h).2)) g
      refine ax_q (q_fadr_ptr rfl) ?_
      refine ax_q (q_load1_ptr rfl rfl rfl) ?_
      first | refine ax_q (q_lenS_map rfl) ?_ | refine ax_q (q_lenS_osl rfl) ?_ | refine ax_q (q_lenS_zs rfl) ?_ | refine ax_q (q_lenS rfl) ?_
      refine ax_q (q_ibin rfl rfl rfl) ?_
      exact ax_nil ⟨rfl, by repeat (first | exact trivial | refine ⟨rfl, ?_⟩ | refine ⟨?_, ?_⟩)⟩
     refine ax_nil ?_
     refine cx_keep rfl rfl ?_
     refine cx_cond rfl (fun h4 => ?_) (fun h4 => ?_)
     ·
      have h4 := (fun h => (or_T h).imp (fun h => (or_T h).imp nT nT) nT) h4
      exfalso
      rcases h4 with (h | h) | h
      ·
       exact h rfl
      ·
       exact h ht7
      ·
       omega
     ·
      have h4 := (fun h => And.intro ((fun h => And.intro (nF (or_F h).1) (nF (or_F h).2)) (or_F h).1) (nF (or_F h).2)) h4
      refine cx_skip ?_
      refine cx_keep rfl rfl ?_
      refine cx_seq ?_
      refine cx_seq ?_
      refine cx_ops ?_
      refine ax_q (q_mov rfl) ?_
      refine ax_nil ?_
      refine cx_keep rfl rfl ?_
      refine cx_block ?_
      refine cx_loopU (fun n i => i ≤ 4 ∧ n = 4 - i) (fun i : Nat => [(19, int i)]) (fun _ => [(5, .box [.d (.int .i64 p.lsn), .osl 37 1 0 p.slots.length]), (37, .rows 1 (p.slots.map strRow)), (17, .box [.d (.int .i64 t.lsn), .osl 110 1 0 t.slots.length]), (110, .rows 1 (t.slots.map strRow))]) ⟨_, 0, ⟨Nat.zero_le _, rfl⟩, by repeat (first | exact trivial | refine ⟨rfl, ?_⟩ | refine ⟨?_, ?_⟩)⟩ ?_
      rintro n i ⟨hi, rfl⟩
      refine cx_seq ?_
      refine cx_seq ?_
      refine cx_ops ?_
      refine ax_q (q_mov rfl) ?_
      refine ax_q (q_ibin rfl rfl rfl) ?_
      refine ax_nil ?_
      refine cx_keep rfl rfl ?_
      refine cx_cond rfl (fun h5 => ?_) (fun h5 => ?_)
      ·
       have h5 := dT h5
       have hi4 : i < 4 := by omega
       have hti := hti i hi4
       refine cx_skip ?_
       refine cx_keep rfl rfl ?_
       refine cx_seq ?_
       refine cx_block ?_
       refine cx_seq ?_
       refine cx_draw ?_
       refine ax_q (q_mov rfl) ?_
       refine ax_q (q_mov rfl) ?_
       refine ax_q (q_ibin rfl rfl rfl) ?_
       refine ax_q (q_mov rfl) ?_
       apply ax_and rfl rfl
       ·
        intro g
        have g := dT g
        refine ax_q (q_fadr_ptr rfl) ?_
        refine ax_q (q_load1_ptr rfl rfl rfl) ?_
        refine ax_q (q_mov rfl) ?_
        refine ax_q (q_ixo rfl rfl (by omega)) ?_
        refine ax_qe (r' := str (t.slots.getD i [])) (q_load1_rptr rfl rfl (mapAt (by omega)) rfl) (by rw [getDs (by omega)]) ?_
        refine ax_q (q_sbin rfl rfl rfl) ?_
        exact ax_nil ⟨rfl, by repeat (first | exact trivial | refine ⟨rfl, ?_⟩ | refine ⟨?_, ?_⟩)⟩
       refine ax_q (q_mov rfl) ?_
       apply ax_or rfl rfl
       ·
        intro g
        have g := (fun h => (and_F h).imp dF nF) g
        refine ax_q (q_mov rfl) ?_
        refine ax_q (q_mov rfl) ?_
        refine ax_q (q_ibin rfl rfl rfl) ?_
        refine ax_q (q_mov rfl) ?_
        apply ax_and rfl rfl
        ·
         intro g
         have g := nT g
         refine ax_q (q_fadr_ptr rfl) ?_
         refine ax_q (q_load1_ptr rfl rfl rfl) ?_
         refine ax_q (q_mov rfl) ?_
         refine ax_q (q_ixo rfl rfl (by omega)) ?_
         refine ax_qe (r' := str (t.slots.getD i [])) (q_load1_rptr rfl rfl (mapAt (by omega)) rfl) (by rw [getDs (by omega)]) ?_
         refine ax_q (q_fadr_ptr rfl) ?_
         refine ax_q (q_load1_ptr rfl rfl rfl) ?_
         refine ax_q (q_mov rfl) ?_
         refine ax_q (q_ixo rfl rfl (by omega)) ?_
         refine ax_qe (r' := str (p.slots.getD i [])) (q_load1_rptr rfl rfl (mapAt (by omega)) rfl) (by rw [getDs (by omega)]) ?_
         refine ax_q (q_sbin rfl rfl rfl) ?_
         exact ax_nil ⟨rfl, by repeat (first | exact trivial | refine ⟨rfl, ?_⟩ | refine ⟨?_, ?_⟩)⟩
        exact ax_nil ⟨rfl, by repeat (first | exact trivial | refine ⟨rfl, ?_⟩ | refine ⟨?_, ?_⟩)⟩
       refine ax_nil ?_
       refine cx_keep rfl rfl ?_
       refine cx_cond rfl (fun h6 => ?_) (fun h6 => ?_)
       ·
        have h6 := (fun h => (or_T h).imp (fun h => And.intro (dT (and_T h).1) (nT (and_T h).2)) (fun h => And.intro (nT (and_T h).1) (nT (and_T h).2))) h6
        exfalso
        rcases h6 with ⟨h, h2⟩ | ⟨h, h2⟩
        ·
         exact h2 (by rw [hti, if_pos h])
        ·
         exact h2 (by rw [hti, if_neg h])
       ·
        have h6 := (fun h => And.intro ((fun h => (and_F h).imp dF nF) (or_F h).1) ((fun h => (and_F h).imp nF nF) (or_F h).2)) h6
        refine cx_skip ?_
        refine cx_keep rfl rfl ?_
        refine cx_ops ?_
        refine ax_q (q_mov rfl) ?_
        refine ax_qe (r' := int ((i + 1 : Nat) : Int)) (q_ibin rfl rfl rfl) (by rw [wi (by omega) (by omega)]; rfl) ?_
        refine ax_q (q_mov rfl) ?_
        refine ax_nil ?_
        exact ⟨_, i + 1, by omega, ⟨by omega, rfl⟩, by repeat (first | exact trivial | refine ⟨rfl, ?_⟩ | refine ⟨?_, ?_⟩)⟩
      ·
       have h5 := dF h5
       refine cx_exit rfl ?_
       refine cx_keep rfl rfl ?_
       refine cx_seq ?_
       refine cx_ops ?_
       refine ax_q (q_ldN rfl rfl rfl) ?_
       first | refine ax_call rfl (vc_pure (c_PageBytes (no := 5) (p := t) ?_ ?_) hP rfl ?_) | refine ax_call rfl (vc_lend (c_PageBytes (no := 5) (p := t) ?_ ?_) hP (by repeat (first | exact lal_id _ rfl | exact LAL.nil | refine LAL.cons ?_ ?_ | exact la_id _ rfl | exact LA.lend (lend_whole rfl (by first | (simp; done) | (rw [List.length_map]; rfl))) | refine LA.agg ?_ | refine LA.fn ?_ | refine LA.lend ?_ | exact Lend.d _ | exact Lend.zs _ | exact lend_whole rfl (by first | (simp; done) | (rw [List.length_map]; rfl)) | refine Lend.ptr rfl ?_ | refine Lend.fn ?_ | exact LendL.nil | refine LendL.cons ?_ ?_)) ?_)
       ·
        first | assumption | omega | (simp; done) | (simp; omega)
       ·
        first | assumption | omega | (simp; done) | (simp; omega)
       rintro r h ⟨rfl, rfl⟩
       refine ⟨fun i => 161 + 200 * i, [0], ⟨rfl, rfl, rfl, rfl, rfl, (by first | exact (fun h => absurd h Bool.false_ne_true) | exact (fun _ => ⟨rfl, (noisl_of (by repeat (first | exact trivial | refine ⟨noisl_map (fun _ => rfl), ?_⟩ | refine ⟨?_, ?_⟩)))⟩))⟩, ?_⟩
       skip
       refine ax_q (q_mov rfl) ?_
       refine ax_q (q_ext rfl rfl) ?_
       refine ax_q (q_ext rfl rfl) ?_
       refine ax_q (q_mov rfl) ?_
       refine ax_q (q_mov rfl) ?_
       refine ax_nil ?_
       refine cx_keep rfl rfl ?_
       refine cx_seq ?_
       refine cx_ops ?_
       refine ax_q (q_ldN rfl rfl rfl) ?_
       first | refine ax_call rfl (vc_pure (c_sPageBytes (no := 5) (p := t) ?_ ?_) hP rfl ?_) | refine ax_call rfl (vc_lend (c_sPageBytes (no := 5) (p := t) ?_ ?_) hP (by repeat (first | exact lal_id _ rfl | exact LAL.nil | refine LAL.cons ?_ ?_ | exact la_id _ rfl | exact LA.lend (lend_whole rfl (by first | (simp; done) | (rw [List.length_map]; rfl))) | refine LA.agg ?_ | refine LA.fn ?_ | refine LA.lend ?_ | exact Lend.d _ | exact Lend.zs _ | exact lend_whole rfl (by first | (simp; done) | (rw [List.length_map]; rfl)) | refine Lend.ptr rfl ?_ | refine Lend.fn ?_ | exact LendL.nil | refine LendL.cons ?_ ?_)) ?_)
       ·
        first | assumption | omega | (simp; done) | (simp; omega)
       ·
        first | assumption | omega | (simp; done) | (simp; omega)
       rintro r h ⟨rfl, rfl⟩
       refine ⟨fun i => 166 + 200 * i, [0], ⟨rfl, rfl, rfl, rfl, rfl, (by first | exact (fun h => absurd h Bool.false_ne_true) | exact (fun _ => ⟨rfl, (noisl_of (by repeat (first | exact trivial | refine ⟨noisl_map (fun _ => rfl), ?_⟩ | refine ⟨?_, ?_⟩)))⟩))⟩, ?_⟩
       skip
       refine ax_q (q_mov rfl) ?_
       refine ax_q (q_ext rfl rfl) ?_
       refine ax_q (q_ext rfl rfl) ?_
       refine ax_q (q_mov rfl) ?_
       refine ax_q (q_mov rfl) ?_
       refine ax_nil ?_
       refine cx_keep rfl rfl ?_
       refine cx_seq ?_
       refine cx_ops ?_
       refine ax_q (q_mov rfl) ?_
       first | refine ax_call rfl (vc_pure (c_ReadPage (no := 5) (b := pbF 5 t) ?_) hP rfl ?_) | refine ax_call rfl (vc_lend (c_ReadPage (no := 5) (b := pbF 5 t) ?_) hP (by repeat (first | exact lal_id _ rfl | exact LAL.nil | refine LAL.cons ?_ ?_ | exact la_id _ rfl | exact LA.lend (lend_whole rfl (by first | (simp; done) | (rw [List.length_map]; rfl))) | refine LA.agg ?_ | refine LA.fn ?_ | refine LA.lend ?_ | exact Lend.d _ | exact Lend.zs _ | exact lend_whole rfl (by first | (simp; done) | (rw [List.length_map]; rfl)) | refine Lend.ptr rfl ?_ | refine Lend.fn ?_ | exact LendL.nil | refine LendL.cons ?_ ?_)) ?_)
       ·
        first | assumption | omega | (simp; done) | (simp; omega)
       rintro r h ⟨rfl, rfl⟩
       refine ⟨fun i => 171 + 200 * i, [0], ⟨rfl, rfl, rfl, rfl, rfl, (by first | exact (fun h => absurd h Bool.false_ne_true) | exact (fun _ => ⟨rfl, (noisl_of (by repeat (first | exact trivial | refine ⟨noisl_map (fun _ => rfl), ?_⟩ | refine ⟨?_, ?_⟩)))⟩))⟩, ?_⟩
       skip
       rw [r5]
       dsimp only
       refine ax_q (q_mov rfl) ?_
       refine ax_q (q_ext rfl rfl) ?_
       refine ax_q (q_ext rfl rfl) ?_
       refine ax_e (e_alloc (by decide) rfl rfl) ?_
       refine ax_e (e_st rfl rfl rfl rfl rfl rfl rfl) ?_
       refine ax_q (q_mov rfl) ?_
       refine ax_nil ?_
       refine cx_keep rfl rfl ?_
       refine cx_seq ?_
       refine cx_ops ?_
       refine ax_q (q_mov rfl) ?_
       first | refine ax_call rfl (vc_pure (c_ReadPage (no := 6) (b := pbF 5 t) ?_) hP rfl ?_) | refine ax_call rfl (vc_lend (c_ReadPage (no := 6) (b := pbF 5 t) ?_) hP (by repeat (first | exact lal_id _ rfl | exact LAL.nil | refine LAL.cons ?_ ?_ | exact la_id _ rfl | exact LA.lend (lend_whole rfl (by first | (simp; done) | (rw [List.length_map]; rfl))) | refine LA.agg ?_ | refine LA.fn ?_ | refine LA.lend ?_ | exact Lend.d _ | exact Lend.zs _ | exact lend_whole rfl (by first | (simp; done) | (rw [List.length_map]; rfl)) | refine Lend.ptr rfl ?_ | refine Lend.fn ?_ | exact LendL.nil | refine LendL.cons ?_ ?_)) ?_)
       ·
        first | assumption | omega | (simp; done) | (simp; omega)
       rintro r h ⟨rfl, rfl⟩
       refine ⟨fun i => 176 + 200 * i, [0], ⟨rfl, rfl, rfl, rfl, rfl, (by first | exact (fun h => absurd h Bool.false_ne_true) | exact (fun _ => ⟨rfl, (noisl_of (by repeat (first | exact trivial | refine ⟨noisl_map (fun _ => rfl), ?_⟩ | refine ⟨?_, ?_⟩)))⟩))⟩, ?_⟩
       skip
       rw [r6]
       dsimp only
       refine ax_q (q_mov rfl) ?_
       refine ax_q (q_ext rfl rfl) ?_
       refine ax_q (q_ext rfl rfl) ?_
       refine ax_e (e_alloc (by decide) rfl rfl) ?_
       refine ax_e (e_st rfl rfl rfl rfl rfl rfl rfl) ?_
       refine ax_q (q_mov rfl) ?_
       refine ax_nil ?_
       refine cx_keep rfl rfl ?_
       refine cx_seq ?_
       refine cx_ops ?_
       refine ax_q (q_mov rfl) ?_
       refine ax_q (q_ibin rfl rfl rfl) ?_
       refine ax_q (q_mov rfl) ?_
       apply ax_and rfl rfl
       ·
        intro g
        have g := dT g
        refine ax_q (q_mov rfl) ?_
        refine ax_qe (r' := .d (.str (pbF 5 t))) (q_b2s rfl (src_osl rfl (by simp)) rows_all ⟨161, 1, 0, _, .inl rfl⟩) (rfl) ?_
        refine ax_q (q_mov rfl) ?_
        refine ax_qe (r' := .d (.str (pbF 5 t))) (q_b2s rfl (src_osl rfl (by simp)) rows_all ⟨166, 1, 0, _, .inl rfl⟩) (rfl) ?_
        refine ax_q (q_sbin rfl rfl rfl) ?_
        exact ax_nil ⟨rfl, by repeat (first | exact trivial | refine ⟨rfl, ?_⟩ | refine ⟨?_, ?_⟩)⟩
       refine ax_q (q_mov rfl) ?_
       apply ax_and rfl rfl
       ·
        intro g
        have g := (fun h => And.intro (dT (and_T h).1) (dT (and_T h).2)) g
        refine ax_q (q_mov rfl) ?_
        first | refine ax_q (q_lenS_map rfl) ?_ | refine ax_q (q_lenS_osl rfl) ?_ | refine ax_q (q_lenS_zs rfl) ?_ | refine ax_q (q_lenS rfl) ?_
        refine ax_q (q_ibin rfl rfl rfl) ?_
        exact ax_nil ⟨rfl, by repeat (first | exact trivial | refine ⟨rfl, ?_⟩ | refine ⟨?_, ?_⟩)⟩
       refine ax_q (q_mov rfl) ?_
       apply ax_and rfl rfl
       ·
        intro g
        have g := (fun h => And.intro ((fun h => And.intro (dT (and_T h).1) (dT (and_T h).2)) (and_T h).1) (dT (and_T h).2)) g
        refine ax_q (q_mov rfl) ?_
        refine ax_q (q_ibin rfl rfl rfl) ?_
        exact ax_nil ⟨rfl, by repeat (first | exact trivial | refine ⟨rfl, ?_⟩ | refine ⟨?_, ?_⟩)⟩
       refine ax_q (q_mov rfl) ?_
       apply ax_and rfl rfl
       ·
        intro g
        have g := (fun h => And.intro ((fun h => And.intro ((fun h => And.intro (dT (and_T h).1) (dT (and_T h).2)) (and_T h).1) (dT (and_T h).2)) (and_T h).1) (dT (and_T h).2)) g
        refine ax_q (q_ldN rfl rfl rfl) ?_
        refine ax_q (q_ldN rfl rfl rfl) ?_
        first | refine ax_call rfl (vc_pure0 (c_samePage (x := t) (y := t) ?_ ?_) hP rfl rfl ?_) | refine ax_call rfl (vc_lend0 (c_samePage (x := t) (y := t) ?_ ?_) hP (by repeat (first | exact lal_id _ rfl | exact LAL.nil | refine LAL.cons ?_ ?_ | exact la_id _ rfl | exact LA.lend (lend_whole rfl (by first | (simp; done) | (rw [List.length_map]; rfl))) | refine LA.agg ?_ | refine LA.fn ?_ | refine LA.lend ?_ | exact Lend.d _ | exact Lend.zs _ | exact lend_whole rfl (by first | (simp; done) | (rw [List.length_map]; rfl)) | refine Lend.ptr rfl ?_ | refine Lend.fn ?_ | exact LendL.nil | refine LendL.cons ?_ ?_)) rfl rfl ?_)
        ·
         first | assumption | omega | (simp; done) | (simp; omega)
        ·
         first | assumption | omega | (simp; done) | (simp; omega)
        exact ax_nil ⟨rfl, by repeat (first | exact trivial | refine ⟨rfl, ?_⟩ | refine ⟨?_, ?_⟩)⟩
       refine ax_q (q_mov rfl) ?_
       apply ax_and rfl rfl
       ·
        intro g
        have g := (fun h => And.intro ((fun h => And.intro ((fun h => And.intro ((fun h => And.intro (dT (and_T h).1) (dT (and_T h).2)) (and_T h).1) (dT (and_T h).2)) (and_T h).1) (dT (and_T h).2)) (and_T h).1) (id (and_T h).2)) g
        refine ax_q (q_mov rfl) ?_
        refine ax_q (q_ibin rfl rfl rfl) ?_
        exact ax_nil ⟨rfl, by repeat (first | exact trivial | refine ⟨rfl, ?_⟩ | refine ⟨?_, ?_⟩)⟩
       refine ax_q (q_mov rfl) ?_
       apply ax_and rfl rfl
       ·
        intro g
        have g := (fun h => And.intro ((fun h => And.intro ((fun h => And.intro ((fun h => And.intro ((fun h => And.intro (dT (and_T h).1) (dT (and_T h).2)) (and_T h).1) (dT (and_T h).2)) (and_T h).1) (dT (and_T h).2)) (and_T h).1) (id (and_T h).2)) (and_T h).1) (dT (and_T h).2)) g
        refine ax_q (q_ldN rfl rfl rfl) ?_
        first | refine ax_call rfl (vc_pure0 (c_PageOK (p := t) ?_) hP rfl rfl ?_) | refine ax_call rfl (vc_lend0 (c_PageOK (p := t) ?_) hP (by repeat (first | exact lal_id _ rfl | exact LAL.nil | refine LAL.cons ?_ ?_ | exact la_id _ rfl | exact LA.lend (lend_whole rfl (by first | (simp; done) | (rw [List.length_map]; rfl))) | refine LA.agg ?_ | refine LA.fn ?_ | refine LA.lend ?_ | exact Lend.d _ | exact Lend.zs _ | exact lend_whole rfl (by first | (simp; done) | (rw [List.length_map]; rfl)) | refine Lend.ptr rfl ?_ | refine Lend.fn ?_ | exact LendL.nil | refine LendL.cons ?_ ?_)) rfl rfl ?_)
        ·
         first | assumption | omega | (simp; done) | (simp; omega)
        exact ax_nil ⟨rfl, by repeat (first | exact trivial | refine ⟨rfl, ?_⟩ | refine ⟨?_, ?_⟩)⟩
       refine ax_q (q_mov rfl) ?_
       apply ax_and rfl rfl
       ·
        intro g
        have g := (fun h => And.intro ((fun h => And.intro ((fun h => And.intro ((fun h => And.intro ((fun h => And.intro ((fun h => And.intro (dT (and_T h).1) (dT (and_T h).2)) (and_T h).1) (dT (and_T h).2)) (and_T h).1) (dT (and_T h).2)) (and_T h).1) (id (and_T h).2)) (and_T h).1) (dT (and_T h).2)) (and_T h).1) (id (and_T h).2)) g
        first | refine ax_call rfl (vc_pure (c_NewPage  ) hP rfl ?_) | refine ax_call rfl (vc_lend (c_NewPage  ) hP (by repeat (first | exact lal_id _ rfl | exact LAL.nil | refine LAL.cons ?_ ?_ | exact la_id _ rfl | exact LA.lend (lend_whole rfl (by first | (simp; done) | (rw [List.length_map]; rfl))) | refine LA.agg ?_ | refine LA.fn ?_ | refine LA.lend ?_ | exact Lend.d _ | exact Lend.zs _ | exact lend_whole rfl (by first | (simp; done) | (rw [List.length_map]; rfl)) | refine Lend.ptr rfl ?_ | refine Lend.fn ?_ | exact LendL.nil | refine LendL.cons ?_ ?_)) ?_)
        rintro r h ⟨rfl, rfl⟩
        refine ⟨fun i => 211 + 200 * i, [0], ⟨rfl, rfl, rfl, rfl, rfl, (by first | exact (fun h => absurd h Bool.false_ne_true) | exact (fun _ => ⟨rfl, (noisl_of (by repeat (first | exact trivial | refine ⟨noisl_map (fun _ => rfl), ?_⟩ | refine ⟨?_, ?_⟩)))⟩))⟩, ?_⟩
        skip
        first | refine ax_call rfl (vc_pure (c_sNewPage  ) hP rfl ?_) | refine ax_call rfl (vc_lend (c_sNewPage  ) hP (by repeat (first | exact lal_id _ rfl | exact LAL.nil | refine LAL.cons ?_ ?_ | exact la_id _ rfl | exact LA.lend (lend_whole rfl (by first | (simp; done) | (rw [List.length_map]; rfl))) | refine LA.agg ?_ | refine LA.fn ?_ | refine LA.lend ?_ | exact Lend.d _ | exact Lend.zs _ | exact lend_whole rfl (by first | (simp; done) | (rw [List.length_map]; rfl)) | refine Lend.ptr rfl ?_ | refine Lend.fn ?_ | exact LendL.nil | refine LendL.cons ?_ ?_)) ?_)
        rintro r h ⟨rfl, rfl⟩
        refine ⟨fun i => 212 + 200 * i, [0], ⟨rfl, rfl, rfl, rfl, rfl, (by first | exact (fun h => absurd h Bool.false_ne_true) | exact (fun _ => ⟨rfl, (noisl_of (by repeat (first | exact trivial | refine ⟨noisl_map (fun _ => rfl), ?_⟩ | refine ⟨?_, ?_⟩)))⟩))⟩, ?_⟩
        skip
        first | refine ax_call rfl (vc_pure0 (c_samePage (x := ⟨0, [[], [], [], []]⟩) (y := ⟨0, [[], [], [], []]⟩) ?_ ?_) hP rfl rfl ?_) | refine ax_call rfl (vc_lend0 (c_samePage (x := ⟨0, [[], [], [], []]⟩) (y := ⟨0, [[], [], [], []]⟩) ?_ ?_) hP (by repeat (first | exact lal_id _ rfl | exact LAL.nil | refine LAL.cons ?_ ?_ | exact la_id _ rfl | exact LA.lend (lend_whole rfl (by first | (simp; done) | (rw [List.length_map]; rfl))) | refine LA.agg ?_ | refine LA.fn ?_ | refine LA.lend ?_ | exact Lend.d _ | exact Lend.zs _ | exact lend_whole rfl (by first | (simp; done) | (rw [List.length_map]; rfl)) | refine Lend.ptr rfl ?_ | refine Lend.fn ?_ | exact LendL.nil | refine LendL.cons ?_ ?_)) rfl rfl ?_)
        ·
         decide
        ·
         decide
        exact ax_nil ⟨rfl, by repeat (first | exact trivial | refine ⟨rfl, ?_⟩ | refine ⟨?_, ?_⟩)⟩
       refine ax_q (q_mov rfl) ?_
       refine ax_nil ?_
       refine cx_keep rfl rfl ?_
       refine cx_ret (ret0 rfl rfl ?_)
       exact ⟨by rw [samP_rfl, samP_rfl, hto]; simp; exact congrArg AM.bool (decide_eq_true (by omega)), rfl⟩
   ·
    have h2 := dF h2
    refine cx_skip ?_
    refine cx_keep rfl rfl ?_
    refine cx_seq ?_
    refine cx_ops ?_
    refine ax_q (q_mov rfl) ?_
    first | refine ax_call rfl (vc_pure0 (c_at  ?_ ?_ ?_) hP rfl rfl ?_) | refine ax_call rfl (vc_lend0 (c_at  ?_ ?_ ?_) hP (by repeat (first | exact lal_id _ rfl | exact LAL.nil | refine LAL.cons ?_ ?_ | exact la_id _ rfl | exact LA.lend (lend_whole rfl (by first | (simp; done) | (rw [List.length_map]; rfl))) | refine LA.agg ?_ | refine LA.fn ?_ | refine LA.lend ?_ | exact Lend.d _ | exact Lend.zs _ | exact lend_whole rfl (by first | (simp; done) | (rw [List.length_map]; rfl)) | refine Lend.ptr rfl ?_ | refine Lend.fn ?_ | exact LendL.nil | refine LendL.cons ?_ ?_)) rfl rfl ?_)
    ·
     first | assumption | omega | (simp; done) | (simp; omega)
    ·
     first | assumption | omega | (simp; done) | (simp; omega)
    ·
     first | assumption | omega | (simp; done) | (simp; omega)
    rw [he]
    refine ax_q (q_mov rfl) ?_
    refine ax_nil ?_
    refine cx_keep rfl rfl ?_
    refine cx_seq ?_
    refine cx_ops ?_
    refine ax_q (q_ldN rfl rfl rfl) ?_
    refine ax_q (q_mov rfl) ?_
    first | refine ax_call rfl (vc_pure (c_PageSet (p := p) (slot := slot) (lsn := 77) (x := [115, 101, 116]) ?_) hP rfl ?_) | refine ax_call rfl (vc_lend (c_PageSet (p := p) (slot := slot) (lsn := 77) (x := [115, 101, 116]) ?_) hP (by repeat (first | exact lal_id _ rfl | exact LAL.nil | refine LAL.cons ?_ ?_ | exact la_id _ rfl | exact LA.lend (lend_whole rfl (by first | (simp; done) | (rw [List.length_map]; rfl))) | refine LA.agg ?_ | refine LA.fn ?_ | refine LA.lend ?_ | exact Lend.d _ | exact Lend.zs _ | exact lend_whole rfl (by first | (simp; done) | (rw [List.length_map]; rfl)) | refine Lend.ptr rfl ?_ | refine Lend.fn ?_ | exact LendL.nil | refine LendL.cons ?_ ?_)) ?_)
    ·
     first | assumption | omega | (simp; done) | (simp; omega)
    rintro r h ⟨rfl, rfl⟩
    refine ⟨fun i => 110 + 200 * i, [0], ⟨rfl, rfl, rfl, rfl, rfl, (by first | exact (fun h => absurd h Bool.false_ne_true) | exact (fun _ => ⟨rfl, (noisl_of (by repeat (first | exact trivial | refine ⟨noisl_map (fun _ => rfl), ?_⟩ | refine ⟨?_, ?_⟩)))⟩))⟩, ?_⟩
    skip
    rw [es]
    dsimp only
    refine ax_q (q_mov rfl) ?_
    refine ax_q (q_ext rfl rfl) ?_
    refine ax_q (q_ext rfl rfl) ?_
    refine ax_e (e_alloc (by decide) rfl rfl) ?_
    refine ax_e (e_st rfl rfl rfl rfl rfl rfl rfl) ?_
    refine ax_q (q_mov rfl) ?_
    refine ax_nil ?_
    refine cx_keep rfl rfl ?_
    refine cx_seq ?_
    refine cx_seq ?_
    refine cx_ops ?_
    refine ax_q (q_mov rfl) ?_
    refine ax_q (q_ibin rfl rfl rfl) ?_
    refine ax_q (q_mov rfl) ?_
    apply ax_or rfl rfl
    ·
     intro g
     have g := nF g
     refine ax_q (q_fadr_ptr rfl) ?_
     refine ax_q (q_load1_ptr rfl rfl rfl) ?_
     refine ax_q (q_ibin rfl rfl rfl) ?_
     exact ax_nil ⟨rfl, by repeat (first | exact trivial | refine ⟨rfl, ?_⟩ | refine ⟨?_, ?_⟩)⟩
    refine ax_q (q_mov rfl) ?_
    apply ax_or rfl rfl
    ·
     intro g
     have g := (fun h => And.intro (nF (or_F h).1) (nF (or_F h).2)) g
     refine ax_q (q_fadr_ptr rfl) ?_
     refine ax_q (q_load1_ptr rfl rfl rfl) ?_
     first | refine ax_q (q_lenS_map rfl) ?_ | refine ax_q (q_lenS_osl rfl) ?_ | refine ax_q (q_lenS_zs rfl) ?_ | refine ax_q (q_lenS rfl) ?_
     refine ax_q (q_ibin rfl rfl rfl) ?_
     exact ax_nil ⟨rfl, by repeat (first | exact trivial | refine ⟨rfl, ?_⟩ | refine ⟨?_, ?_⟩)⟩
    refine ax_nil ?_
    refine cx_keep rfl rfl ?_
    refine cx_cond rfl (fun h4 => ?_) (fun h4 => ?_)
    ·
     have h4 := (fun h => (or_T h).imp (fun h => (or_T h).imp nT nT) nT) h4
     exfalso
     rcases h4 with (h | h) | h
     ·
      exact h rfl
     ·
      exact h ht7
     ·
      omega
    ·
     have h4 := (fun h => And.intro ((fun h => And.intro (nF (or_F h).1) (nF (or_F h).2)) (or_F h).1) (nF (or_F h).2)) h4
     refine cx_skip ?_
     refine cx_keep rfl rfl ?_
     refine cx_seq ?_
     refine cx_seq ?_
     refine cx_ops ?_
     refine ax_q (q_mov rfl) ?_
     refine ax_nil ?_
     refine cx_keep rfl rfl ?_
     refine cx_block ?_
     refine cx_loopU (fun n i => i ≤ 4 ∧ n = 4 - i) (fun i : Nat => [(19, int i)]) (fun _ => [(5, .box [.d (.int .i64 p.lsn), .osl 37 1 0 p.slots.length]), (37, .rows 1 (p.slots.map strRow)), (17, .box [.d (.int .i64 t.lsn), .osl 110 1 0 t.slots.length]), (110, .rows 1 (t.slots.map strRow))]) ⟨_, 0, ⟨Nat.zero_le _, rfl⟩, by repeat (first | exact trivial | refine ⟨rfl, ?_⟩ | refine ⟨?_, ?_⟩)⟩ ?_
     rintro n i ⟨hi, rfl⟩
     refine cx_seq ?_
     refine cx_seq ?_
     refine cx_ops ?_
     refine ax_q (q_mov rfl) ?_
     refine ax_q (q_ibin rfl rfl rfl) ?_
     refine ax_nil ?_
     refine cx_keep rfl rfl ?_
     refine cx_cond rfl (fun h5 => ?_) (fun h5 => ?_)
     ·
      have h5 := dT h5
      have hi4 : i < 4 := by omega
      have hti := hti i hi4
      refine cx_skip ?_
      refine cx_keep rfl rfl ?_
      refine cx_seq ?_
      refine cx_block ?_
      refine cx_seq ?_
      refine cx_draw ?_
      refine ax_q (q_mov rfl) ?_
      refine ax_q (q_mov rfl) ?_
      refine ax_q (q_ibin rfl rfl rfl) ?_
      refine ax_q (q_mov rfl) ?_
      apply ax_and rfl rfl
      ·
       intro g
       have g := dT g
       refine ax_q (q_fadr_ptr rfl) ?_
       refine ax_q (q_load1_ptr rfl rfl rfl) ?_
       refine ax_q (q_mov rfl) ?_
       refine ax_q (q_ixo rfl rfl (by omega)) ?_
       refine ax_qe (r' := str (t.slots.getD i [])) (q_load1_rptr rfl rfl (mapAt (by omega)) rfl) (by rw [getDs (by omega)]) ?_
       refine ax_q (q_sbin rfl rfl rfl) ?_
       exact ax_nil ⟨rfl, by repeat (first | exact trivial | refine ⟨rfl, ?_⟩ | refine ⟨?_, ?_⟩)⟩
      refine ax_q (q_mov rfl) ?_
      apply ax_or rfl rfl
      ·
       intro g
       have g := (fun h => (and_F h).imp dF nF) g
       refine ax_q (q_mov rfl) ?_
       refine ax_q (q_mov rfl) ?_
       refine ax_q (q_ibin rfl rfl rfl) ?_
       refine ax_q (q_mov rfl) ?_
       apply ax_and rfl rfl
       ·
        intro g
        have g := nT g
        refine ax_q (q_fadr_ptr rfl) ?_
        refine ax_q (q_load1_ptr rfl rfl rfl) ?_
        refine ax_q (q_mov rfl) ?_
        refine ax_q (q_ixo rfl rfl (by omega)) ?_
        refine ax_qe (r' := str (t.slots.getD i [])) (q_load1_rptr rfl rfl (mapAt (by omega)) rfl) (by rw [getDs (by omega)]) ?_
        refine ax_q (q_fadr_ptr rfl) ?_
        refine ax_q (q_load1_ptr rfl rfl rfl) ?_
        refine ax_q (q_mov rfl) ?_
        refine ax_q (q_ixo rfl rfl (by omega)) ?_
        refine ax_qe (r' := str (p.slots.getD i [])) (q_load1_rptr rfl rfl (mapAt (by omega)) rfl) (by rw [getDs (by omega)]) ?_
        refine ax_q (q_sbin rfl rfl rfl) ?_
        exact ax_nil ⟨rfl, by repeat (first | exact trivial | refine ⟨rfl, ?_⟩ | refine ⟨?_, ?_⟩)⟩
       exact ax_nil ⟨rfl, by repeat (first | exact trivial | refine ⟨rfl, ?_⟩ | refine ⟨?_, ?_⟩)⟩
      refine ax_nil ?_
      refine cx_keep rfl rfl ?_
      refine cx_cond rfl (fun h6 => ?_) (fun h6 => ?_)
      ·
       have h6 := (fun h => (or_T h).imp (fun h => And.intro (dT (and_T h).1) (nT (and_T h).2)) (fun h => And.intro (nT (and_T h).1) (nT (and_T h).2))) h6
       exfalso
       rcases h6 with ⟨h, h2⟩ | ⟨h, h2⟩
       ·
        exact h2 (by rw [hti, if_pos h])
       ·
        exact h2 (by rw [hti, if_neg h])
      ·
       have h6 := (fun h => And.intro ((fun h => (and_F h).imp dF nF) (or_F h).1) ((fun h => (and_F h).imp nF nF) (or_F h).2)) h6
       refine cx_skip ?_
       refine cx_keep rfl rfl ?_
       refine cx_ops ?_
       refine ax_q (q_mov rfl) ?_
       refine ax_qe (r' := int ((i + 1 : Nat) : Int)) (q_ibin rfl rfl rfl) (by rw [wi (by omega) (by omega)]; rfl) ?_
       refine ax_q (q_mov rfl) ?_
       refine ax_nil ?_
       exact ⟨_, i + 1, by omega, ⟨by omega, rfl⟩, by repeat (first | exact trivial | refine ⟨rfl, ?_⟩ | refine ⟨?_, ?_⟩)⟩
     ·
      have h5 := dF h5
      refine cx_exit rfl ?_
      refine cx_keep rfl rfl ?_
      refine cx_seq ?_
      refine cx_ops ?_
      refine ax_q (q_ldN rfl rfl rfl) ?_
      first | refine ax_call rfl (vc_pure (c_PageBytes (no := 5) (p := t) ?_ ?_) hP rfl ?_) | refine ax_call rfl (vc_lend (c_PageBytes (no := 5) (p := t) ?_ ?_) hP (by repeat (first | exact lal_id _ rfl | exact LAL.nil | refine LAL.cons ?_ ?_ | exact la_id _ rfl | exact LA.lend (lend_whole rfl (by first | (simp; done) | (rw [List.length_map]; rfl))) | refine LA.agg ?_ | refine LA.fn ?_ | refine LA.lend ?_ | exact Lend.d _ | exact Lend.zs _ | exact lend_whole rfl (by first | (simp; done) | (rw [List.length_map]; rfl)) | refine Lend.ptr rfl ?_ | refine Lend.fn ?_ | exact LendL.nil | refine LendL.cons ?_ ?_)) ?_)
      ·
       first | assumption | omega | (simp; done) | (simp; omega)
      ·
       first | assumption | omega | (simp; done) | (simp; omega)
      rintro r h ⟨rfl, rfl⟩
      refine ⟨fun i => 161 + 200 * i, [0], ⟨rfl, rfl, rfl, rfl, rfl, (by first | exact (fun h => absurd h Bool.false_ne_true) | exact (fun _ => ⟨rfl, (noisl_of (by repeat (first | exact trivial | refine ⟨noisl_map (fun _ => rfl), ?_⟩ | refine ⟨?_, ?_⟩)))⟩))⟩, ?_⟩
      skip
      refine ax_q (q_mov rfl) ?_
      refine ax_q (q_ext rfl rfl) ?_
      refine ax_q (q_ext rfl rfl) ?_
      refine ax_q (q_mov rfl) ?_
      refine ax_q (q_mov rfl) ?_
      refine ax_nil ?_
      refine cx_keep rfl rfl ?_
      refine cx_seq ?_
      refine cx_ops ?_
      refine ax_q (q_ldN rfl rfl rfl) ?_
      first | refine ax_call rfl (vc_pure (c_sPageBytes (no := 5) (p := t) ?_ ?_) hP rfl ?_) | refine ax_call rfl (vc_lend (c_sPageBytes (no := 5) (p := t) ?_ ?_) hP (by repeat (first | exact lal_id _ rfl | exact LAL.nil | refine LAL.cons ?_ ?_ | exact la_id _ rfl | exact LA.lend (lend_whole rfl (by first | (simp; done) | (rw [List.length_map]; rfl))) | refine LA.agg ?_ | refine LA.fn ?_ | refine LA.lend ?_ | exact Lend.d _ | exact Lend.zs _ | exact lend_whole rfl (by first | (simp; done) | (rw [List.length_map]; rfl)) | refine Lend.ptr rfl ?_ | refine Lend.fn ?_ | exact LendL.nil | refine LendL.cons ?_ ?_)) ?_)
      ·
       first | assumption | omega | (simp; done) | (simp; omega)
      ·
       first | assumption | omega | (simp; done) | (simp; omega)
      rintro r h ⟨rfl, rfl⟩
      refine ⟨fun i => 166 + 200 * i, [0], ⟨rfl, rfl, rfl, rfl, rfl, (by first | exact (fun h => absurd h Bool.false_ne_true) | exact (fun _ => ⟨rfl, (noisl_of (by repeat (first | exact trivial | refine ⟨noisl_map (fun _ => rfl), ?_⟩ | refine ⟨?_, ?_⟩)))⟩))⟩, ?_⟩
      skip
      refine ax_q (q_mov rfl) ?_
      refine ax_q (q_ext rfl rfl) ?_
      refine ax_q (q_ext rfl rfl) ?_
      refine ax_q (q_mov rfl) ?_
      refine ax_q (q_mov rfl) ?_
      refine ax_nil ?_
      refine cx_keep rfl rfl ?_
      refine cx_seq ?_
      refine cx_ops ?_
      refine ax_q (q_mov rfl) ?_
      first | refine ax_call rfl (vc_pure (c_ReadPage (no := 5) (b := pbF 5 t) ?_) hP rfl ?_) | refine ax_call rfl (vc_lend (c_ReadPage (no := 5) (b := pbF 5 t) ?_) hP (by repeat (first | exact lal_id _ rfl | exact LAL.nil | refine LAL.cons ?_ ?_ | exact la_id _ rfl | exact LA.lend (lend_whole rfl (by first | (simp; done) | (rw [List.length_map]; rfl))) | refine LA.agg ?_ | refine LA.fn ?_ | refine LA.lend ?_ | exact Lend.d _ | exact Lend.zs _ | exact lend_whole rfl (by first | (simp; done) | (rw [List.length_map]; rfl)) | refine Lend.ptr rfl ?_ | refine Lend.fn ?_ | exact LendL.nil | refine LendL.cons ?_ ?_)) ?_)
      ·
       first | assumption | omega | (simp; done) | (simp; omega)
      rintro r h ⟨rfl, rfl⟩
      refine ⟨fun i => 171 + 200 * i, [0], ⟨rfl, rfl, rfl, rfl, rfl, (by first | exact (fun h => absurd h Bool.false_ne_true) | exact (fun _ => ⟨rfl, (noisl_of (by repeat (first | exact trivial | refine ⟨noisl_map (fun _ => rfl), ?_⟩ | refine ⟨?_, ?_⟩)))⟩))⟩, ?_⟩
      skip
      rw [r5]
      dsimp only
      refine ax_q (q_mov rfl) ?_
      refine ax_q (q_ext rfl rfl) ?_
      refine ax_q (q_ext rfl rfl) ?_
      refine ax_e (e_alloc (by decide) rfl rfl) ?_
      refine ax_e (e_st rfl rfl rfl rfl rfl rfl rfl) ?_
      refine ax_q (q_mov rfl) ?_
      refine ax_nil ?_
      refine cx_keep rfl rfl ?_
      refine cx_seq ?_
      refine cx_ops ?_
      refine ax_q (q_mov rfl) ?_
      first | refine ax_call rfl (vc_pure (c_ReadPage (no := 6) (b := pbF 5 t) ?_) hP rfl ?_) | refine ax_call rfl (vc_lend (c_ReadPage (no := 6) (b := pbF 5 t) ?_) hP (by repeat (first | exact lal_id _ rfl | exact LAL.nil | refine LAL.cons ?_ ?_ | exact la_id _ rfl | exact LA.lend (lend_whole rfl (by first | (simp; done) | (rw [List.length_map]; rfl))) | refine LA.agg ?_ | refine LA.fn ?_ | refine LA.lend ?_ | exact Lend.d _ | exact Lend.zs _ | exact lend_whole rfl (by first | (simp; done) | (rw [List.length_map]; rfl)) | refine Lend.ptr rfl ?_ | refine Lend.fn ?_ | exact LendL.nil | refine LendL.cons ?_ ?_)) ?_)
      ·
       first | assumption | omega | (simp; done) | (simp; omega)
      rintro r h ⟨rfl, rfl⟩
      refine ⟨fun i => 176 + 200 * i, [0], ⟨rfl, rfl, rfl, rfl, rfl, (by first | exact (fun h => absurd h Bool.false_ne_true) | exact (fun _ => ⟨rfl, (noisl_of (by repeat (first | exact trivial | refine ⟨noisl_map (fun _ => rfl), ?_⟩ | refine ⟨?_, ?_⟩)))⟩))⟩, ?_⟩
      skip
      rw [r6]
      dsimp only
      refine ax_q (q_mov rfl) ?_
      refine ax_q (q_ext rfl rfl) ?_
      refine ax_q (q_ext rfl rfl) ?_
      refine ax_e (e_alloc (by decide) rfl rfl) ?_
      refine ax_e (e_st rfl rfl rfl rfl rfl rfl rfl) ?_
      refine ax_q (q_mov rfl) ?_
      refine ax_nil ?_
      refine cx_keep rfl rfl ?_
      refine cx_seq ?_
      refine cx_ops ?_
      refine ax_q (q_mov rfl) ?_
      refine ax_q (q_ibin rfl rfl rfl) ?_
      refine ax_q (q_mov rfl) ?_
      apply ax_and rfl rfl
      ·
       intro g
       have g := dT g
       refine ax_q (q_mov rfl) ?_
       refine ax_qe (r' := .d (.str (pbF 5 t))) (q_b2s rfl (src_osl rfl (by simp)) rows_all ⟨161, 1, 0, _, .inl rfl⟩) (rfl) ?_
       refine ax_q (q_mov rfl) ?_
       refine ax_qe (r' := .d (.str (pbF 5 t))) (q_b2s rfl (src_osl rfl (by simp)) rows_all ⟨166, 1, 0, _, .inl rfl⟩) (rfl) ?_
       refine ax_q (q_sbin rfl rfl rfl) ?_
       exact ax_nil ⟨rfl, by repeat (first | exact trivial | refine ⟨rfl, ?_⟩ | refine ⟨?_, ?_⟩)⟩
      refine ax_q (q_mov rfl) ?_
      apply ax_and rfl rfl
      ·
       intro g
       have g := (fun h => And.intro (dT (and_T h).1) (dT (and_T h).2)) g
       refine ax_q (q_mov rfl) ?_
       first | refine ax_q (q_lenS_map rfl) ?_ | refine ax_q (q_lenS_osl rfl) ?_ | refine ax_q (q_lenS_zs rfl) ?_ | refine ax_q (q_lenS rfl) ?_
       refine ax_q (q_ibin rfl rfl rfl) ?_
       exact ax_nil ⟨rfl, by repeat (first | exact trivial | refine ⟨rfl, ?_⟩ | refine ⟨?_, ?_⟩)⟩
      refine ax_q (q_mov rfl) ?_
      apply ax_and rfl rfl
      ·
       intro g
       have g := (fun h => And.intro ((fun h => And.intro (dT (and_T h).1) (dT (and_T h).2)) (and_T h).1) (dT (and_T h).2)) g
       refine ax_q (q_mov rfl) ?_
       refine ax_q (q_ibin rfl rfl rfl) ?_
       exact ax_nil ⟨rfl, by repeat (first | exact trivial | refine ⟨rfl, ?_⟩ | refine ⟨?_, ?_⟩)⟩
      refine ax_q (q_mov rfl) ?_
      apply ax_and rfl rfl
      ·
       intro g
       have g := (fun h => And.intro ((fun h => And.intro ((fun h => And.intro (dT (and_T h).1) (dT (and_T h).2)) (and_T h).1) (dT (and_T h).2)) (and_T h).1) (dT (and_T h).2)) g
       refine ax_q (q_ldN rfl rfl rfl) ?_
       refine ax_q (q_ldN rfl rfl rfl) ?_
       first | refine ax_call rfl (vc_pure0 (c_samePage (x := t) (y := t) ?_ ?_) hP rfl rfl ?_) | refine ax_call rfl (vc_lend0 (c_samePage (x := t) (y := t) ?_ ?_) hP (by repeat (first | exact lal_id _ rfl | exact LAL.nil | refine LAL.cons ?_ ?_ | exact la_id _ rfl | exact LA.lend (lend_whole rfl (by first | (simp; done) | (rw [List.length_map]; rfl))) | refine LA.agg ?_ | refine LA.fn ?_ | refine LA.lend ?_ | exact Lend.d _ | exact Lend.zs _ | exact lend_whole rfl (by first | (simp; done) | (rw [List.length_map]; rfl)) | refine Lend.ptr rfl ?_ | refine Lend.fn ?_ | exact LendL.nil | refine LendL.cons ?_ ?_)) rfl rfl ?_)
       ·
        first | assumption | omega | (simp; done) | (simp; omega)
       ·
        first | assumption | omega | (simp; done) | (simp; omega)
       exact ax_nil ⟨rfl, by repeat (first | exact trivial | refine ⟨rfl, ?_⟩ | refine ⟨?_, ?_⟩)⟩
      refine ax_q (q_mov rfl) ?_
      apply ax_and rfl rfl
      ·
       intro g
       have g := (fun h => And.intro ((fun h => And.intro ((fun h => And.intro ((fun h => And.intro (dT (and_T h).1) (dT (and_T h).2)) (and_T h).1) (dT (and_T h).2)) (and_T h).1) (dT (and_T h).2)) (and_T h).1) (id (and_T h).2)) g
       refine ax_q (q_mov rfl) ?_
       refine ax_q (q_ibin rfl rfl rfl) ?_
       exact ax_nil ⟨rfl, by repeat (first | exact trivial | refine ⟨rfl, ?_⟩ | refine ⟨?_, ?_⟩)⟩
      refine ax_q (q_mov rfl) ?_
      apply ax_and rfl rfl
      ·
       intro g
       have g := (fun h => And.intro ((fun h => And.intro ((fun h => And.intro ((fun h => And.intro ((fun h => And.intro (dT (and_T h).1) (dT (and_T h).2)) (and_T h).1) (dT (and_T h).2)) (and_T h).1) (dT (and_T h).2)) (and_T h).1) (id (and_T h).2)) (and_T h).1) (dT (and_T h).2)) g
       refine ax_q (q_ldN rfl rfl rfl) ?_
       first | refine ax_call rfl (vc_pure0 (c_PageOK (p := t) ?_) hP rfl rfl ?_) | refine ax_call rfl (vc_lend0 (c_PageOK (p := t) ?_) hP (by repeat (first | exact lal_id _ rfl | exact LAL.nil | refine LAL.cons ?_ ?_ | exact la_id _ rfl | exact LA.lend (lend_whole rfl (by first | (simp; done) | (rw [List.length_map]; rfl))) | refine LA.agg ?_ | refine LA.fn ?_ | refine LA.lend ?_ | exact Lend.d _ | exact Lend.zs _ | exact lend_whole rfl (by first | (simp; done) | (rw [List.length_map]; rfl)) | refine Lend.ptr rfl ?_ | refine Lend.fn ?_ | exact LendL.nil | refine LendL.cons ?_ ?_)) rfl rfl ?_)
       ·
        first | assumption | omega | (simp; done) | (simp; omega)
       exact ax_nil ⟨rfl, by repeat (first | exact trivial | refine ⟨rfl, ?_⟩ | refine ⟨?_, ?_⟩)⟩
      refine ax_q (q_mov rfl) ?_
      apply ax_and rfl rfl
      ·
       intro g
       have g := (fun h => And.intro ((fun h => And.intro ((fun h => And.intro ((fun h => And.intro ((fun h => And.intro ((fun h => And.intro (dT (and_T h).1) (dT (and_T h).2)) (and_T h).1) (dT (and_T h).2)) (and_T h).1) (dT (and_T h).2)) (and_T h).1) (id (and_T h).2)) (and_T h).1) (dT (and_T h).2)) (and_T h).1) (id (and_T h).2)) g
       first | refine ax_call rfl (vc_pure (c_NewPage  ) hP rfl ?_) | refine ax_call rfl (vc_lend (c_NewPage  ) hP (by repeat (first | exact lal_id _ rfl | exact LAL.nil | refine LAL.cons ?_ ?_ | exact la_id _ rfl | exact LA.lend (lend_whole rfl (by first | (simp; done) | (rw [List.length_map]; rfl))) | refine LA.agg ?_ | refine LA.fn ?_ | refine LA.lend ?_ | exact Lend.d _ | exact Lend.zs _ | exact lend_whole rfl (by first | (simp; done) | (rw [List.length_map]; rfl)) | refine Lend.ptr rfl ?_ | refine Lend.fn ?_ | exact LendL.nil | refine LendL.cons ?_ ?_)) ?_)
       rintro r h ⟨rfl, rfl⟩
       refine ⟨fun i => 211 + 200 * i, [0], ⟨rfl, rfl, rfl, rfl, rfl, (by first | exact (fun h => absurd h Bool.false_ne_true) | exact (fun _ => ⟨rfl, (noisl_of (by repeat (first | exact trivial | refine ⟨noisl_map (fun _ => rfl), ?_⟩ | refine ⟨?_, ?_⟩)))⟩))⟩, ?_⟩
       skip
       first | refine ax_call rfl (vc_pure (c_sNewPage  ) hP rfl ?_) | refine ax_call rfl (vc_lend (c_sNewPage  ) hP (by repeat (first | exact lal_id _ rfl | exact LAL.nil | refine LAL.cons ?_ ?_ | exact la_id _ rfl | exact LA.lend (lend_whole rfl (by first | (simp; done) | (rw [List.length_map]; rfl))) | refine LA.agg ?_ | refine LA.fn ?_ | refine LA.lend ?_ | exact Lend.d _ | exact Lend.zs _ | exact lend_whole rfl (by first | (simp; done) | (rw [List.length_map]; rfl)) | refine Lend.ptr rfl ?_ | refine Lend.fn ?_ | exact LendL.nil | refine LendL.cons ?_ ?_)) ?_)
       rintro r h ⟨rfl, rfl⟩
       refine ⟨fun i => 212 + 200 * i, [0], ⟨rfl, rfl, rfl, rfl, rfl, (by first | exact (fun h => absurd h Bool.false_ne_true) | exact (fun _ => ⟨rfl, (noisl_of (by repeat (first | exact trivial | refine ⟨noisl_map (fun _ => rfl), ?_⟩ | refine ⟨?_, ?_⟩)))⟩))⟩, ?_⟩
       skip
       first | refine ax_call rfl (vc_pure0 (c_samePage (x := ⟨0, [[], [], [], []]⟩) (y := ⟨0, [[], [], [], []]⟩) ?_ ?_) hP rfl rfl ?_) | refine ax_call rfl (vc_lend0 (c_samePage (x := ⟨0, [[], [], [], []]⟩) (y := ⟨0, [[], [], [], []]⟩) ?_ ?_) hP (by repeat (first | exact lal_id _ rfl | exact LAL.nil | refine LAL.cons ?_ ?_ | exact la_id _ rfl | exact LA.lend (lend_whole rfl (by first | (simp; done) | (rw [List.length_map]; rfl))) | refine LA.agg ?_ | refine LA.fn ?_ | refine LA.lend ?_ | exact Lend.d _ | exact Lend.zs _ | exact lend_whole rfl (by first | (simp; done) | (rw [List.length_map]; rfl)) | refine Lend.ptr rfl ?_ | refine Lend.fn ?_ | exact LendL.nil | refine LendL.cons ?_ ?_)) rfl rfl ?_)
       ·
        decide
       ·
        decide
       exact ax_nil ⟨rfl, by repeat (first | exact trivial | refine ⟨rfl, ?_⟩ | refine ⟨?_, ?_⟩)⟩
      refine ax_q (q_mov rfl) ?_
      refine ax_nil ?_
      refine cx_keep rfl rfl ?_
      refine cx_ret (ret0 rfl rfl ?_)
      exact ⟨by rw [samP_rfl, samP_rfl, hto]; simp; exact congrArg AM.bool (decide_eq_true (by omega)), rfl⟩

theorem own : ownKnob Try.prog.godebug = none := by kernel_rfl
theorem laid : laidOutB Try.prog = true := by kernel_rfl
theorem closedTs : closedT Try.prog [5, 22] = true := by kernel_rfl
theorem con (rows : List (List D)) (h : HasAll Try.prog Try.f4.params.toList rows) : Con Try.prog noMv 4 (argsAV Try.prog Try.f4.params.toList rows) [] (fun r h => r = AM.bool true ∧ h = []) := by
  rw [Try.params4] at h ⊢
  obtain ⟨d0, r0, rfl, h0, h⟩ := h
  obtain ⟨d1, r1, rfl, h1, h⟩ := h
  obtain rfl := h
  obtain ⟨a0, rfl, w0⟩ := (dec_slice (sz := 1) Try.underlying22 (by kernel_rfl) (dec_byte Try.underlying5)) h0
  obtain ⟨a1, rfl, w1⟩ := (dec_slice (sz := 1) Try.underlying22 (by kernel_rfl) (dec_byte Try.underlying5)) h1
  have e : argsAV Try.prog [22, 22] [[.sl 1 (a0.map byteRow)], [.sl 1 (a1.map byteRow)]] = [.d (.sl 1 (a0.map byteRow)), .d (.sl 1 (a1.map byteRow))] := by
    first | (simp only [argsAV, argAV, Try.underlying22]; done) | (simp only [argsAV, argAV, Try.underlying22]; rfl)
  show Con Try.prog noMv 4 (argsAV Try.prog [22, 22] [[.sl 1 (a0.map byteRow)], [.sl 1 (a1.map byteRow)]]) [] _
  rw [e]
  exact c_FnPage w0 w1
set_option maxRecDepth 100000 in
theorem lifted (os : Os) (started : os.Started) (H : Type) (enc : TypeId × Value → H) :
    ReturnsInHanded {} Try.checked os 4 .any (Rows.fnPageSpec.pre6 enc Try.prog Try.f4 Rows.fnPageRow.domain false) (Rows.fnPageSpec.post enc Try.prog Try.f4 false true false false) := by
  refine returnsInHanded_of_change (C := Try.checked) own started (by kernel_rfl) Try.func4
    (ChangeSpec.witness6 (enc := enc) (C := Try.checked) false ⟨#[], #[.slice none 0 0, .slice none 0 0], []⟩ 8 (by kernel_rfl) (by kernel_rfl) (by kernel_rfl) (by kernel_rfl)) ?_
  intro W base args ds gs before hval hW hcnd _
  refine law_contract closedTs laid (by kernel_rfl) rfl rfl Try.underlying4 con (fun hl => ?_) hval hW
  match ds, hl with
  | [x0, x1], _ => rfl
theorem over : Rows.fnPageRow.holds Try.pinned (OpenSpec.ofChange Rows.fnPageSpec) :=
  OpenClaim.holds_of_wide 4 Try.f4 rfl rfl rfl rfl rfl rfl rfl ⟨rfl, rfl, rfl, rfl, rfl⟩ rfl rfl rfl rfl rfl (by kernel_rfl) Try.func4 (by kernel_rfl)
    (of_decide_eq_true (by kernel_rfl)) (by unfold Func.isWrapper; first | (rw [if_pos (by decide +kernel)]; kernel_rfl) | (rw [if_neg (by decide +kernel)]; exact ⟨rfl, rfl⟩))
    (fun os started H enc _ => lifted os started H enc)
theorem proved : Rows.FnPageSaid := over
end fnPage
end Go.Proofs.Ythalkmobccealaa
#print axioms Go.Proofs.Ythalkmobccealaa.fnPage.proved
