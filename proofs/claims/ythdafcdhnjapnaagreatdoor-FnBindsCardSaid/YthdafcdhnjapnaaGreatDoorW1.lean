/- The walks: what each function computes, as a contract without a world (part 1). -/
import Derived.Test.YthdafcdhnjapnaaGreatDoorProg
import Derived.Test.YthdafcdhnjapnaaGreatDoorW0
namespace Go.Proofs.YthdafcdhnjapnaaGreatDoor
open Go Go.AM
set_option maxRecDepth 10000
set_option linter.unusedVariables false
set_option linter.unusedSimpArgs false
/- loop.example/g00332/spec.l10Lex -/
def k_c_sLex : XCode :=
 .seq (.ops [.op (some 2) (.mov (.k (.nils 1))),
   .op (some 3) (.mov (.k (.int .i64 0)))])
 (.keep [0] (.seq (.ops [.op (some 8) (.bslice 1 []),
   .op (some 4) (.mov (.t 8))])
 (.keep [0, 4] (.seq (.seq (.ops [.op (some 5) (.mov (.k (.int .i64 0)))])
  (.keep [0, 4, 5] (.block 0 (.loop (.seq (.seq (.ops [.op (some 9) (.mov (.t 5)),
     .op (some 10) (.mov (.t 0)),
     .op (some 11) (.lenT (.t 10)),
     .op (some 12) (.bin .lss (.t 9) (.t 11))])
   (.keep [0, 4, 5, 12] (.cond (.t 12)
    (.skip)
    (.exit 0))))
   (.keep [0, 4, 5] (.block 1 (.seq (.ops [.op (some 13) (.mov (.t 5)),
     .op (some 6) (.mov (.t 13))])
   (.keep [0, 4, 5, 6] (.seq (.seq (.ops [.op (some 14) (.mov (.t 0)),
     .op (some 15) (.mov (.t 5)),
     .op (some 16) (.idxS (.t 14) (.t 15)),
     .op (some 7) (.mov (.t 16))])
    (.keep [0, 4, 5, 6, 7] (.block 2 (.seq (.ops [.op (some 19) (.mov (.t 7)),
      .op (some 20) (.bin .eql (.t 19) (.k (.int .u8 32))),
      .op (some 18) (.mov (.t 20))])
    (.keep [0, 4, 5, 6, 7, 18] (.cond (.t 18)
     (.seq (.ops [.op (some 21) (.mov (.t 5)),
       .op (some 22) (.bin .add (.t 21) (.k (.int .i64 1))),
       .op (some 5) (.mov (.t 22))])
     (.keep [0, 4, 5] (.exit 1)))
     (.seq (.ops [.op (some 24) (.mov (.t 7)),
       .call (some 25) 61 [.t 24],
       .op (some 23) (.mov (.t 25))])
     (.keep [0, 4, 5, 6, 7, 23] (.cond (.t 23)
      (.block 3 (.loop (.seq (.seq (.ops [.op (some 26) (.mov (.t 5)),
         .op (some 27) (.mov (.t 0)),
         .op (some 28) (.lenT (.t 27)),
         .op (some 29) (.bin .lss (.t 26) (.t 28)),
         .op (some 30) (.mov (.t 29)),
         .andor 41 true 4 30 [.op (some 31) (.mov (.t 0)), .op (some 32) (.mov (.t 5)), .op (some 33) (.idxS (.t 31) (.t 32)), .call (some 34) 61 [.t 33], .op (some 35) (.mov (.t 34)), .andor 40 false 9 35 [.op (some 36) (.mov (.t 0)), .op (some 37) (.mov (.t 5)), .op (some 38) (.idxS (.t 36) (.t 37)), .call (some 39) 62 [.t 38]] (.t 39)] (.t 40)])
        (.keep [0, 4, 5, 6, 41] (.cond (.t 41)
        (.skip)
        (.exit 3))))
       (.keep [0, 4, 5, 6] (.block 4 (.ops [.op (some 42) (.mov (.t 5)),
         .op (some 43) (.bin .add (.t 42) (.k (.int .i64 1))),
         .op (some 5) (.mov (.t 43))]))))))
      (.seq (.ops [.op (some 45) (.mov (.t 7)),
        .call (some 46) 62 [.t 45],
        .op (some 44) (.mov (.t 46))])
      (.keep [0, 4, 5, 6, 7, 44] (.cond (.t 44)
       (.block 5 (.loop (.seq (.seq (.ops [.op (some 47) (.mov (.t 5)),
          .op (some 48) (.mov (.t 0)),
          .op (some 49) (.lenT (.t 48)),
          .op (some 50) (.bin .lss (.t 47) (.t 49)),
          .op (some 51) (.mov (.t 50)),
          .andor 56 true 4 51 [.op (some 52) (.mov (.t 0)), .op (some 53) (.mov (.t 5)), .op (some 54) (.idxS (.t 52) (.t 53)), .call (some 55) 62 [.t 54]] (.t 55)])
         (.keep [0, 4, 5, 6, 56] (.cond (.t 56)
         (.skip)
         (.exit 5))))
        (.keep [0, 4, 5, 6] (.block 6 (.ops [.op (some 57) (.mov (.t 5)),
          .op (some 58) (.bin .add (.t 57) (.k (.int .i64 1))),
          .op (some 5) (.mov (.t 58))]))))))
       (.seq (.ops [.op (some 60) (.mov (.t 7)),
         .op (some 61) (.bin .eql (.t 60) (.k (.int .u8 39))),
         .op (some 59) (.mov (.t 61))])
       (.keep [0, 4, 5, 6, 7, 59] (.cond (.t 59)
        (.seq (.ops [.op (some 62) (.mov (.t 5)),
          .op (some 63) (.bin .add (.t 62) (.k (.int .i64 1))),
          .op (some 5) (.mov (.t 63))])
        (.keep [0, 4, 5, 6] (.seq (.block 7 (.loop (.seq (.seq (.ops [.op (some 64) (.mov (.t 5)),
            .op (some 65) (.mov (.t 0)),
            .op (some 66) (.lenT (.t 65)),
            .op (some 67) (.bin .lss (.t 64) (.t 66)),
            .op (some 68) (.mov (.t 67)),
            .andor 73 true 4 68 [.op (some 69) (.mov (.t 0)), .op (some 70) (.mov (.t 5)), .op (some 71) (.idxS (.t 69) (.t 70)), .call (some 72) 61 [.t 71]] (.t 72)])
          (.keep [0, 4, 5, 6, 73] (.cond (.t 73)
           (.skip)
           (.exit 7))))
          (.keep [0, 4, 5, 6] (.block 8 (.ops [.op (some 74) (.mov (.t 5)),
           .op (some 75) (.bin .add (.t 74) (.k (.int .i64 1))),
           .op (some 5) (.mov (.t 75))]))))))
        (.keep [0, 4, 5, 6] (.seq (.seq (.ops [.op (some 76) (.mov (.t 5)),
          .op (some 77) (.mov (.t 0)),
          .op (some 78) (.lenT (.t 77)),
          .op (some 79) (.bin .eql (.t 76) (.t 78)),
          .op (some 80) (.mov (.t 79)),
          .andor 85 false 4 80 [.op (some 81) (.mov (.t 0)), .op (some 82) (.mov (.t 5)), .op (some 83) (.idxS (.t 81) (.t 82)), .op (some 84) (.bin .neq (.t 83) (.k (.int .u8 39)))] (.t 84)])
         (.keep [0, 4, 5, 6, 85] (.cond (.t 85)
         (.seq (.ops [.op (some 86) (.bslice 1 []),
           .op (some 2) (.mov (.t 86)),
           .op (some 3) (.mov (.k (.int .i64 3)))])
          (.keep [2, 3] (.ret)))
         (.skip))))
        (.keep [0, 4, 5, 6] (.ops [.op (some 87) (.mov (.t 5)),
         .op (some 88) (.bin .add (.t 87) (.k (.int .i64 1))),
         .op (some 5) (.mov (.t 88))])))))))
        (.seq (.ops [.op (some 90) (.mov (.t 7)),
          .op (some 91) (.bin .eql (.t 90) (.k (.int .u8 40))),
          .op (some 92) (.mov (.t 91)),
          .andor 95 false 2 92 [.op (some 93) (.mov (.t 7)), .op (some 94) (.bin .eql (.t 93) (.k (.int .u8 41)))] (.t 94),
          .op (some 96) (.mov (.t 95)),
          .andor 99 false 6 96 [.op (some 97) (.mov (.t 7)), .op (some 98) (.bin .eql (.t 97) (.k (.int .u8 43)))] (.t 98),
          .op (some 100) (.mov (.t 99)),
          .andor 103 false 10 100 [.op (some 101) (.mov (.t 7)), .op (some 102) (.bin .eql (.t 101) (.k (.int .u8 45)))] (.t 102),
          .op (some 104) (.mov (.t 103)),
          .andor 107 false 14 104 [.op (some 105) (.mov (.t 7)), .op (some 106) (.bin .eql (.t 105) (.k (.int .u8 42)))] (.t 106),
          .op (some 108) (.mov (.t 107)),
          .andor 111 false 18 108 [.op (some 109) (.mov (.t 7)), .op (some 110) (.bin .eql (.t 109) (.k (.int .u8 47)))] (.t 110),
          .op (some 112) (.mov (.t 111)),
          .andor 115 false 22 112 [.op (some 113) (.mov (.t 7)), .op (some 114) (.bin .eql (.t 113) (.k (.int .u8 61)))] (.t 114),
          .op (some 116) (.mov (.t 115)),
          .andor 119 false 26 116 [.op (some 117) (.mov (.t 7)), .op (some 118) (.bin .eql (.t 117) (.k (.int .u8 60)))] (.t 118),
          .op (some 120) (.mov (.t 119)),
          .andor 123 false 30 120 [.op (some 121) (.mov (.t 7)), .op (some 122) (.bin .eql (.t 121) (.k (.int .u8 44)))] (.t 122),
          .op (some 89) (.mov (.t 123))])
        (.keep [0, 4, 5, 6, 89] (.cond (.t 89)
         (.ops [.op (some 124) (.mov (.t 5)),
          .op (some 125) (.bin .add (.t 124) (.k (.int .i64 1))),
          .op (some 5) (.mov (.t 125))])
         (.seq (.ops [.op (some 17) (.bslice 1 []),
           .op (some 2) (.mov (.t 17)),
           .op (some 3) (.mov (.k (.int .i64 3)))])
         (.keep [2, 3] (.ret)))))))))))))))))))))
   (.keep [0, 4, 5, 6] (.seq (.ops [.op (some 126) (.mov (.t 4)),
     .op (some 127) (.mov (.t 0)),
     .op (some 128) (.mov (.t 6)),
     .op (some 129) (.mov (.t 5)),
     .op (some 130) (.slcT (.t 127) (some (.t 128)) (some (.t 129))),
     .op (some 131) (.bslice 1 [.t 130]),
     .op (some 132) (.app 1 16 [.str []] (.t 126) (.t 131)),
     .op (some 4) (.mov (.t 132))])
   (.keep [0, 4, 5] (.seq (.ops [.op (some 133) (.mov (.t 4)),
     .op (some 134) (.lenS (.t 133)),
     .op (some 135) (.bin .gtr (.t 134) (.k (.int .i64 500)))])
   (.keep [0, 4, 5, 135] (.cond (.t 135)
    (.seq (.ops [.op (some 136) (.bslice 1 []),
      .op (some 2) (.mov (.t 136)),
      .op (some 3) (.mov (.k (.int .i64 6)))])
    (.keep [2, 3] (.ret)))
    (.skip)))))))))))))))))
 (.keep [4] (.seq (.ops [.op (some 137) (.mov (.t 4)),
   .op (some 2) (.mov (.t 137)),
   .op (some 3) (.mov (.k (.int .i64 0)))])
 (.keep [2, 3] (.ret))))))))
theorem k_c_sLex_fits : fitsF Tryz.prog 33 ⟨138, k_c_sLex, [.t 2, .t 3]⟩ = true := by kernel_rfl
set_option maxHeartbeats 8000000 in
theorem c_sLex {t : Str} {ts : List Str} (hl : t.length ≤ 65536) (h : lexF (t.length + 1) t = some ts) (hn : ts.length ≤ 500) : Con Tryz.prog noMv 33 [str t] [] (fun r h => r = .tup [.osl 0 1 0 ts.length, int 0] ∧ h = [(0, .rows 1 (ts.map strRow))]) := by
 refine con_of2 k_c_sLex_fits rfl fun C hP hmv => ?_
 unfold k_c_sLex
 refine cx_seq ?_
 refine cx_ops ?_
 refine ax_q (q_mov rfl) ?_
 refine ax_q (q_mov rfl) ?_
 refine ax_nil ?_
 refine cx_keep rfl rfl ?_
 refine cx_seq ?_
 refine cx_ops ?_
 refine ax_e (e_bslice rfl (by decide) rfl rfl) ?_
 refine ax_q (q_mov rfl) ?_
 refine ax_nil ?_
 refine cx_keep rfl rfl ?_
 refine cx_seq ?_
 refine cx_seq ?_
 refine cx_ops ?_
 refine ax_q (q_mov rfl) ?_
 refine ax_nil ?_
 refine cx_keep rfl rfl ?_
 refine cx_block ?_
 refine cx_loopU (fun n (p : Nat × List Str) => n = t.length - p.1 ∧ p.1 ≤ t.length ∧ ∃ f rest, lexF f (t.drop p.1) = some rest ∧ p.2 ++ rest = ts) (fun p => [(5, int p.1), (4, .osl 8 1 0 p.2.length)]) (fun p => [(8, .rows 1 (p.2.map strRow))]) ⟨_, (0, []), ⟨rfl, Nat.zero_le _, _, ts, h, rfl⟩, by repeat (first | exact trivial | refine ⟨rfl, ?_⟩ | refine ⟨?_, ?_⟩)⟩ ?_
 rintro n ⟨i, out⟩ ⟨rfl, hil, f, rest, hf, hts⟩
 simp only at hil hf hts ⊢
 refine cx_seq ?_
 refine cx_seq ?_
 refine cx_ops ?_
 refine ax_q (q_mov rfl) ?_
 refine ax_q (q_mov rfl) ?_
 refine ax_q (q_lenT rfl) ?_
 refine ax_q (q_ibin rfl rfl rfl) ?_
 refine ax_nil ?_
 refine cx_keep rfl rfl ?_
 refine cx_cond rfl (fun h0 => ?_) (fun h0 => ?_)
 ·
  have h0 := dT h0
  have hi : i < t.length := by omega
  obtain ⟨g, rfl⟩ := lexF_pos hf
  have hu := drop_hd hi
  rw [hu] at hf
  refine cx_skip ?_
  refine cx_keep rfl rfl ?_
  refine cx_block ?_
  refine cx_seq ?_
  refine cx_ops ?_
  refine ax_q (q_mov rfl) ?_
  refine ax_q (q_mov rfl) ?_
  refine ax_nil ?_
  refine cx_keep rfl rfl ?_
  refine cx_seq ?_
  refine cx_seq ?_
  refine cx_ops ?_
  refine ax_q (q_mov rfl) ?_
  refine ax_q (q_mov rfl) ?_
  refine ax_qe (r' := .d (.int .u8 ((t.getD i 0).toNat : Int))) (q_idxN rfl rfl hi) (getD_get hi) ?_
  refine ax_q (q_mov rfl) ?_
  refine ax_nil ?_
  refine cx_keep rfl rfl ?_
  refine cx_block ?_
  refine cx_seq ?_
  refine cx_ops ?_
  refine ax_q (q_mov rfl) ?_
  refine ax_q (q_ibin rfl rfl rfl) ?_
  refine ax_q (q_mov rfl) ?_
  refine ax_nil ?_
  refine cx_keep rfl rfl ?_
  refine cx_cond rfl (fun h1 => ?_) (fun h1 => ?_)
  ·
   have h1 := dT h1
   have hc : t.getD i 0 = 32 := (u8_int (n := 32) (by decide)).1 h1
   refine cx_seq ?_
   refine cx_ops ?_
   refine ax_q (q_mov rfl) ?_
   refine ax_qe (r' := int ((i + 1 : Nat) : Int)) (q_ibin rfl rfl rfl) (by rw [wi (by omega) (by omega)]; rfl) ?_
   refine ax_q (q_mov rfl) ?_
   refine ax_nil ?_
   refine cx_keep rfl rfl ?_
   refine cx_exit rfl ?_
   exact ⟨_, (i + 1, out), by simp only; omega, ⟨rfl, by simp only; omega, g, rest, lexF_sp hf hc, hts⟩, by repeat (first | exact trivial | refine ⟨rfl, ?_⟩ | refine ⟨?_, ?_⟩)⟩
  ·
   have h1 := dF h1
   have hc : ¬ t.getD i 0 = 32 := fun e => h1 ((u8_int (n := 32) (by decide)).2 e)
   obtain ⟨hk0, rest', hr', hrest⟩ := lexF_tok hf hc
   rw [← hu] at hk0 hr' hrest
   have hkl := tokF_le (t := t.drop i)
   rw [List.length_drop] at hkl
   have hlen : out.length + 1 + rest'.length = ts.length := by rw [← hts, hrest, List.length_append, List.length_cons]; omega
   refine cx_seq ?_
   refine cx_ops ?_
   refine ax_q (q_mov rfl) ?_
   first | refine ax_call rfl (vc_pure0 (c_l10Letter (b := t.getD i 0) ) hP rfl rfl ?_) | refine ax_call rfl (vc_lend0 (c_l10Letter (b := t.getD i 0) ) hP (by repeat (first | exact lal_id _ rfl | exact LAL.nil | refine LAL.cons ?_ ?_ | exact la_id _ rfl | exact LA.lend (lend_whole rfl (by first | (simp; done) | (rw [List.length_map]; rfl))) | refine LA.agg ?_ | refine LA.fn ?_ | refine LA.lend ?_ | exact Lend.d _ | exact Lend.zs _ | exact lend_whole rfl (by first | (simp; done) | (rw [List.length_map]; rfl)) | refine Lend.ptr rfl ?_ | refine Lend.fn ?_ | exact LendL.nil | refine LendL.cons ?_ ?_)) rfl rfl ?_)
   refine ax_q (q_mov rfl) ?_
   refine ax_nil ?_
   refine cx_keep rfl rfl ?_
   refine cx_cond rfl (fun h2 => ?_) (fun h2 => ?_)
   ·
    skip
    refine cx_block ?_
    refine cx_wk (wk_le (st' := ⟨[(5, int (i : Nat)), (0, str t), (4, .osl 8 1 0 out.length), (6, int i)], [(8, .rows 1 (out.map strRow))]⟩) (by repeat (first | exact trivial | refine ⟨rfl, ?_⟩ | refine ⟨?_, ?_⟩))) ?_
    refine cx_loopU (fun n m => i ≤ m ∧ m ≤ t.length ∧ n = t.length - m ∧ wn wordB (t.drop (i)) + (i) = m + wn wordB (t.drop m)) (fun m : Nat => [(5, int m)]) (fun _ => [(8, .rows 1 (out.map strRow))]) ⟨_, i, ⟨by omega, by omega, rfl, by omega⟩, by repeat (first | exact trivial | refine ⟨rfl, ?_⟩ | refine ⟨?_, ?_⟩)⟩ ?_
    rintro n m ⟨hmi, hm0, rfl, hw⟩
    refine cx_seq ?_
    refine cx_seq ?_
    refine cx_ops ?_
    refine ax_q (q_mov rfl) ?_
    refine ax_q (q_mov rfl) ?_
    refine ax_q (q_lenT rfl) ?_
    refine ax_q (q_ibin rfl rfl rfl) ?_
    refine ax_q (q_mov rfl) ?_
    apply ax_and rfl rfl
    ·
     intro g
     have g := dT g
     have hm : m < t.length := by omega
     refine ax_q (q_mov rfl) ?_
     refine ax_q (q_mov rfl) ?_
     refine ax_qe (r' := .d (.int .u8 ((t.getD m 0).toNat : Int))) (q_idxN rfl rfl hm) (getD_get hm) ?_
     first | refine ax_call rfl (vc_pure0 (c_l10Letter (b := t.getD m 0) ) hP rfl rfl ?_) | refine ax_call rfl (vc_lend0 (c_l10Letter (b := t.getD m 0) ) hP (by repeat (first | exact lal_id _ rfl | exact LAL.nil | refine LAL.cons ?_ ?_ | exact la_id _ rfl | exact LA.lend (lend_whole rfl (by first | (simp; done) | (rw [List.length_map]; rfl))) | refine LA.agg ?_ | refine LA.fn ?_ | refine LA.lend ?_ | exact Lend.d _ | exact Lend.zs _ | exact lend_whole rfl (by first | (simp; done) | (rw [List.length_map]; rfl)) | refine Lend.ptr rfl ?_ | refine Lend.fn ?_ | exact LendL.nil | refine LendL.cons ?_ ?_)) rfl rfl ?_)
     refine ax_q (q_mov rfl) ?_
     apply ax_or rfl rfl
     ·
      intro g
      refine ax_q (q_mov rfl) ?_
      refine ax_q (q_mov rfl) ?_
      refine ax_qe (r' := .d (.int .u8 ((t.getD m 0).toNat : Int))) (q_idxN rfl rfl hm) (getD_get hm) ?_
      first | refine ax_call rfl (vc_pure0 (c_l00Digit (b := t.getD m 0) ) hP rfl rfl ?_) | refine ax_call rfl (vc_lend0 (c_l00Digit (b := t.getD m 0) ) hP (by repeat (first | exact lal_id _ rfl | exact LAL.nil | refine LAL.cons ?_ ?_ | exact la_id _ rfl | exact LA.lend (lend_whole rfl (by first | (simp; done) | (rw [List.length_map]; rfl))) | refine LA.agg ?_ | refine LA.fn ?_ | refine LA.lend ?_ | exact Lend.d _ | exact Lend.zs _ | exact lend_whole rfl (by first | (simp; done) | (rw [List.length_map]; rfl)) | refine Lend.ptr rfl ?_ | refine Lend.fn ?_ | exact LendL.nil | refine LendL.cons ?_ ?_)) rfl rfl ?_)
      exact ax_nil ⟨rfl, by repeat (first | exact trivial | refine ⟨rfl, ?_⟩ | refine ⟨?_, ?_⟩)⟩
     exact ax_nil ⟨rfl, by repeat (first | exact trivial | refine ⟨rfl, ?_⟩ | refine ⟨?_, ?_⟩)⟩
    refine ax_nil ?_
    refine cx_keep rfl rfl ?_
    refine cx_cond rfl (fun h3 => ?_) (fun h3 => ?_)
    ·
     have h3 := (fun h => And.intro (dT (and_T h).1) ((fun h => (or_T h).imp id id) (and_T h).2)) h3
     have hm : m < t.length := by omega
     have hy : wordB (t.getD m 0) = true := word_yes h3.2
     refine cx_skip ?_
     refine cx_keep rfl rfl ?_
     refine cx_block ?_
     refine cx_ops ?_
     refine ax_q (q_mov rfl) ?_
     refine ax_qe (r' := int ((m + 1 : Nat) : Int)) (q_ibin rfl rfl rfl) (by rw [wi (by omega) (by omega)]; rfl) ?_
     refine ax_q (q_mov rfl) ?_
     refine ax_nil ?_
     exact ⟨_, m + 1, by omega, ⟨by omega, by omega, rfl, by rw [hw, wn_yes hm hy]; omega⟩, by repeat (first | exact trivial | refine ⟨rfl, ?_⟩ | refine ⟨?_, ?_⟩)⟩
    ·
     have h3 := (fun h => (and_F h).imp dF (fun h => And.intro (id (or_F h).1) (id (or_F h).2))) h3
     rw [wn_noW h3] at hw
     have hk : i + tokF (t.drop i) = m := by rw [hu, tok_1 h2]; rw [hu, wn, if_pos (show wordB (t.getD i 0) = true from by unfold wordB; rw [h2]; rfl)] at hw; omega
     refine cx_exit rfl ?_
     refine cx_keep rfl rfl ?_
     refine cx_seq ?_
     refine cx_ops ?_
     refine ax_q (q_mov rfl) ?_
     refine ax_q (q_mov rfl) ?_
     refine ax_q (q_mov rfl) ?_
     refine ax_q (q_mov rfl) ?_
     refine ax_qe (r' := str ((t.drop i).take (tokF (t.drop i)))) (q_slcT rfl rfl rfl (by omega) (by omega) (by omega)) (sT_mid (by omega) (by omega)) ?_
     refine ax_e (e_bslice rfl (by decide) rfl rfl) ?_
     refine ax_e (e_appn (n' := (out ++ [(t.drop i).take (tokF (t.drop i))]).length) (rs' := (out ++ [(t.drop i).take (tokF (t.drop i))]).map strRow) rfl rfl (by simp) rfl (src_osl rfl (by simp)) (.inl (by decide)) (hbnd (by omega) (by simp) (by decide)) (by simp) (app1 rfl)) ?_
     have hoa : (out ++ [(t.drop i).take (tokF (t.drop i))]).length = out.length + 1 := by simp
     refine ax_q (q_mov rfl) ?_
     refine ax_nil ?_
     refine cx_keep rfl rfl ?_
     refine cx_seq ?_
     refine cx_ops ?_
     refine ax_q (q_mov rfl) ?_
     first | refine ax_q (q_lenS_map rfl) ?_ | refine ax_q (q_lenS_osl rfl) ?_ | refine ax_q (q_lenS_zs rfl) ?_ | refine ax_q (q_lenS rfl) ?_
     refine ax_q (q_ibin rfl rfl rfl) ?_
     refine ax_nil ?_
     refine cx_keep rfl rfl ?_
     refine cx_cond rfl (fun h10 => ?_) (fun h10 => ?_)
     ·
      have h10 := dT h10
      exfalso; omega
     ·
      have h10 := dF h10
      refine cx_skip ?_
      exact ⟨_, (m, out ++ [(t.drop i).take (tokF (t.drop i))]), by simp only; omega, ⟨rfl, by simp only; omega, g, rest', by simp only; rw [← hk, ← List.drop_drop]; exact hr', by simp only; rw [← hts, hrest, List.append_assoc]; rfl⟩, by repeat (first | exact trivial | refine ⟨rfl, ?_⟩ | refine ⟨?_, ?_⟩)⟩
   ·
    skip
    refine cx_seq ?_
    refine cx_ops ?_
    refine ax_q (q_mov rfl) ?_
    first | refine ax_call rfl (vc_pure0 (c_l00Digit (b := t.getD i 0) ) hP rfl rfl ?_) | refine ax_call rfl (vc_lend0 (c_l00Digit (b := t.getD i 0) ) hP (by repeat (first | exact lal_id _ rfl | exact LAL.nil | refine LAL.cons ?_ ?_ | exact la_id _ rfl | exact LA.lend (lend_whole rfl (by first | (simp; done) | (rw [List.length_map]; rfl))) | refine LA.agg ?_ | refine LA.fn ?_ | refine LA.lend ?_ | exact Lend.d _ | exact Lend.zs _ | exact lend_whole rfl (by first | (simp; done) | (rw [List.length_map]; rfl)) | refine Lend.ptr rfl ?_ | refine Lend.fn ?_ | exact LendL.nil | refine LendL.cons ?_ ?_)) rfl rfl ?_)
    refine ax_q (q_mov rfl) ?_
    refine ax_nil ?_
    refine cx_keep rfl rfl ?_
    refine cx_cond rfl (fun h4 => ?_) (fun h4 => ?_)
    ·
     skip
     refine cx_block ?_
     refine cx_wk (wk_le (st' := ⟨[(5, int (i : Nat)), (0, str t), (4, .osl 8 1 0 out.length), (6, int i)], [(8, .rows 1 (out.map strRow))]⟩) (by repeat (first | exact trivial | refine ⟨rfl, ?_⟩ | refine ⟨?_, ?_⟩))) ?_
     refine cx_loopU (fun n m => i ≤ m ∧ m ≤ t.length ∧ n = t.length - m ∧ wn digB (t.drop (i)) + (i) = m + wn digB (t.drop m)) (fun m : Nat => [(5, int m)]) (fun _ => [(8, .rows 1 (out.map strRow))]) ⟨_, i, ⟨by omega, by omega, rfl, by omega⟩, by repeat (first | exact trivial | refine ⟨rfl, ?_⟩ | refine ⟨?_, ?_⟩)⟩ ?_
     rintro n m ⟨hmi, hm0, rfl, hw⟩
     refine cx_seq ?_
     refine cx_seq ?_
     refine cx_ops ?_
     refine ax_q (q_mov rfl) ?_
     refine ax_q (q_mov rfl) ?_
     refine ax_q (q_lenT rfl) ?_
     refine ax_q (q_ibin rfl rfl rfl) ?_
     refine ax_q (q_mov rfl) ?_
     apply ax_and rfl rfl
     ·
      intro g
      have g := dT g
      have hm : m < t.length := by omega
      refine ax_q (q_mov rfl) ?_
      refine ax_q (q_mov rfl) ?_
      refine ax_qe (r' := .d (.int .u8 ((t.getD m 0).toNat : Int))) (q_idxN rfl rfl hm) (getD_get hm) ?_
      first | refine ax_call rfl (vc_pure0 (c_l00Digit (b := t.getD m 0) ) hP rfl rfl ?_) | refine ax_call rfl (vc_lend0 (c_l00Digit (b := t.getD m 0) ) hP (by repeat (first | exact lal_id _ rfl | exact LAL.nil | refine LAL.cons ?_ ?_ | exact la_id _ rfl | exact LA.lend (lend_whole rfl (by first | (simp; done) | (rw [List.length_map]; rfl))) | refine LA.agg ?_ | refine LA.fn ?_ | refine LA.lend ?_ | exact Lend.d _ | exact Lend.zs _ | exact lend_whole rfl (by first | (simp; done) | (rw [List.length_map]; rfl)) | refine Lend.ptr rfl ?_ | refine Lend.fn ?_ | exact LendL.nil | refine LendL.cons ?_ ?_)) rfl rfl ?_)
      exact ax_nil ⟨rfl, by repeat (first | exact trivial | refine ⟨rfl, ?_⟩ | refine ⟨?_, ?_⟩)⟩
     refine ax_nil ?_
     refine cx_keep rfl rfl ?_
     refine cx_cond rfl (fun h5 => ?_) (fun h5 => ?_)
     ·
      have h5 := (fun h => And.intro (dT (and_T h).1) (id (and_T h).2)) h5
      have hm : m < t.length := by omega
      have hy : digB (t.getD m 0) = true := h5.2
      refine cx_skip ?_
      refine cx_keep rfl rfl ?_
      refine cx_block ?_
      refine cx_ops ?_
      refine ax_q (q_mov rfl) ?_
      refine ax_qe (r' := int ((m + 1 : Nat) : Int)) (q_ibin rfl rfl rfl) (by rw [wi (by omega) (by omega)]; rfl) ?_
      refine ax_q (q_mov rfl) ?_
      refine ax_nil ?_
      exact ⟨_, m + 1, by omega, ⟨by omega, by omega, rfl, by rw [hw, wn_yes hm hy]; omega⟩, by repeat (first | exact trivial | refine ⟨rfl, ?_⟩ | refine ⟨?_, ?_⟩)⟩
     ·
      have h5 := (fun h => (and_F h).imp dF id) h5
      rw [wn_noI (p := digB) h5] at hw
      have hk : i + tokF (t.drop i) = m := by rw [hu, tok_2 h2 h4]; rw [hu, wn, if_pos h4] at hw; omega
      refine cx_exit rfl ?_
      refine cx_keep rfl rfl ?_
      refine cx_seq ?_
      refine cx_ops ?_
      refine ax_q (q_mov rfl) ?_
      refine ax_q (q_mov rfl) ?_
      refine ax_q (q_mov rfl) ?_
      refine ax_q (q_mov rfl) ?_
      refine ax_qe (r' := str ((t.drop i).take (tokF (t.drop i)))) (q_slcT rfl rfl rfl (by omega) (by omega) (by omega)) (sT_mid (by omega) (by omega)) ?_
      refine ax_e (e_bslice rfl (by decide) rfl rfl) ?_
      refine ax_e (e_appn (n' := (out ++ [(t.drop i).take (tokF (t.drop i))]).length) (rs' := (out ++ [(t.drop i).take (tokF (t.drop i))]).map strRow) rfl rfl (by simp) rfl (src_osl rfl (by simp)) (.inl (by decide)) (hbnd (by omega) (by simp) (by decide)) (by simp) (app1 rfl)) ?_
      have hoa : (out ++ [(t.drop i).take (tokF (t.drop i))]).length = out.length + 1 := by simp
      refine ax_q (q_mov rfl) ?_
      refine ax_nil ?_
      refine cx_keep rfl rfl ?_
      refine cx_seq ?_
      refine cx_ops ?_
      refine ax_q (q_mov rfl) ?_
      first | refine ax_q (q_lenS_map rfl) ?_ | refine ax_q (q_lenS_osl rfl) ?_ | refine ax_q (q_lenS_zs rfl) ?_ | refine ax_q (q_lenS rfl) ?_
      refine ax_q (q_ibin rfl rfl rfl) ?_
      refine ax_nil ?_
      refine cx_keep rfl rfl ?_
      refine cx_cond rfl (fun h10 => ?_) (fun h10 => ?_)
      ·
       have h10 := dT h10
       exfalso; omega
      ·
       have h10 := dF h10
       refine cx_skip ?_
       exact ⟨_, (m, out ++ [(t.drop i).take (tokF (t.drop i))]), by simp only; omega, ⟨rfl, by simp only; omega, g, rest', by simp only; rw [← hk, ← List.drop_drop]; exact hr', by simp only; rw [← hts, hrest, List.append_assoc]; rfl⟩, by repeat (first | exact trivial | refine ⟨rfl, ?_⟩ | refine ⟨?_, ?_⟩)⟩
    ·
     skip
     refine cx_seq ?_
     refine cx_ops ?_
     refine ax_q (q_mov rfl) ?_
     refine ax_q (q_ibin rfl rfl rfl) ?_
     refine ax_q (q_mov rfl) ?_
     refine ax_nil ?_
     refine cx_keep rfl rfl ?_
     refine cx_cond rfl (fun h6 => ?_) (fun h6 => ?_)
     ·
      have h6 := dT h6
      have hq : t.getD i 0 = 39 := (u8_int (n := 39) (by decide)).1 h6
      refine cx_seq ?_
      refine cx_ops ?_
      refine ax_q (q_mov rfl) ?_
      refine ax_qe (r' := int ((i + 1 : Nat) : Int)) (q_ibin rfl rfl rfl) (by rw [wi (by omega) (by omega)]; rfl) ?_
      refine ax_q (q_mov rfl) ?_
      refine ax_nil ?_
      refine cx_keep rfl rfl ?_
      refine cx_seq ?_
      refine cx_block ?_
      refine cx_wk (wk_le (st' := ⟨[(5, int (i + 1 : Nat)), (0, str t), (4, .osl 8 1 0 out.length), (6, int i)], [(8, .rows 1 (out.map strRow))]⟩) (by repeat (first | exact trivial | refine ⟨rfl, ?_⟩ | refine ⟨?_, ?_⟩))) ?_
      refine cx_loopU (fun n m => i ≤ m ∧ m ≤ t.length ∧ n = t.length - m ∧ wn letB (t.drop (i + 1)) + (i + 1) = m + wn letB (t.drop m)) (fun m : Nat => [(5, int m)]) (fun _ => [(8, .rows 1 (out.map strRow))]) ⟨_, i + 1, ⟨by omega, by omega, rfl, by omega⟩, by repeat (first | exact trivial | refine ⟨rfl, ?_⟩ | refine ⟨?_, ?_⟩)⟩ ?_
      rintro n m ⟨hmi, hm0, rfl, hw⟩
      refine cx_seq ?_
      refine cx_seq ?_
      refine cx_ops ?_
      refine ax_q (q_mov rfl) ?_
      refine ax_q (q_mov rfl) ?_
      refine ax_q (q_lenT rfl) ?_
      refine ax_q (q_ibin rfl rfl rfl) ?_
      refine ax_q (q_mov rfl) ?_
      apply ax_and rfl rfl
      ·
       intro g
       have g := dT g
       have hm : m < t.length := by omega
       refine ax_q (q_mov rfl) ?_
       refine ax_q (q_mov rfl) ?_
       refine ax_qe (r' := .d (.int .u8 ((t.getD m 0).toNat : Int))) (q_idxN rfl rfl hm) (getD_get hm) ?_
       first | refine ax_call rfl (vc_pure0 (c_l10Letter (b := t.getD m 0) ) hP rfl rfl ?_) | refine ax_call rfl (vc_lend0 (c_l10Letter (b := t.getD m 0) ) hP (by repeat (first | exact lal_id _ rfl | exact LAL.nil | refine LAL.cons ?_ ?_ | exact la_id _ rfl | exact LA.lend (lend_whole rfl (by first | (simp; done) | (rw [List.length_map]; rfl))) | refine LA.agg ?_ | refine LA.fn ?_ | refine LA.lend ?_ | exact Lend.d _ | exact Lend.zs _ | exact lend_whole rfl (by first | (simp; done) | (rw [List.length_map]; rfl)) | refine Lend.ptr rfl ?_ | refine Lend.fn ?_ | exact LendL.nil | refine LendL.cons ?_ ?_)) rfl rfl ?_)
       exact ax_nil ⟨rfl, by repeat (first | exact trivial | refine ⟨rfl, ?_⟩ | refine ⟨?_, ?_⟩)⟩
      refine ax_nil ?_
      refine cx_keep rfl rfl ?_
      refine cx_cond rfl (fun h7 => ?_) (fun h7 => ?_)
      ·
       have h7 := (fun h => And.intro (dT (and_T h).1) (id (and_T h).2)) h7
       have hm : m < t.length := by omega
       have hy : letB (t.getD m 0) = true := h7.2
       refine cx_skip ?_
       refine cx_keep rfl rfl ?_
       refine cx_block ?_
       refine cx_ops ?_
       refine ax_q (q_mov rfl) ?_
       refine ax_qe (r' := int ((m + 1 : Nat) : Int)) (q_ibin rfl rfl rfl) (by rw [wi (by omega) (by omega)]; rfl) ?_
       refine ax_q (q_mov rfl) ?_
       refine ax_nil ?_
       exact ⟨_, m + 1, by omega, ⟨by omega, by omega, rfl, by rw [hw, wn_yes hm hy]; omega⟩, by repeat (first | exact trivial | refine ⟨rfl, ?_⟩ | refine ⟨?_, ?_⟩)⟩
      ·
       have h7 := (fun h => (and_F h).imp dF id) h7
       rw [wn_noI (p := letB) h7] at hw
       refine cx_exit rfl ?_
       refine cx_keep rfl rfl ?_
       refine cx_seq ?_
       refine cx_seq ?_
       refine cx_ops ?_
       refine ax_q (q_mov rfl) ?_
       refine ax_q (q_mov rfl) ?_
       refine ax_q (q_lenT rfl) ?_
       refine ax_q (q_ibin rfl rfl rfl) ?_
       refine ax_q (q_mov rfl) ?_
       apply ax_or rfl rfl
       ·
        intro g
        have g := dF g
        have hm : m < t.length := by omega
        refine ax_q (q_mov rfl) ?_
        refine ax_q (q_mov rfl) ?_
        refine ax_qe (r' := .d (.int .u8 ((t.getD m 0).toNat : Int))) (q_idxN rfl rfl hm) (getD_get hm) ?_
        refine ax_q (q_ibin rfl rfl rfl) ?_
        exact ax_nil ⟨rfl, by repeat (first | exact trivial | refine ⟨rfl, ?_⟩ | refine ⟨?_, ?_⟩)⟩
       refine ax_nil ?_
       refine cx_keep rfl rfl ?_
       refine cx_cond rfl (fun h8 => ?_) (fun h8 => ?_)
       ·
        have h8 := (fun h => (or_T h).imp dT nT) h8
        exact absurd (by rw [hu]; exact tok_4 h2 h4 hq (q39s_no (by omega) h8)) hk0
       ·
        have h8 := (fun h => And.intro (dF (or_F h).1) (nF (or_F h).2)) h8
        have hk : i + tokF (t.drop i) = m + 1 := by rw [hu, tok_3 h2 h4 hq (q39s_yes (m := m) (by omega) (by omega) h8.2)]; omega
        refine cx_skip ?_
        refine cx_keep rfl rfl ?_
        refine cx_ops ?_
        refine ax_q (q_mov rfl) ?_
        refine ax_qe (r' := int ((m + 1 : Nat) : Int)) (q_ibin rfl rfl rfl) (by rw [wi (by omega) (by omega)]; rfl) ?_
        refine ax_q (q_mov rfl) ?_
        refine ax_nil ?_
        refine cx_keep rfl rfl ?_
        refine cx_seq ?_
        refine cx_ops ?_
        refine ax_q (q_mov rfl) ?_
        refine ax_q (q_mov rfl) ?_
        refine ax_q (q_mov rfl) ?_
        refine ax_q (q_mov rfl) ?_
        refine ax_qe (r' := str ((t.drop i).take (tokF (t.drop i)))) (q_slcT rfl rfl rfl (by omega) (by omega) (by omega)) (sT_mid (by omega) (by omega)) ?_
        refine ax_e (e_bslice rfl (by decide) rfl rfl) ?_
        refine ax_e (e_appn (n' := (out ++ [(t.drop i).take (tokF (t.drop i))]).length) (rs' := (out ++ [(t.drop i).take (tokF (t.drop i))]).map strRow) rfl rfl (by simp) rfl (src_osl rfl (by simp)) (.inl (by decide)) (hbnd (by omega) (by simp) (by decide)) (by simp) (app1 rfl)) ?_
        have hoa : (out ++ [(t.drop i).take (tokF (t.drop i))]).length = out.length + 1 := by simp
        refine ax_q (q_mov rfl) ?_
        refine ax_nil ?_
        refine cx_keep rfl rfl ?_
        refine cx_seq ?_
        refine cx_ops ?_
        refine ax_q (q_mov rfl) ?_
        first | refine ax_q (q_lenS_map rfl) ?_ | refine ax_q (q_lenS_osl rfl) ?_ | refine ax_q (q_lenS_zs rfl) ?_ | refine ax_q (q_lenS rfl) ?_
        refine ax_q (q_ibin rfl rfl rfl) ?_
        refine ax_nil ?_
        refine cx_keep rfl rfl ?_
        refine cx_cond rfl (fun h10 => ?_) (fun h10 => ?_)
        ·
         have h10 := dT h10
         exfalso; omega
        ·
         have h10 := dF h10
         refine cx_skip ?_
         exact ⟨_, (m + 1, out ++ [(t.drop i).take (tokF (t.drop i))]), by simp only; omega, ⟨rfl, by simp only; omega, g, rest', by simp only; rw [← hk, ← List.drop_drop]; exact hr', by simp only; rw [← hts, hrest, List.append_assoc]; rfl⟩, by repeat (first | exact trivial | refine ⟨rfl, ?_⟩ | refine ⟨?_, ?_⟩)⟩
     ·
      have h6 := dF h6
      have hq : ¬ t.getD i 0 = 39 := fun e => h6 ((u8_int (n := 39) (by decide)).2 e)
      refine cx_seq ?_
      refine cx_ops ?_
      refine ax_q (q_mov rfl) ?_
      refine ax_q (q_ibin rfl rfl rfl) ?_
      refine ax_q (q_mov rfl) ?_
      apply ax_or rfl rfl
      ·
       intro g
       have g := dF g
       refine ax_q (q_mov rfl) ?_
       refine ax_q (q_ibin rfl rfl rfl) ?_
       exact ax_nil ⟨rfl, by repeat (first | exact trivial | refine ⟨rfl, ?_⟩ | refine ⟨?_, ?_⟩)⟩
      refine ax_q (q_mov rfl) ?_
      apply ax_or rfl rfl
      ·
       intro g
       have g := (fun h => And.intro (dF (or_F h).1) (dF (or_F h).2)) g
       refine ax_q (q_mov rfl) ?_
       refine ax_q (q_ibin rfl rfl rfl) ?_
       exact ax_nil ⟨rfl, by repeat (first | exact trivial | refine ⟨rfl, ?_⟩ | refine ⟨?_, ?_⟩)⟩
      refine ax_q (q_mov rfl) ?_
      apply ax_or rfl rfl
      ·
       intro g
       have g := (fun h => And.intro ((fun h => And.intro (dF (or_F h).1) (dF (or_F h).2)) (or_F h).1) (dF (or_F h).2)) g
       refine ax_q (q_mov rfl) ?_
       refine ax_q (q_ibin rfl rfl rfl) ?_
       exact ax_nil ⟨rfl, by repeat (first | exact trivial | refine ⟨rfl, ?_⟩ | refine ⟨?_, ?_⟩)⟩
      refine ax_q (q_mov rfl) ?_
      apply ax_or rfl rfl
      ·
       intro g
       have g := (fun h => And.intro ((fun h => And.intro ((fun h => And.intro (dF (or_F h).1) (dF (or_F h).2)) (or_F h).1) (dF (or_F h).2)) (or_F h).1) (dF (or_F h).2)) g
       refine ax_q (q_mov rfl) ?_
       refine ax_q (q_ibin rfl rfl rfl) ?_
       exact ax_nil ⟨rfl, by repeat (first | exact trivial | refine ⟨rfl, ?_⟩ | refine ⟨?_, ?_⟩)⟩
      refine ax_q (q_mov rfl) ?_
      apply ax_or rfl rfl
      ·
       intro g
       have g := (fun h => And.intro ((fun h => And.intro ((fun h => And.intro ((fun h => And.intro (dF (or_F h).1) (dF (or_F h).2)) (or_F h).1) (dF (or_F h).2)) (or_F h).1) (dF (or_F h).2)) (or_F h).1) (dF (or_F h).2)) g
       refine ax_q (q_mov rfl) ?_
       refine ax_q (q_ibin rfl rfl rfl) ?_
       exact ax_nil ⟨rfl, by repeat (first | exact trivial | refine ⟨rfl, ?_⟩ | refine ⟨?_, ?_⟩)⟩
      refine ax_q (q_mov rfl) ?_
      apply ax_or rfl rfl
      ·
       intro g
       have g := (fun h => And.intro ((fun h => And.intro ((fun h => And.intro ((fun h => And.intro ((fun h => And.intro (dF (or_F h).1) (dF (or_F h).2)) (or_F h).1) (dF (or_F h).2)) (or_F h).1) (dF (or_F h).2)) (or_F h).1) (dF (or_F h).2)) (or_F h).1) (dF (or_F h).2)) g
       refine ax_q (q_mov rfl) ?_
       refine ax_q (q_ibin rfl rfl rfl) ?_
       exact ax_nil ⟨rfl, by repeat (first | exact trivial | refine ⟨rfl, ?_⟩ | refine ⟨?_, ?_⟩)⟩
      refine ax_q (q_mov rfl) ?_
      apply ax_or rfl rfl
      ·
       intro g
       have g := (fun h => And.intro ((fun h => And.intro ((fun h => And.intro ((fun h => And.intro ((fun h => And.intro ((fun h => And.intro (dF (or_F h).1) (dF (or_F h).2)) (or_F h).1) (dF (or_F h).2)) (or_F h).1) (dF (or_F h).2)) (or_F h).1) (dF (or_F h).2)) (or_F h).1) (dF (or_F h).2)) (or_F h).1) (dF (or_F h).2)) g
       refine ax_q (q_mov rfl) ?_
       refine ax_q (q_ibin rfl rfl rfl) ?_
       exact ax_nil ⟨rfl, by repeat (first | exact trivial | refine ⟨rfl, ?_⟩ | refine ⟨?_, ?_⟩)⟩
      refine ax_q (q_mov rfl) ?_
      apply ax_or rfl rfl
      ·
       intro g
       have g := (fun h => And.intro ((fun h => And.intro ((fun h => And.intro ((fun h => And.intro ((fun h => And.intro ((fun h => And.intro ((fun h => And.intro (dF (or_F h).1) (dF (or_F h).2)) (or_F h).1) (dF (or_F h).2)) (or_F h).1) (dF (or_F h).2)) (or_F h).1) (dF (or_F h).2)) (or_F h).1) (dF (or_F h).2)) (or_F h).1) (dF (or_F h).2)) (or_F h).1) (dF (or_F h).2)) g
       refine ax_q (q_mov rfl) ?_
       refine ax_q (q_ibin rfl rfl rfl) ?_
       exact ax_nil ⟨rfl, by repeat (first | exact trivial | refine ⟨rfl, ?_⟩ | refine ⟨?_, ?_⟩)⟩
      refine ax_q (q_mov rfl) ?_
      refine ax_nil ?_
      refine cx_keep rfl rfl ?_
      refine cx_cond rfl (fun h9 => ?_) (fun h9 => ?_)
      ·
       rw [sgB_eq] at h9
       have hk : i + tokF (t.drop i) = i + 1 := by rw [hu, tok_5 h2 h4 hq h9]
       refine cx_ops ?_
       refine ax_q (q_mov rfl) ?_
       refine ax_qe (r' := int ((i + 1 : Nat) : Int)) (q_ibin rfl rfl rfl) (by rw [wi (by omega) (by omega)]; rfl) ?_
       refine ax_q (q_mov rfl) ?_
       refine ax_nil ?_
       refine cx_keep rfl rfl ?_
       refine cx_seq ?_
       refine cx_ops ?_
       refine ax_q (q_mov rfl) ?_
       refine ax_q (q_mov rfl) ?_
       refine ax_q (q_mov rfl) ?_
       refine ax_q (q_mov rfl) ?_
       refine ax_qe (r' := str ((t.drop i).take (tokF (t.drop i)))) (q_slcT rfl rfl rfl (by omega) (by omega) (by omega)) (sT_mid (by omega) (by omega)) ?_
       refine ax_e (e_bslice rfl (by decide) rfl rfl) ?_
       refine ax_e (e_appn (n' := (out ++ [(t.drop i).take (tokF (t.drop i))]).length) (rs' := (out ++ [(t.drop i).take (tokF (t.drop i))]).map strRow) rfl rfl (by simp) rfl (src_osl rfl (by simp)) (.inl (by decide)) (hbnd (by omega) (by simp) (by decide)) (by simp) (app1 rfl)) ?_
       have hoa : (out ++ [(t.drop i).take (tokF (t.drop i))]).length = out.length + 1 := by simp
       refine ax_q (q_mov rfl) ?_
       refine ax_nil ?_
       refine cx_keep rfl rfl ?_
       refine cx_seq ?_
       refine cx_ops ?_
       refine ax_q (q_mov rfl) ?_
       first | refine ax_q (q_lenS_map rfl) ?_ | refine ax_q (q_lenS_osl rfl) ?_ | refine ax_q (q_lenS_zs rfl) ?_ | refine ax_q (q_lenS rfl) ?_
       refine ax_q (q_ibin rfl rfl rfl) ?_
       refine ax_nil ?_
       refine cx_keep rfl rfl ?_
       refine cx_cond rfl (fun h10 => ?_) (fun h10 => ?_)
       ·
        have h10 := dT h10
        exfalso; omega
       ·
        have h10 := dF h10
        refine cx_skip ?_
        exact ⟨_, (i + 1, out ++ [(t.drop i).take (tokF (t.drop i))]), by simp only; omega, ⟨rfl, by simp only; omega, g, rest', by simp only; rw [← hk, ← List.drop_drop]; exact hr', by simp only; rw [← hts, hrest, List.append_assoc]; rfl⟩, by repeat (first | exact trivial | refine ⟨rfl, ?_⟩ | refine ⟨?_, ?_⟩)⟩
      ·
       skip
       rw [sgB_eq] at h9
       exact absurd (by rw [hu]; exact tok_6 h2 h4 hq h9) hk0
 ·
  have h0 := dF h0
  obtain ⟨g, rfl⟩ := lexF_pos hf
  rw [List.drop_of_length_le (by omega)] at hf
  obtain rfl := lexF_nil hf
  rw [List.append_nil] at hts
  subst hts
  refine cx_exit rfl ?_
  refine cx_keep rfl rfl ?_
  refine cx_seq ?_
  refine cx_ops ?_
  refine ax_q (q_mov rfl) ?_
  refine ax_q (q_mov rfl) ?_
  refine ax_q (q_mov rfl) ?_
  refine ax_nil ?_
  refine cx_keep rfl rfl ?_
  refine cx_ret (retN (fun _ => 0) [8] rfl rfl rfl rfl rfl ?_)
  exact ⟨rfl, rfl⟩


/- loop.example/g00332/spec.ValueOK -/
def k_c_sValueOK : XCode :=
 .seq (.ops [.op (some 1) (.box (.t 0)),
   .op (some 2) (.mov (.k (.bool false)))])
 (.keep [1] (.seq (.seq (.ops [.op (some 4) (.fadr (.t 1) 0),
   .op (some 5) (.load1 (.t 4))])
  (.keep [1, 5] (.block 0 (.seq (.ops [.op (some 7) (.bin .eql (.t 5) (.k (.int .i64 0))),
    .op (some 6) (.mov (.t 7))])
  (.keep [1, 5, 6] (.cond (.t 6)
   (.seq (.ops [.op (some 8) (.fadr (.t 1) 1),
     .op (some 9) (.load1 (.t 8)),
     .op (some 10) (.bin .eql (.t 9) (.k (.int .i64 0))),
     .op (some 11) (.mov (.t 10)),
     .andor 15 true 3 11 [.op (some 12) (.fadr (.t 1) 2), .op (some 13) (.load1 (.t 12)), .op (some 14) (.bin .eql (.t 13) (.k (.str [])))] (.t 14),
     .op (some 2) (.mov (.t 15))])
   (.keep [2] (.ret)))
   (.seq (.ops [.op (some 17) (.bin .eql (.t 5) (.k (.int .i64 1))),
     .op (some 16) (.mov (.t 17))])
   (.keep [1, 5, 16] (.cond (.t 16)
    (.seq (.ops [.op (some 18) (.fadr (.t 1) 1),
      .op (some 19) (.load1 (.t 18)),
      .call (some 20) 50 [.t 19, .k (.int .i64 (-1000000000)), .k (.int .i64 1000000000)],
      .op (some 21) (.mov (.t 20)),
      .andor 25 true 3 21 [.op (some 22) (.fadr (.t 1) 2), .op (some 23) (.load1 (.t 22)), .op (some 24) (.bin .eql (.t 23) (.k (.str [])))] (.t 24),
      .op (some 2) (.mov (.t 25))])
    (.keep [2] (.ret)))
    (.seq (.ops [.op (some 27) (.bin .eql (.t 5) (.k (.int .i64 2))),
      .op (some 26) (.mov (.t 27))])
    (.keep [1, 26] (.cond (.t 26)
     (.seq (.seq (.ops [.op (some 28) (.fadr (.t 1) 1),
       .op (some 29) (.load1 (.t 28)),
       .op (some 30) (.bin .neq (.t 29) (.k (.int .i64 0))),
       .op (some 31) (.mov (.t 30)),
       .andor 36 false 3 31 [.op (some 32) (.fadr (.t 1) 2), .op (some 33) (.load1 (.t 32)), .op (some 34) (.lenT (.t 33)), .op (some 35) (.bin .gtr (.t 34) (.k (.int .i64 10)))] (.t 35)])
      (.keep [1, 36] (.cond (.t 36)
      (.seq (.ops [.op (some 2) (.mov (.k (.bool false)))])
       (.keep [2] (.ret)))
      (.skip))))
     (.keep [1] (.seq (.seq (.ops [.op (some 3) (.mov (.k (.int .i64 0)))])
      (.keep [1, 3] (.block 1 (.loop (.seq (.seq (.ops [.op (some 37) (.mov (.t 3)),
         .op (some 38) (.fadr (.t 1) 2),
         .op (some 39) (.load1 (.t 38)),
         .op (some 40) (.lenT (.t 39)),
         .op (some 41) (.bin .lss (.t 37) (.t 40))])
       (.keep [1, 3, 41] (.cond (.t 41)
        (.skip)
        (.exit 1))))
       (.keep [1, 3] (.seq (.block 2 (.seq (.ops [.op (some 44) (.fadr (.t 1) 2),
         .op (some 45) (.load1 (.t 44)),
         .op (some 46) (.mov (.t 3)),
         .op (some 47) (.idxS (.t 45) (.t 46)),
         .op (some 48) (.conv .i64 (.t 47)),
         .call (some 49) 50 [.t 48, .k (.int .i64 97), .k (.int .i64 122)],
         .op (some 50) (.not (.t 49))])
        (.keep [1, 3, 50] (.cond (.t 50)
        (.seq (.ops [.op (some 2) (.mov (.k (.bool false)))])
         (.keep [2] (.ret)))
        (.skip)))))
       (.keep [1, 3] (.ops [.op (some 42) (.mov (.t 3)),
        .op (some 43) (.bin .add (.t 42) (.k (.int .i64 1))),
        .op (some 3) (.mov (.t 43))])))))))))
     (.keep [] (.seq (.ops [.op (some 2) (.mov (.k (.bool true)))])
     (.keep [2] (.ret)))))))
     (.skip)))))))))))))
 (.keep [] (.seq (.ops [.op (some 2) (.mov (.k (.bool false)))])
 (.keep [2] (.ret))))))
theorem k_c_sValueOK_fits : fitsF Tryz.prog 86 ⟨51, k_c_sValueOK, [.t 2]⟩ = true := by kernel_rfl
theorem c_sValueOK {v : GValue} (hv : v.T.length ≤ 1048576) : Con Tryz.prog noMv 86 [v.av] [] (fun r h => r = bool (valueOK v) ∧ h = []) := by
 refine con_of2 k_c_sValueOK_fits rfl fun C hP hmv => ?_
 unfold k_c_sValueOK
 refine cx_seq ?_
 refine cx_ops ?_
 refine ax_e (e_box rfl rfl (by decide) rfl rfl rfl) ?_
 refine ax_q (q_mov rfl) ?_
 refine ax_nil ?_
 refine cx_keep rfl rfl ?_
 refine cx_seq ?_
 refine cx_seq ?_
 refine cx_ops ?_
 refine ax_q (q_fadr_ptr rfl) ?_
 refine ax_q (q_load1_ptr rfl rfl rfl) ?_
 refine ax_nil ?_
 refine cx_keep rfl rfl ?_
 refine cx_block ?_
 refine cx_seq ?_
 refine cx_ops ?_
 refine ax_q (q_ibin rfl rfl rfl) ?_
 refine ax_q (q_mov rfl) ?_
 refine ax_nil ?_
 refine cx_keep rfl rfl ?_
 refine cx_cond rfl (fun h0 => ?_) (fun h0 => ?_)
 ·
  have h0 := dT h0
  refine cx_seq ?_
  refine cx_ops ?_
  refine ax_q (q_fadr_ptr rfl) ?_
  refine ax_q (q_load1_ptr rfl rfl rfl) ?_
  refine ax_q (q_ibin rfl rfl rfl) ?_
  refine ax_q (q_mov rfl) ?_
  apply ax_and rfl rfl
  ·
   intro g
   have g := dT g
   refine ax_q (q_fadr_ptr rfl) ?_
   refine ax_q (q_load1_ptr rfl rfl rfl) ?_
   refine ax_q (q_sbin rfl rfl rfl) ?_
   exact ax_nil ⟨rfl, by repeat (first | exact trivial | refine ⟨rfl, ?_⟩ | refine ⟨?_, ?_⟩)⟩
  refine ax_q (q_mov rfl) ?_
  refine ax_nil ?_
  refine cx_keep rfl rfl ?_
  refine cx_ret (ret0 rfl rfl ?_)
  exact ⟨by rw [valueOK_0 h0] <;> rfl, rfl⟩
 ·
  have h0 := dF h0
  refine cx_seq ?_
  refine cx_ops ?_
  refine ax_q (q_ibin rfl rfl rfl) ?_
  refine ax_q (q_mov rfl) ?_
  refine ax_nil ?_
  refine cx_keep rfl rfl ?_
  refine cx_cond rfl (fun h1 => ?_) (fun h1 => ?_)
  ·
   have h1 := dT h1
   refine cx_seq ?_
   refine cx_ops ?_
   refine ax_q (q_fadr_ptr rfl) ?_
   refine ax_q (q_load1_ptr rfl rfl rfl) ?_
   first | refine ax_call rfl (vc_pure0 (c_l01In  ) hP rfl rfl ?_) | refine ax_call rfl (vc_lend0 (c_l01In  ) hP (by repeat (first | exact lal_id _ rfl | exact LAL.nil | refine LAL.cons ?_ ?_ | exact la_id _ rfl | exact LA.lend (lend_whole rfl (by first | (simp; done) | (rw [List.length_map]; rfl))) | refine LA.agg ?_ | refine LA.fn ?_ | refine LA.lend ?_ | exact Lend.d _ | exact Lend.zs _ | exact lend_whole rfl (by first | (simp; done) | (rw [List.length_map]; rfl)) | refine Lend.ptr rfl ?_ | refine Lend.fn ?_ | exact LendL.nil | refine LendL.cons ?_ ?_)) rfl rfl ?_)
   refine ax_q (q_mov rfl) ?_
   apply ax_and rfl rfl
   ·
    intro g
    refine ax_q (q_fadr_ptr rfl) ?_
    refine ax_q (q_load1_ptr rfl rfl rfl) ?_
    refine ax_q (q_sbin rfl rfl rfl) ?_
    exact ax_nil ⟨rfl, by repeat (first | exact trivial | refine ⟨rfl, ?_⟩ | refine ⟨?_, ?_⟩)⟩
   refine ax_q (q_mov rfl) ?_
   refine ax_nil ?_
   refine cx_keep rfl rfl ?_
   refine cx_ret (ret0 rfl rfl ?_)
   exact ⟨by rw [valueOK_1 h1] <;> rfl, rfl⟩
  ·
   have h1 := dF h1
   refine cx_seq ?_
   refine cx_ops ?_
   refine ax_q (q_ibin rfl rfl rfl) ?_
   refine ax_q (q_mov rfl) ?_
   refine ax_nil ?_
   refine cx_keep rfl rfl ?_
   refine cx_cond rfl (fun h2 => ?_) (fun h2 => ?_)
   ·
    have h2 := dT h2
    refine cx_seq ?_
    refine cx_seq ?_
    refine cx_ops ?_
    refine ax_q (q_fadr_ptr rfl) ?_
    refine ax_q (q_load1_ptr rfl rfl rfl) ?_
    refine ax_q (q_ibin rfl rfl rfl) ?_
    refine ax_q (q_mov rfl) ?_
    apply ax_or rfl rfl
    ·
     intro g
     have g := nF g
     refine ax_q (q_fadr_ptr rfl) ?_
     refine ax_q (q_load1_ptr rfl rfl rfl) ?_
     refine ax_q (q_lenT rfl) ?_
     refine ax_q (q_ibin rfl rfl rfl) ?_
     exact ax_nil ⟨rfl, by repeat (first | exact trivial | refine ⟨rfl, ?_⟩ | refine ⟨?_, ?_⟩)⟩
    refine ax_nil ?_
    refine cx_keep rfl rfl ?_
    refine cx_cond rfl (fun h3 => ?_) (fun h3 => ?_)
    ·
     have h3 := (fun h => (or_T h).imp nT dT) h3
     refine cx_seq ?_
     refine cx_ops ?_
     refine ax_q (q_mov rfl) ?_
     refine ax_nil ?_
     refine cx_keep rfl rfl ?_
     refine cx_ret (ret0 rfl rfl ?_)
     have e : valueOK v = false := by
      rw [valueOK_2 h0 h1]
      rcases h3 with h | h
      ·
       simp [h]
      ·
       unfold isWord; rw [decide_eq_false (show ¬ ((v.T.length : Int) ≤ 10) from by omega)]; simp
     exact ⟨by rw [e] <;> rfl, rfl⟩
    ·
     have h3 := (fun h => And.intro (nF (or_F h).1) (dF (or_F h).2)) h3
     refine cx_skip ?_
     refine cx_keep rfl rfl ?_
     refine cx_seq ?_
     refine cx_seq ?_
     refine cx_ops ?_
     refine ax_q (q_mov rfl) ?_
     refine ax_nil ?_
     refine cx_keep rfl rfl ?_
     refine cx_block ?_
     refine cx_loopU (fun n k => k ≤ v.T.length ∧ n = v.T.length - k ∧ ∀ j, j < k → ∀ x, v.T[j]? = some x → badCh x = false) (fun k : Nat => [(3, int k)]) (fun _ => [(1, .box [.d (.int .i64 v.Kind), .d (.int .i64 v.N), .d (.str v.T)])]) ⟨_, 0, ⟨Nat.zero_le _, rfl, fun j hj => by omega⟩, by repeat (first | exact trivial | refine ⟨rfl, ?_⟩ | refine ⟨?_, ?_⟩)⟩ ?_
     rintro n k ⟨hk, rfl, hb⟩
     refine cx_seq ?_
     refine cx_seq ?_
     refine cx_ops ?_
     refine ax_q (q_mov rfl) ?_
     refine ax_q (q_fadr_ptr rfl) ?_
     refine ax_q (q_load1_ptr rfl rfl rfl) ?_
     refine ax_q (q_lenT rfl) ?_
     refine ax_q (q_ibin rfl rfl rfl) ?_
     refine ax_nil ?_
     refine cx_keep rfl rfl ?_
     refine cx_cond rfl (fun h4 => ?_) (fun h4 => ?_)
     ·
      have h4 := dT h4
      have h4x : k < v.T.length := by omega
      refine cx_skip ?_
      refine cx_keep rfl rfl ?_
      refine cx_seq ?_
      refine cx_block ?_
      refine cx_seq ?_
      refine cx_ops ?_
      refine ax_q (q_fadr_ptr rfl) ?_
      refine ax_q (q_load1_ptr rfl rfl rfl) ?_
      refine ax_q (q_mov rfl) ?_
      refine ax_q (q_idxN rfl rfl (by first | assumption | omega)) ?_
      first | refine ax_q (q_convB rfl) ?_ | refine ax_q (q_convI rfl (by omega)) ?_ | refine ax_q (q_convU8 rfl) ?_ | refine ax_q (q_conv rfl) ?_
      first | refine ax_call rfl (vc_pure0 (c_l01In  ) hP rfl rfl ?_) | refine ax_call rfl (vc_lend0 (c_l01In  ) hP (by repeat (first | exact lal_id _ rfl | exact LAL.nil | refine LAL.cons ?_ ?_ | exact la_id _ rfl | exact LA.lend (lend_whole rfl (by first | (simp; done) | (rw [List.length_map]; rfl))) | refine LA.agg ?_ | refine LA.fn ?_ | refine LA.lend ?_ | exact Lend.d _ | exact Lend.zs _ | exact lend_whole rfl (by first | (simp; done) | (rw [List.length_map]; rfl)) | refine Lend.ptr rfl ?_ | refine Lend.fn ?_ | exact LendL.nil | refine LendL.cons ?_ ?_)) rfl rfl ?_)
      refine ax_q (q_not rfl) ?_
      refine ax_nil ?_
      refine cx_keep rfl rfl ?_
      refine cx_cond rfl (fun h5 => ?_) (fun h5 => ?_)
      ·
       have h5 : badCh v.T[k] = true := h5
       refine cx_seq ?_
       refine cx_ops ?_
       refine ax_q (q_mov rfl) ?_
       refine ax_nil ?_
       refine cx_keep rfl rfl ?_
       refine cx_ret (ret0 rfl rfl ?_)
       have e : valueOK v = false := by
        rw [valueOK_2 h0 h1]; unfold isWord; rw [any_hit h4x h5]; simp
       exact ⟨by rw [e]; rfl, rfl⟩
      ·
       have h5 : badCh v.T[k] = false := h5
       refine cx_skip ?_
       refine cx_keep rfl rfl ?_
       refine cx_ops ?_
       refine ax_q (q_mov rfl) ?_
       refine ax_qe (r' := int ((k + 1 : Nat) : Int)) (q_ibin rfl rfl rfl) (by rw [wi (by omega) (by omega)]; rfl) ?_
       refine ax_q (q_mov rfl) ?_
       refine ax_nil ?_
       exact ⟨_, k + 1, by omega, ⟨by omega, rfl, before_step h4x hb h5⟩, by repeat (first | exact trivial | refine ⟨rfl, ?_⟩ | refine ⟨?_, ?_⟩)⟩
     ·
      have h4 := dF h4
      have h4x : k = v.T.length := by omega
      refine cx_exit rfl ?_
      refine cx_keep rfl rfl ?_
      refine cx_seq ?_
      refine cx_ops ?_
      refine ax_q (q_mov rfl) ?_
      refine ax_nil ?_
      refine cx_keep rfl rfl ?_
      refine cx_ret (ret0 rfl rfl ?_)
      exact ⟨by rw [valueOK_2 h0 h1]; unfold isWord; rw [any_all (fun i hi => hb i (by omega)), decide_eq_true h2, decide_eq_true (show v.N = 0 from by omega), decide_eq_true (show (v.T.length : Int) ≤ 10 from by omega)] <;> rfl, rfl⟩
   ·
    have h2 := dF h2
    refine cx_skip ?_
    refine cx_keep rfl rfl ?_
    refine cx_seq ?_
    refine cx_ops ?_
    refine ax_q (q_mov rfl) ?_
    refine ax_nil ?_
    refine cx_keep rfl rfl ?_
    refine cx_ret (ret0 rfl rfl ?_)
    exact ⟨by rw [valueOK_2 h0 h1, decide_eq_false h2] <;> rfl, rfl⟩


/- loop.example/g00332/spec.l10Walk -/
def k_c_l10Walk : XCode :=
 .seq (.ops [.op (some 2) (.box (.t 0)),
   .op (some 4) (.mov (.k (.int .i64 0))),
   .op (some 5) (.mov (.k (.int .i64 0))),
   .op (some 6) (.mov (.k (.bool false)))])
 (.keep [1, 2] (.seq (.seq (.ops [.op (some 17) (.mov (.t 1)),
   .op (some 18) (.bin .lss (.t 17) (.k (.int .i64 0)))])
  (.keep [1, 2, 18] (.cond (.t 18)
  (.seq (.ops [.op (some 4) (.mov (.k (.int .i64 0))),
    .op (some 5) (.mov (.k (.int .i64 0))),
    .op (some 6) (.mov (.k (.bool false)))])
   (.keep [4, 5, 6] (.ret)))
  (.skip))))
 (.keep [1, 2] (.seq (.ops [.op (some 19) (.fadr (.t 2) 0),
   .op (some 20) (.load1 (.t 19)),
   .op (some 21) (.mov (.t 1)),
   .op (some 22) (.iadr 7 (.t 20) (.t 21)),
   .op (some 23) (.loadN 7 (.t 22)),
   .op (some 7) (.alloc [.int .i64 0, .int .i64 0, .int .i64 0, .int .i64 0, .int .i64 0, .int .i64 0, .str []]),
   .op none (.store 7 (.t 7) (.t 23))])
 (.keep [1, 2, 7] (.seq (.block 0 (.seq (.ops [.op (some 25) (.fadr (.t 7) 0),
    .op (some 26) (.load1 (.t 25)),
    .op (some 27) (.bin .eql (.t 26) (.k (.int .i64 1))),
    .op (some 24) (.mov (.t 27))])
  (.keep [1, 2, 7, 24] (.cond (.t 24)
   (.seq (.ops [.op (some 28) (.mov (.t 1)),
     .op (some 29) (.fadr (.t 7) 1),
     .op (some 30) (.load1 (.t 29)),
     .op (some 31) (.bin .eql (.t 30) (.k (.int .i64 0))),
     .op (some 32) (.mov (.t 31)),
     .andor 36 true 4 32 [.op (some 33) (.fadr (.t 7) 2), .op (some 34) (.load1 (.t 33)), .op (some 35) (.bin .eql (.t 34) (.k (.int .i64 0)))] (.t 35),
     .op (some 37) (.mov (.t 36)),
     .andor 41 true 9 37 [.op (some 38) (.fadr (.t 7) 3), .op (some 39) (.load1 (.t 38)), .op (some 40) (.bin .eql (.t 39) (.k (.int .i64 0)))] (.t 40),
     .op (some 42) (.mov (.t 41)),
     .andor 46 true 14 42 [.op (some 43) (.fadr (.t 7) 4), .op (some 44) (.loadN 3 (.t 43)), .call (some 45) 86 [.t 44]] (.t 45),
     .op (some 4) (.mov (.t 28)),
     .op (some 5) (.mov (.k (.int .i64 1))),
     .op (some 6) (.mov (.t 46))])
   (.keep [4, 5, 6] (.ret)))
   (.seq (.ops [.op (some 48) (.fadr (.t 7) 0),
     .op (some 49) (.load1 (.t 48)),
     .op (some 50) (.bin .eql (.t 49) (.k (.int .i64 2))),
     .op (some 47) (.mov (.t 50))])
   (.keep [1, 2, 7, 47] (.cond (.t 47)
    (.seq (.draw [.op (some 51) (.mov (.t 1)),
      .op (some 52) (.fadr (.t 7) 1),
      .op (some 53) (.load1 (.t 52)),
      .op (some 54) (.bin .eql (.t 53) (.k (.int .i64 0))),
      .op (some 55) (.mov (.t 54)),
      .andor 59 true 4 55 [.op (some 56) (.fadr (.t 7) 2), .op (some 57) (.load1 (.t 56)), .op (some 58) (.bin .eql (.t 57) (.k (.int .i64 0)))] (.t 58),
      .op (some 60) (.mov (.t 59)),
      .andor 64 true 9 60 [.op (some 61) (.fadr (.t 7) 3), .op (some 62) (.load1 (.t 61)), .call (some 63) 50 [.t 62, .k (.int .i64 0), .k (.int .i64 2)]] (.t 63),
      .op (some 65) (.mov (.t 64)),
      .andor 70 true 14 65 [.op (some 66) (.fadr (.t 7) 4), .op (some 67) (.loadN 3 (.t 66)), .op (some 68) (.build [.int .i64 0, .int .i64 0, .str []] []), .op (some 69) (.eqs false [0, 0, 2] (.t 67) (.t 68))] (.t 69),
      .op (some 4) (.mov (.t 51)),
      .op (some 5) (.mov (.k (.int .i64 1))),
      .op (some 6) (.mov (.t 70))])
    (.keep [4, 5, 6] (.ret)))
    (.seq (.ops [.op (some 72) (.fadr (.t 7) 0),
      .op (some 73) (.load1 (.t 72)),
      .call (some 74) 50 [.t 73, .k (.int .i64 3), .k (.int .i64 5)],
      .op (some 71) (.mov (.t 74))])
    (.keep [1, 2, 7, 71] (.cond (.t 71)
     (.seq (.ops [.op (some 76) (.loadN 1 (.t 2)),
       .op (some 77) (.mov (.t 1)),
       .op (some 78) (.bin .sub (.t 77) (.k (.int .i64 1))),
       .call (some 79) 51 [.t 76, .t 78],
       .op (some 75) (.mov (.t 79)),
       .op (some 80) (.ext (.t 75) 0),
       .op (some 81) (.ext (.t 75) 1),
       .op (some 82) (.ext (.t 75) 2),
       .op (some 8) (.mov (.t 80)),
       .op (some 9) (.mov (.t 81)),
       .op (some 10) (.mov (.t 82))])
     (.keep [1, 7, 8, 9, 10] (.seq (.draw [.op (some 83) (.mov (.t 8)),
       .op (some 84) (.mov (.t 9)),
       .op (some 85) (.bin .add (.t 84) (.k (.int .i64 1))),
       .op (some 86) (.mov (.t 10)),
       .op (some 87) (.mov (.t 86)),
       .andor 93 true 4 87 [.op (some 88) (.fadr (.t 7) 1), .op (some 89) (.load1 (.t 88)), .op (some 90) (.mov (.t 1)), .op (some 91) (.bin .sub (.t 90) (.k (.int .i64 1))), .op (some 92) (.bin .eql (.t 89) (.t 91))] (.t 92),
       .op (some 94) (.mov (.t 93)),
       .andor 98 true 11 94 [.op (some 95) (.fadr (.t 7) 2), .op (some 96) (.load1 (.t 95)), .op (some 97) (.bin .eql (.t 96) (.k (.int .i64 0)))] (.t 97),
       .op (some 99) (.mov (.t 98)),
       .andor 103 true 16 99 [.op (some 100) (.fadr (.t 7) 3), .op (some 101) (.load1 (.t 100)), .op (some 102) (.bin .eql (.t 101) (.k (.int .i64 0)))] (.t 102),
       .op (some 104) (.mov (.t 103)),
       .andor 109 true 21 104 [.op (some 105) (.fadr (.t 7) 4), .op (some 106) (.loadN 3 (.t 105)), .op (some 107) (.build [.int .i64 0, .int .i64 0, .str []] []), .op (some 108) (.eqs false [0, 0, 2] (.t 106) (.t 107))] (.t 108),
       .op (some 4) (.mov (.t 83)),
       .op (some 5) (.mov (.t 85)),
       .op (some 6) (.mov (.t 109))])
     (.keep [4, 5, 6] (.ret)))))
     (.seq (.ops [.op (some 111) (.fadr (.t 7) 0),
       .op (some 112) (.load1 (.t 111)),
       .call (some 113) 50 [.t 112, .k (.int .i64 6), .k (.int .i64 13)],
       .op (some 110) (.mov (.t 113))])
     (.keep [1, 2, 7, 110] (.cond (.t 110)
      (.seq (.ops [.op (some 115) (.loadN 1 (.t 2)),
        .op (some 116) (.mov (.t 1)),
        .op (some 117) (.bin .sub (.t 116) (.k (.int .i64 1))),
        .call (some 118) 51 [.t 115, .t 117],
        .op (some 114) (.mov (.t 118)),
        .op (some 119) (.ext (.t 114) 0),
        .op (some 120) (.ext (.t 114) 1),
        .op (some 121) (.ext (.t 114) 2),
        .op (some 11) (.mov (.t 119)),
        .op (some 12) (.mov (.t 120)),
        .op (some 13) (.mov (.t 121))])
      (.keep [1, 2, 7, 11, 12, 13] (.seq (.seq (.ops [.op (some 122) (.mov (.t 13)),
        .op (some 123) (.not (.t 122))])
       (.keep [1, 2, 7, 11, 12, 123] (.cond (.t 123)
       (.seq (.ops [.op (some 4) (.mov (.k (.int .i64 0))),
         .op (some 5) (.mov (.k (.int .i64 0))),
         .op (some 6) (.mov (.k (.bool false)))])
        (.keep [4, 5, 6] (.ret)))
       (.skip))))
      (.keep [1, 2, 7, 11, 12] (.seq (.ops [.op (some 125) (.loadN 1 (.t 2)),
        .op (some 126) (.mov (.t 11)),
        .op (some 127) (.bin .sub (.t 126) (.k (.int .i64 1))),
        .call (some 128) 51 [.t 125, .t 127],
        .op (some 124) (.mov (.t 128)),
        .op (some 129) (.ext (.t 124) 0),
        .op (some 130) (.ext (.t 124) 1),
        .op (some 131) (.ext (.t 124) 2),
        .op (some 14) (.mov (.t 129)),
        .op (some 15) (.mov (.t 130)),
        .op (some 16) (.mov (.t 131))])
      (.keep [1, 7, 11, 12, 14, 15, 16] (.seq (.draw [.op (some 132) (.mov (.t 14)),
        .op (some 133) (.mov (.t 15)),
        .op (some 134) (.mov (.t 12)),
        .op (some 135) (.mx true (.t 133) (.t 134)),
        .op (some 136) (.bin .add (.t 135) (.k (.int .i64 1))),
        .op (some 137) (.mov (.t 16)),
        .op (some 138) (.mov (.t 137)),
        .andor 144 true 6 138 [.op (some 139) (.fadr (.t 7) 1), .op (some 140) (.load1 (.t 139)), .op (some 141) (.mov (.t 11)), .op (some 142) (.bin .sub (.t 141) (.k (.int .i64 1))), .op (some 143) (.bin .eql (.t 140) (.t 142))] (.t 143),
        .op (some 145) (.mov (.t 144)),
        .andor 151 true 13 145 [.op (some 146) (.fadr (.t 7) 2), .op (some 147) (.load1 (.t 146)), .op (some 148) (.mov (.t 1)), .op (some 149) (.bin .sub (.t 148) (.k (.int .i64 1))), .op (some 150) (.bin .eql (.t 147) (.t 149))] (.t 150),
        .op (some 152) (.mov (.t 151)),
        .andor 156 true 20 152 [.op (some 153) (.fadr (.t 7) 3), .op (some 154) (.load1 (.t 153)), .op (some 155) (.bin .eql (.t 154) (.k (.int .i64 0)))] (.t 155),
        .op (some 157) (.mov (.t 156)),
        .andor 162 true 25 157 [.op (some 158) (.fadr (.t 7) 4), .op (some 159) (.loadN 3 (.t 158)), .op (some 160) (.build [.int .i64 0, .int .i64 0, .str []] []), .op (some 161) (.eqs false [0, 0, 2] (.t 159) (.t 160))] (.t 161),
        .op (some 4) (.mov (.t 132)),
        .op (some 5) (.mov (.t 136)),
        .op (some 6) (.mov (.t 162))])
      (.keep [4, 5, 6] (.ret)))))))))
      (.skip))))))))))))))
 (.keep [] (.seq (.ops [.op (some 4) (.mov (.k (.int .i64 0))),
   .op (some 5) (.mov (.k (.int .i64 0))),
   .op (some 6) (.mov (.k (.bool false)))])
 (.keep [4, 5, 6] (.ret))))))))))
theorem k_c_l10Walk_fits : fitsF Tryz.prog 51 ⟨163, k_c_l10Walk, [.t 4, .t 5, .t 6]⟩ = true := by kernel_rfl
theorem c_l10Walk {e : GExpr} {f : Nat} {i : Int} (hn : -1 ≤ i) (hi : i + 1 < f) (hf : f ≤ 1000) (hl : i < e.Nodes.length) (hw : e.Nodes.length ≤ 1048576) (hv : ∀ x ∈ e.Nodes, x.V.T.length ≤ 1048576) : Con Tryz.prog noMv 51 [e.av, int i] [] (fun r h => r = .tup [int (walkF e.Nodes f i).1, int (walkF e.Nodes f i).2.1, bool (walkF e.Nodes f i).2.2] ∧ h = []) := by
 induction f generalizing i with
 | zero => exact absurd hi (by omega)
 | succ f ih =>
  refine con_of2 k_c_l10Walk_fits rfl fun C hP hmv => ?_
  unfold k_c_l10Walk
  refine cx_seq ?_
  refine cx_ops ?_
  refine ax_e (e_box rfl rfl (by decide) rfl rfl rfl) ?_
  refine ax_q (q_mov rfl) ?_
  refine ax_q (q_mov rfl) ?_
  refine ax_q (q_mov rfl) ?_
  refine ax_nil ?_
  refine cx_keep rfl rfl ?_
  refine cx_seq ?_
  refine cx_seq ?_
  refine cx_ops ?_
  refine ax_q (q_mov rfl) ?_
  refine ax_q (q_ibin rfl rfl rfl) ?_
  refine ax_nil ?_
  refine cx_keep rfl rfl ?_
  refine cx_cond rfl (fun h0 => ?_) (fun h0 => ?_)
  ·
   have h0 := dT h0
   refine cx_seq ?_
   refine cx_ops ?_
   refine ax_q (q_mov rfl) ?_
   refine ax_q (q_mov rfl) ?_
   refine ax_q (q_mov rfl) ?_
   refine ax_nil ?_
   refine cx_keep rfl rfl ?_
   refine cx_ret (ret0 rfl rfl ?_)
   exact ⟨by rw [walkF_neg h0]; rfl, rfl⟩
  ·
   have h0 := dF h0
   obtain ⟨j, rfl⟩ : ∃ j : Nat, i = (j : Int) := ⟨i.toNat, by omega⟩
   have hj : j < e.Nodes.length := by omega
   have hvj := hv _ (List.getElem_mem hj)
   have wb := @walkF_b e.Nodes f ((j : Int) - 1)
   have wc := @walkF_b e.Nodes f ((walkF e.Nodes f ((j : Int) - 1)).1 - 1)
   have hm := mxI_b (n := f) (a := (walkF e.Nodes f ((walkF e.Nodes f ((j : Int) - 1)).1 - 1)).2.1) (b := (walkF e.Nodes f ((j : Int) - 1)).2.1) ⟨wc.2.2.1, wc.2.2.2⟩ ⟨wb.2.2.1, wb.2.2.2⟩
   refine cx_skip ?_
   refine cx_keep rfl rfl ?_
   refine cx_seq ?_
   refine cx_ops ?_
   refine ax_q (q_fadr_ptr rfl) ?_
   refine ax_q (q_load1_ptr rfl rfl rfl) ?_
   refine ax_q (q_mov rfl) ?_
   refine ax_q (q_ix rfl rfl (mapAt hj)) ?_
   first | refine ax_q (q_ldN rfl rfl rfl) ?_ | refine ax_q (q_loadN_ip rfl (Nat.le_refl _)) ?_ | refine ax_q (q_loadN_ip rfl (by decide)) ?_ | refine ax_q (q_loadN_rptr rfl rfl (by assumption) (by decide)) ?_ | refine ax_q (q_loadN_rptr rfl rfl (mapAt (by first | assumption | omega)) (by decide)) ?_
   refine ax_e (e_alloc (by decide) rfl rfl) ?_
   refine ax_e (e_st rfl rfl rfl rfl rfl rfl rfl) ?_
   refine ax_nil ?_
   refine cx_keep rfl rfl ?_
   refine cx_seq ?_
   refine cx_block ?_
   refine cx_seq ?_
   refine cx_ops ?_
   refine ax_q (q_fadr_ptr rfl) ?_
   refine ax_q (q_load1_ptr rfl rfl rfl) ?_
   refine ax_q (q_ibin rfl rfl rfl) ?_
   refine ax_q (q_mov rfl) ?_
   refine ax_nil ?_
   refine cx_keep rfl rfl ?_
   refine cx_cond rfl (fun h1 => ?_) (fun h1 => ?_)
   ·
    have h1 := dT h1
    refine cx_seq ?_
    refine cx_ops ?_
    refine ax_q (q_mov rfl) ?_
    refine ax_q (q_fadr_ptr rfl) ?_
    refine ax_q (q_load1_ptr rfl rfl rfl) ?_
    refine ax_q (q_ibin rfl rfl rfl) ?_
    refine ax_q (q_mov rfl) ?_
    apply ax_and rfl rfl
    ·
     intro g
     have g := dT g
     refine ax_q (q_fadr_ptr rfl) ?_
     refine ax_q (q_load1_ptr rfl rfl rfl) ?_
     refine ax_q (q_ibin rfl rfl rfl) ?_
     exact ax_nil ⟨rfl, by repeat (first | exact trivial | refine ⟨rfl, ?_⟩ | refine ⟨?_, ?_⟩)⟩
    refine ax_q (q_mov rfl) ?_
    apply ax_and rfl rfl
    ·
     intro g
     have g := (fun h => And.intro (dT (and_T h).1) (dT (and_T h).2)) g
     refine ax_q (q_fadr_ptr rfl) ?_
     refine ax_q (q_load1_ptr rfl rfl rfl) ?_
     refine ax_q (q_ibin rfl rfl rfl) ?_
     exact ax_nil ⟨rfl, by repeat (first | exact trivial | refine ⟨rfl, ?_⟩ | refine ⟨?_, ?_⟩)⟩
    refine ax_q (q_mov rfl) ?_
    apply ax_and rfl rfl
    ·
     intro g
     have g := (fun h => And.intro ((fun h => And.intro (dT (and_T h).1) (dT (and_T h).2)) (and_T h).1) (dT (and_T h).2)) g
     refine ax_q (q_fadr_ptr rfl) ?_
     refine ax_q (q_ldN rfl rfl rfl) ?_
     first | refine ax_call rfl (vc_pure0 (c_sValueOK (v := e.Nodes[j].V) ?_) hP rfl rfl ?_) | refine ax_call rfl (vc_lend0 (c_sValueOK (v := e.Nodes[j].V) ?_) hP (by repeat (first | exact lal_id _ rfl | exact LAL.nil | refine LAL.cons ?_ ?_ | exact la_id _ rfl | exact LA.lend (lend_whole rfl (by first | (simp; done) | (rw [List.length_map]; rfl))) | refine LA.agg ?_ | refine LA.fn ?_ | refine LA.lend ?_ | exact Lend.d _ | exact Lend.zs _ | exact lend_whole rfl (by first | (simp; done) | (rw [List.length_map]; rfl)) | refine Lend.ptr rfl ?_ | refine Lend.fn ?_ | exact LendL.nil | refine LendL.cons ?_ ?_)) rfl rfl ?_)
     ·
      first | assumption | omega | (simp; done) | (simp; omega)
     exact ax_nil ⟨rfl, by repeat (first | exact trivial | refine ⟨rfl, ?_⟩ | refine ⟨?_, ?_⟩)⟩
    refine ax_q (q_mov rfl) ?_
    refine ax_q (q_mov rfl) ?_
    refine ax_q (q_mov rfl) ?_
    refine ax_nil ?_
    refine cx_keep rfl rfl ?_
    refine cx_ret (ret0 rfl rfl ?_)
    exact ⟨by rw [walkF_at hj, nodeW_1 h1]; rfl, rfl⟩
   ·
    have h1 := dF h1
    refine cx_seq ?_
    refine cx_ops ?_
    refine ax_q (q_fadr_ptr rfl) ?_
    refine ax_q (q_load1_ptr rfl rfl rfl) ?_
    refine ax_q (q_ibin rfl rfl rfl) ?_
    refine ax_q (q_mov rfl) ?_
    refine ax_nil ?_
    refine cx_keep rfl rfl ?_
    refine cx_cond rfl (fun h2 => ?_) (fun h2 => ?_)
    ·
     have h2 := dT h2
     refine cx_seq ?_
     refine cx_draw ?_
     refine ax_q (q_mov rfl) ?_
     refine ax_q (q_fadr_ptr rfl) ?_
     refine ax_q (q_load1_ptr rfl rfl rfl) ?_
     refine ax_q (q_ibin rfl rfl rfl) ?_
     refine ax_q (q_mov rfl) ?_
     apply ax_and rfl rfl
     ·
      intro g
      have g := dT g
      refine ax_q (q_fadr_ptr rfl) ?_
      refine ax_q (q_load1_ptr rfl rfl rfl) ?_
      refine ax_q (q_ibin rfl rfl rfl) ?_
      exact ax_nil ⟨rfl, by repeat (first | exact trivial | refine ⟨rfl, ?_⟩ | refine ⟨?_, ?_⟩)⟩
     refine ax_q (q_mov rfl) ?_
     apply ax_and rfl rfl
     ·
      intro g
      have g := (fun h => And.intro (dT (and_T h).1) (dT (and_T h).2)) g
      refine ax_q (q_fadr_ptr rfl) ?_
      refine ax_q (q_load1_ptr rfl rfl rfl) ?_
      first | refine ax_callq rfl (c_l01In  ) hP (lal_id _ rfl) rfl ?_ | refine ax_callq rfl (c_l01In  ) hP (by repeat (first | exact lal_id _ rfl | exact LAL.nil | refine LAL.cons ?_ ?_ | exact la_id _ rfl | exact LA.lend (lend_whole rfl (by first | (simp; done) | (rw [List.length_map]; rfl))) | refine LA.agg ?_ | refine LA.fn ?_ | refine LA.lend ?_ | exact Lend.d _ | exact Lend.zs _ | exact lend_whole rfl (by first | (simp; done) | (rw [List.length_map]; rfl)) | refine Lend.ptr rfl ?_ | refine Lend.fn ?_ | exact LendL.nil | refine LendL.cons ?_ ?_)) rfl ?_
      exact ax_nil ⟨rfl, by repeat (first | exact trivial | refine ⟨rfl, ?_⟩ | refine ⟨?_, ?_⟩)⟩
     refine ax_q (q_mov rfl) ?_
     apply ax_and rfl rfl
     ·
      intro g
      have g := (fun h => And.intro ((fun h => And.intro (dT (and_T h).1) (dT (and_T h).2)) (and_T h).1) (id (and_T h).2)) g
      refine ax_q (q_fadr_ptr rfl) ?_
      refine ax_q (q_ldN rfl rfl rfl) ?_
      refine ax_q (q_build rfl) ?_
      first | refine ax_q (GValue.q_eqs rfl rfl) ?_ | refine ax_q (q_eqs rfl rfl rfl) ?_
      exact ax_nil ⟨rfl, by repeat (first | exact trivial | refine ⟨rfl, ?_⟩ | refine ⟨?_, ?_⟩)⟩
     refine ax_q (q_mov rfl) ?_
     refine ax_q (q_mov rfl) ?_
     refine ax_q (q_mov rfl) ?_
     refine ax_nil ?_
     refine cx_keep rfl rfl ?_
     refine cx_ret (ret0 rfl rfl ?_)
     exact ⟨by rw [walkF_at hj, nodeW_2 h1 h2]; rfl, rfl⟩
    ·
     have h2 := dF h2
     refine cx_seq ?_
     refine cx_ops ?_
     refine ax_q (q_fadr_ptr rfl) ?_
     refine ax_q (q_load1_ptr rfl rfl rfl) ?_
     first | refine ax_call rfl (vc_pure0 (c_l01In  ) hP rfl rfl ?_) | refine ax_call rfl (vc_lend0 (c_l01In  ) hP (by repeat (first | exact lal_id _ rfl | exact LAL.nil | refine LAL.cons ?_ ?_ | exact la_id _ rfl | exact LA.lend (lend_whole rfl (by first | (simp; done) | (rw [List.length_map]; rfl))) | refine LA.agg ?_ | refine LA.fn ?_ | refine LA.lend ?_ | exact Lend.d _ | exact Lend.zs _ | exact lend_whole rfl (by first | (simp; done) | (rw [List.length_map]; rfl)) | refine Lend.ptr rfl ?_ | refine Lend.fn ?_ | exact LendL.nil | refine LendL.cons ?_ ?_)) rfl rfl ?_)
     refine ax_q (q_mov rfl) ?_
     refine ax_nil ?_
     refine cx_keep rfl rfl ?_
     refine cx_cond rfl (fun h3 => ?_) (fun h3 => ?_)
     ·
      skip
      refine cx_seq ?_
      refine cx_ops ?_
      refine ax_q (q_ldN rfl rfl rfl) ?_
      refine ax_q (q_mov rfl) ?_
      refine ax_q (q_sub rfl rfl (by omega)) ?_
      first | refine ax_call rfl (vc_pure0 (ih (i := (j : Int) - 1) ?_ ?_ ?_ ?_) hP rfl rfl ?_) | refine ax_call rfl (vc_lend0 (ih (i := (j : Int) - 1) ?_ ?_ ?_ ?_) hP (by repeat (first | exact lal_id _ rfl | exact LAL.nil | refine LAL.cons ?_ ?_ | exact la_id _ rfl | exact LA.lend (lend_whole rfl (by first | (simp; done) | (rw [List.length_map]; rfl))) | refine LA.agg ?_ | refine LA.fn ?_ | refine LA.lend ?_ | exact Lend.d _ | exact Lend.zs _ | exact lend_whole rfl (by first | (simp; done) | (rw [List.length_map]; rfl)) | refine Lend.ptr rfl ?_ | refine Lend.fn ?_ | exact LendL.nil | refine LendL.cons ?_ ?_)) rfl rfl ?_)
      ·
       first | assumption | omega | (simp; done) | (simp; omega)
      ·
       first | assumption | omega | (simp; done) | (simp; omega)
      ·
       first | assumption | omega | (simp; done) | (simp; omega)
      ·
       first | assumption | omega | (simp; done) | (simp; omega)
      refine ax_q (q_mov rfl) ?_
      refine ax_q (q_ext rfl rfl) ?_
      refine ax_q (q_ext rfl rfl) ?_
      refine ax_q (q_ext rfl rfl) ?_
      refine ax_q (q_mov rfl) ?_
      refine ax_q (q_mov rfl) ?_
      refine ax_q (q_mov rfl) ?_
      refine ax_nil ?_
      refine cx_keep rfl rfl ?_
      refine cx_seq ?_
      refine cx_draw ?_
      refine ax_q (q_mov rfl) ?_
      refine ax_q (q_mov rfl) ?_
      refine ax_q (q_add rfl rfl (by omega)) ?_
      refine ax_q (q_mov rfl) ?_
      refine ax_q (q_mov rfl) ?_
      apply ax_and rfl rfl
      ·
       intro g
       refine ax_q (q_fadr_ptr rfl) ?_
       refine ax_q (q_load1_ptr rfl rfl rfl) ?_
       refine ax_q (q_mov rfl) ?_
       refine ax_q (q_sub rfl rfl (by omega)) ?_
       refine ax_q (q_ibin rfl rfl rfl) ?_
       exact ax_nil ⟨rfl, by repeat (first | exact trivial | refine ⟨rfl, ?_⟩ | refine ⟨?_, ?_⟩)⟩
      refine ax_q (q_mov rfl) ?_
      apply ax_and rfl rfl
      ·
       intro g
       have g := (fun h => And.intro (id (and_T h).1) (dT (and_T h).2)) g
       refine ax_q (q_fadr_ptr rfl) ?_
       refine ax_q (q_load1_ptr rfl rfl rfl) ?_
       refine ax_q (q_ibin rfl rfl rfl) ?_
       exact ax_nil ⟨rfl, by repeat (first | exact trivial | refine ⟨rfl, ?_⟩ | refine ⟨?_, ?_⟩)⟩
      refine ax_q (q_mov rfl) ?_
      apply ax_and rfl rfl
      ·
       intro g
       have g := (fun h => And.intro ((fun h => And.intro (id (and_T h).1) (dT (and_T h).2)) (and_T h).1) (dT (and_T h).2)) g
       refine ax_q (q_fadr_ptr rfl) ?_
       refine ax_q (q_load1_ptr rfl rfl rfl) ?_
       refine ax_q (q_ibin rfl rfl rfl) ?_
       exact ax_nil ⟨rfl, by repeat (first | exact trivial | refine ⟨rfl, ?_⟩ | refine ⟨?_, ?_⟩)⟩
      refine ax_q (q_mov rfl) ?_
      apply ax_and rfl rfl
      ·
       intro g
       have g := (fun h => And.intro ((fun h => And.intro ((fun h => And.intro (id (and_T h).1) (dT (and_T h).2)) (and_T h).1) (dT (and_T h).2)) (and_T h).1) (dT (and_T h).2)) g
       refine ax_q (q_fadr_ptr rfl) ?_
       refine ax_q (q_ldN rfl rfl rfl) ?_
       refine ax_q (q_build rfl) ?_
       first | refine ax_q (GValue.q_eqs rfl rfl) ?_ | refine ax_q (q_eqs rfl rfl rfl) ?_
       exact ax_nil ⟨rfl, by repeat (first | exact trivial | refine ⟨rfl, ?_⟩ | refine ⟨?_, ?_⟩)⟩
      refine ax_q (q_mov rfl) ?_
      refine ax_q (q_mov rfl) ?_
      refine ax_q (q_mov rfl) ?_
      refine ax_nil ?_
      refine cx_keep rfl rfl ?_
      refine cx_ret (ret0 rfl rfl ?_)
      exact ⟨by rw [walkF_at hj, nodeW_3 h1 h2 h3]; rfl, rfl⟩
     ·
      skip
      refine cx_seq ?_
      refine cx_ops ?_
      refine ax_q (q_fadr_ptr rfl) ?_
      refine ax_q (q_load1_ptr rfl rfl rfl) ?_
      first | refine ax_call rfl (vc_pure0 (c_l01In  ) hP rfl rfl ?_) | refine ax_call rfl (vc_lend0 (c_l01In  ) hP (by repeat (first | exact lal_id _ rfl | exact LAL.nil | refine LAL.cons ?_ ?_ | exact la_id _ rfl | exact LA.lend (lend_whole rfl (by first | (simp; done) | (rw [List.length_map]; rfl))) | refine LA.agg ?_ | refine LA.fn ?_ | refine LA.lend ?_ | exact Lend.d _ | exact Lend.zs _ | exact lend_whole rfl (by first | (simp; done) | (rw [List.length_map]; rfl)) | refine Lend.ptr rfl ?_ | refine Lend.fn ?_ | exact LendL.nil | refine LendL.cons ?_ ?_)) rfl rfl ?_)
      refine ax_q (q_mov rfl) ?_
      refine ax_nil ?_
      refine cx_keep rfl rfl ?_
      refine cx_cond rfl (fun h4 => ?_) (fun h4 => ?_)
      ·
       skip
       refine cx_seq ?_
       refine cx_ops ?_
       refine ax_q (q_ldN rfl rfl rfl) ?_
       refine ax_q (q_mov rfl) ?_
       refine ax_q (q_sub rfl rfl (by omega)) ?_
       first | refine ax_call rfl (vc_pure0 (ih (i := (j : Int) - 1) ?_ ?_ ?_ ?_) hP rfl rfl ?_) | refine ax_call rfl (vc_lend0 (ih (i := (j : Int) - 1) ?_ ?_ ?_ ?_) hP (by repeat (first | exact lal_id _ rfl | exact LAL.nil | refine LAL.cons ?_ ?_ | exact la_id _ rfl | exact LA.lend (lend_whole rfl (by first | (simp; done) | (rw [List.length_map]; rfl))) | refine LA.agg ?_ | refine LA.fn ?_ | refine LA.lend ?_ | exact Lend.d _ | exact Lend.zs _ | exact lend_whole rfl (by first | (simp; done) | (rw [List.length_map]; rfl)) | refine Lend.ptr rfl ?_ | refine Lend.fn ?_ | exact LendL.nil | refine LendL.cons ?_ ?_)) rfl rfl ?_)
       ·
        first | assumption | omega | (simp; done) | (simp; omega)
       ·
        first | assumption | omega | (simp; done) | (simp; omega)
       ·
        first | assumption | omega | (simp; done) | (simp; omega)
       ·
        first | assumption | omega | (simp; done) | (simp; omega)
       refine ax_q (q_mov rfl) ?_
       refine ax_q (q_ext rfl rfl) ?_
       refine ax_q (q_ext rfl rfl) ?_
       refine ax_q (q_ext rfl rfl) ?_
       refine ax_q (q_mov rfl) ?_
       refine ax_q (q_mov rfl) ?_
       refine ax_q (q_mov rfl) ?_
       refine ax_nil ?_
       refine cx_keep rfl rfl ?_
       refine cx_seq ?_
       refine cx_seq ?_
       refine cx_ops ?_
       refine ax_q (q_mov rfl) ?_
       refine ax_q (q_not rfl) ?_
       refine ax_nil ?_
       refine cx_keep rfl rfl ?_
       refine cx_cond rfl (fun h5 => ?_) (fun h5 => ?_)
       ·
        have h5 := bT h5
        refine cx_seq ?_
        refine cx_ops ?_
        refine ax_q (q_mov rfl) ?_
        refine ax_q (q_mov rfl) ?_
        refine ax_q (q_mov rfl) ?_
        refine ax_nil ?_
        refine cx_keep rfl rfl ?_
        refine cx_ret (ret0 rfl rfl ?_)
        exact ⟨by rw [walkF_at hj, nodeW_4 h1 h2 h3 h4 h5]; rfl, rfl⟩
       ·
        have h5 := bF h5
        refine cx_skip ?_
        refine cx_keep rfl rfl ?_
        refine cx_seq ?_
        refine cx_ops ?_
        refine ax_q (q_ldN rfl rfl rfl) ?_
        refine ax_q (q_mov rfl) ?_
        refine ax_q (q_sub rfl rfl (by omega)) ?_
        first | refine ax_call rfl (vc_pure0 (ih (i := (walkF e.Nodes f ((j : Int) - 1)).1 - 1) ?_ ?_ ?_ ?_) hP rfl rfl ?_) | refine ax_call rfl (vc_lend0 (ih (i := (walkF e.Nodes f ((j : Int) - 1)).1 - 1) ?_ ?_ ?_ ?_) hP (by repeat (first | exact lal_id _ rfl | exact LAL.nil | refine LAL.cons ?_ ?_ | exact la_id _ rfl | exact LA.lend (lend_whole rfl (by first | (simp; done) | (rw [List.length_map]; rfl))) | refine LA.agg ?_ | refine LA.fn ?_ | refine LA.lend ?_ | exact Lend.d _ | exact Lend.zs _ | exact lend_whole rfl (by first | (simp; done) | (rw [List.length_map]; rfl)) | refine Lend.ptr rfl ?_ | refine Lend.fn ?_ | exact LendL.nil | refine LendL.cons ?_ ?_)) rfl rfl ?_)
        ·
         first | assumption | omega | (simp; done) | (simp; omega)
        ·
         first | assumption | omega | (simp; done) | (simp; omega)
        ·
         first | assumption | omega | (simp; done) | (simp; omega)
        ·
         first | assumption | omega | (simp; done) | (simp; omega)
        refine ax_q (q_mov rfl) ?_
        refine ax_q (q_ext rfl rfl) ?_
        refine ax_q (q_ext rfl rfl) ?_
        refine ax_q (q_ext rfl rfl) ?_
        refine ax_q (q_mov rfl) ?_
        refine ax_q (q_mov rfl) ?_
        refine ax_q (q_mov rfl) ?_
        refine ax_nil ?_
        refine cx_keep rfl rfl ?_
        refine cx_seq ?_
        refine cx_draw ?_
        refine ax_q (q_mov rfl) ?_
        refine ax_q (q_mov rfl) ?_
        refine ax_q (q_mov rfl) ?_
        refine ax_qe (r' := int (mxI (walkF e.Nodes f ((walkF e.Nodes f ((j : Int) - 1)).1 - 1)).2.1 (walkF e.Nodes f ((j : Int) - 1)).2.1)) (q_mx rfl rfl) (rfl) ?_
        refine ax_q (q_add rfl rfl (by omega)) ?_
        refine ax_q (q_mov rfl) ?_
        refine ax_q (q_mov rfl) ?_
        apply ax_and rfl rfl
        ·
         intro g
         refine ax_q (q_fadr_ptr rfl) ?_
         refine ax_q (q_load1_ptr rfl rfl rfl) ?_
         refine ax_q (q_mov rfl) ?_
         refine ax_q (q_sub rfl rfl (by omega)) ?_
         refine ax_q (q_ibin rfl rfl rfl) ?_
         exact ax_nil ⟨rfl, by repeat (first | exact trivial | refine ⟨rfl, ?_⟩ | refine ⟨?_, ?_⟩)⟩
        refine ax_q (q_mov rfl) ?_
        apply ax_and rfl rfl
        ·
         intro g
         have g := (fun h => And.intro (id (and_T h).1) (dT (and_T h).2)) g
         refine ax_q (q_fadr_ptr rfl) ?_
         refine ax_q (q_load1_ptr rfl rfl rfl) ?_
         refine ax_q (q_mov rfl) ?_
         refine ax_q (q_sub rfl rfl (by omega)) ?_
         refine ax_q (q_ibin rfl rfl rfl) ?_
         exact ax_nil ⟨rfl, by repeat (first | exact trivial | refine ⟨rfl, ?_⟩ | refine ⟨?_, ?_⟩)⟩
        refine ax_q (q_mov rfl) ?_
        apply ax_and rfl rfl
        ·
         intro g
         have g := (fun h => And.intro ((fun h => And.intro (id (and_T h).1) (dT (and_T h).2)) (and_T h).1) (dT (and_T h).2)) g
         refine ax_q (q_fadr_ptr rfl) ?_
         refine ax_q (q_load1_ptr rfl rfl rfl) ?_
         refine ax_q (q_ibin rfl rfl rfl) ?_
         exact ax_nil ⟨rfl, by repeat (first | exact trivial | refine ⟨rfl, ?_⟩ | refine ⟨?_, ?_⟩)⟩
        refine ax_q (q_mov rfl) ?_
        apply ax_and rfl rfl
        ·
         intro g
         have g := (fun h => And.intro ((fun h => And.intro ((fun h => And.intro (id (and_T h).1) (dT (and_T h).2)) (and_T h).1) (dT (and_T h).2)) (and_T h).1) (dT (and_T h).2)) g
         refine ax_q (q_fadr_ptr rfl) ?_
         refine ax_q (q_ldN rfl rfl rfl) ?_
         refine ax_q (q_build rfl) ?_
         first | refine ax_q (GValue.q_eqs rfl rfl) ?_ | refine ax_q (q_eqs rfl rfl rfl) ?_
         exact ax_nil ⟨rfl, by repeat (first | exact trivial | refine ⟨rfl, ?_⟩ | refine ⟨?_, ?_⟩)⟩
        refine ax_q (q_mov rfl) ?_
        refine ax_q (q_mov rfl) ?_
        refine ax_q (q_mov rfl) ?_
        refine ax_nil ?_
        refine cx_keep rfl rfl ?_
        refine cx_ret (ret0 rfl rfl ?_)
        exact ⟨by rw [walkF_at hj, nodeW_5 h1 h2 h3 h4 h5]; rfl, rfl⟩
      ·
       skip
       refine cx_skip ?_
       refine cx_keep rfl rfl ?_
       refine cx_seq ?_
       refine cx_ops ?_
       refine ax_q (q_mov rfl) ?_
       refine ax_q (q_mov rfl) ?_
       refine ax_q (q_mov rfl) ?_
       refine ax_nil ?_
       refine cx_keep rfl rfl ?_
       refine cx_ret (ret0 rfl rfl ?_)
       exact ⟨by rw [walkF_at hj, nodeW_6 h1 h2 h3 h4]; rfl, rfl⟩


/- loop.example/g00332/spec.ExprOK -/
def k_c_sExprOK : XCode :=
 .seq (.ops [.op (some 1) (.box (.t 0)),
   .op (some 2) (.mov (.k (.bool false)))])
 (.keep [1] (.seq (.seq (.ops [.op (some 6) (.fadr (.t 1) 0),
   .op (some 7) (.load1 (.t 6)),
   .op (some 8) (.lenS (.t 7)),
   .call (some 9) 50 [.t 8, .k (.int .i64 1), .k (.int .i64 40)],
   .op (some 10) (.not (.t 9))])
  (.keep [1, 10] (.cond (.t 10)
  (.seq (.ops [.op (some 2) (.mov (.k (.bool false)))])
   (.keep [2] (.ret)))
  (.skip))))
 (.keep [1] (.seq (.ops [.op (some 12) (.loadN 1 (.t 1)),
   .op (some 13) (.fadr (.t 1) 0),
   .op (some 14) (.load1 (.t 13)),
   .op (some 15) (.lenS (.t 14)),
   .op (some 16) (.bin .sub (.t 15) (.k (.int .i64 1))),
   .call (some 17) 51 [.t 12, .t 16],
   .op (some 11) (.mov (.t 17)),
   .op (some 18) (.ext (.t 11) 0),
   .op (some 19) (.ext (.t 11) 1),
   .op (some 20) (.ext (.t 11) 2),
   .op (some 3) (.mov (.t 18)),
   .op (some 4) (.mov (.t 19)),
   .op (some 5) (.mov (.t 20))])
 (.keep [3, 4, 5] (.seq (.ops [.op (some 21) (.mov (.t 5)),
   .op (some 22) (.mov (.t 21)),
   .andor 25 true 1 22 [.op (some 23) (.mov (.t 3)), .op (some 24) (.bin .eql (.t 23) (.k (.int .i64 0)))] (.t 24),
   .op (some 26) (.mov (.t 25)),
   .andor 29 true 5 26 [.op (some 27) (.mov (.t 4)), .op (some 28) (.bin .leq (.t 27) (.k (.int .i64 12)))] (.t 28),
   .op (some 2) (.mov (.t 29))])
 (.keep [2] (.ret))))))))
theorem k_c_sExprOK_fits : fitsF Tryz.prog 26 ⟨30, k_c_sExprOK, [.t 2]⟩ = true := by kernel_rfl
theorem c_sExprOK {e : GExpr} (hw : e.Nodes.length ≤ 1048576) (hv : ∀ x ∈ e.Nodes, x.V.T.length ≤ 1048576) : Con Tryz.prog noMv 26 [e.av] [] (fun r h => r = bool (exprOK e) ∧ h = []) := by
 refine con_of2 k_c_sExprOK_fits rfl fun C hP hmv => ?_
 unfold k_c_sExprOK
 refine cx_seq ?_
 refine cx_ops ?_
 refine ax_e (e_box rfl rfl (by decide) rfl rfl rfl) ?_
 refine ax_q (q_mov rfl) ?_
 refine ax_nil ?_
 refine cx_keep rfl rfl ?_
 refine cx_seq ?_
 refine cx_seq ?_
 refine cx_ops ?_
 refine ax_q (q_fadr_ptr rfl) ?_
 refine ax_q (q_load1_ptr rfl rfl rfl) ?_
 first | refine ax_q (q_lenS_map rfl) ?_ | refine ax_q (q_lenS_osl rfl) ?_ | refine ax_q (q_lenS_zs rfl) ?_ | refine ax_q (q_lenS rfl) ?_
 first | refine ax_call rfl (vc_pure0 (c_l01In  ) hP rfl rfl ?_) | refine ax_call rfl (vc_lend0 (c_l01In  ) hP (by repeat (first | exact lal_id _ rfl | exact LAL.nil | refine LAL.cons ?_ ?_ | exact la_id _ rfl | exact LA.lend (lend_whole rfl (by first | (simp; done) | (rw [List.length_map]; rfl))) | refine LA.agg ?_ | refine LA.fn ?_ | refine LA.lend ?_ | exact Lend.d _ | exact Lend.zs _ | exact lend_whole rfl (by first | (simp; done) | (rw [List.length_map]; rfl)) | refine Lend.ptr rfl ?_ | refine Lend.fn ?_ | exact LendL.nil | refine LendL.cons ?_ ?_)) rfl rfl ?_)
 refine ax_q (q_not rfl) ?_
 refine ax_nil ?_
 refine cx_keep rfl rfl ?_
 refine cx_cond rfl (fun h0 => ?_) (fun h0 => ?_)
 ·
  have h0 := bT h0
  refine cx_seq ?_
  refine cx_ops ?_
  refine ax_q (q_mov rfl) ?_
  refine ax_nil ?_
  refine cx_keep rfl rfl ?_
  refine cx_ret (ret0 rfl rfl ?_)
  exact ⟨by rw [exprOK_0 h0]; rfl, rfl⟩
 ·
  have h0 := bF h0
  have hn := inR_iff.1 h0
  refine cx_skip ?_
  refine cx_keep rfl rfl ?_
  refine cx_seq ?_
  refine cx_ops ?_
  refine ax_q (q_ldN rfl rfl rfl) ?_
  refine ax_q (q_fadr_ptr rfl) ?_
  refine ax_q (q_load1_ptr rfl rfl rfl) ?_
  first | refine ax_q (q_lenS_map rfl) ?_ | refine ax_q (q_lenS_osl rfl) ?_ | refine ax_q (q_lenS_zs rfl) ?_ | refine ax_q (q_lenS rfl) ?_
  refine ax_q (q_sub rfl rfl (by omega)) ?_
  first | refine ax_call rfl (vc_pure0 (c_l10Walk (f := e.Nodes.length + 1) ?_ ?_ ?_ ?_ ?_ ?_) hP rfl rfl ?_) | refine ax_call rfl (vc_lend0 (c_l10Walk (f := e.Nodes.length + 1) ?_ ?_ ?_ ?_ ?_ ?_) hP (by repeat (first | exact lal_id _ rfl | exact LAL.nil | refine LAL.cons ?_ ?_ | exact la_id _ rfl | exact LA.lend (lend_whole rfl (by first | (simp; done) | (rw [List.length_map]; rfl))) | refine LA.agg ?_ | refine LA.fn ?_ | refine LA.lend ?_ | exact Lend.d _ | exact Lend.zs _ | exact lend_whole rfl (by first | (simp; done) | (rw [List.length_map]; rfl)) | refine Lend.ptr rfl ?_ | refine Lend.fn ?_ | exact LendL.nil | refine LendL.cons ?_ ?_)) rfl rfl ?_)
  ·
   first | assumption | omega | (simp; done) | (simp; omega)
  ·
   first | assumption | omega | (simp; done) | (simp; omega)
  ·
   first | assumption | omega | (simp; done) | (simp; omega)
  ·
   first | assumption | omega | (simp; done) | (simp; omega)
  ·
   first | assumption | omega | (simp; done) | (simp; omega)
  ·
   first | assumption | omega | (simp; done) | (simp; omega)
  refine ax_q (q_mov rfl) ?_
  refine ax_q (q_ext rfl rfl) ?_
  refine ax_q (q_ext rfl rfl) ?_
  refine ax_q (q_ext rfl rfl) ?_
  refine ax_q (q_mov rfl) ?_
  refine ax_q (q_mov rfl) ?_
  refine ax_q (q_mov rfl) ?_
  refine ax_nil ?_
  refine cx_keep rfl rfl ?_
  refine cx_seq ?_
  refine cx_ops ?_
  refine ax_q (q_mov rfl) ?_
  refine ax_q (q_mov rfl) ?_
  apply ax_and rfl rfl
  ·
   intro g
   refine ax_q (q_mov rfl) ?_
   refine ax_q (q_ibin rfl rfl rfl) ?_
   exact ax_nil ⟨rfl, by repeat (first | exact trivial | refine ⟨rfl, ?_⟩ | refine ⟨?_, ?_⟩)⟩
  refine ax_q (q_mov rfl) ?_
  apply ax_and rfl rfl
  ·
   intro g
   have g := (fun h => And.intro (id (and_T h).1) (dT (and_T h).2)) g
   refine ax_q (q_mov rfl) ?_
   refine ax_q (q_ibin rfl rfl rfl) ?_
   exact ax_nil ⟨rfl, by repeat (first | exact trivial | refine ⟨rfl, ?_⟩ | refine ⟨?_, ?_⟩)⟩
  refine ax_q (q_mov rfl) ?_
  refine ax_nil ?_
  refine cx_keep rfl rfl ?_
  refine cx_ret (ret0 rfl rfl ?_)
  exact ⟨by rw [exprOK_1 h0]; rfl, rfl⟩


/- (ptr loop.example/g00332/spec.l10Parser).next -/
def k_c_qnext : XCode :=
 .seq (.ops [.op (some 2) (.mov (.k (.str [])))])
 (.keep [0] (.seq (.seq (.draw [.op (some 3) (.mov (.t 0)),
   .op (some 4) (.nilck (.t 3)),
   .op (some 5) (.fadr (.t 4) 1),
   .op (some 6) (.load1 (.t 5)),
   .op (some 7) (.mov (.t 0)),
   .op (some 8) (.nilck (.t 7)),
   .op (some 9) (.fadr (.t 8) 0),
   .op (some 10) (.load1 (.t 9)),
   .op (some 11) (.lenS (.t 10)),
   .op (some 12) (.bin .lss (.t 6) (.t 11))])
  (.keep [0, 12] (.cond (.t 12)
  (.seq (.draw [.op (some 13) (.mov (.t 0)),
    .op (some 14) (.nilck (.t 13)),
    .op (some 15) (.fadr (.t 14) 0),
    .op (some 16) (.load1 (.t 15)),
    .op (some 17) (.mov (.t 0)),
    .op (some 18) (.nilck (.t 17)),
    .op (some 19) (.fadr (.t 18) 1),
    .op (some 20) (.load1 (.t 19)),
    .op (some 21) (.iadr 1 (.t 16) (.t 20)),
    .op (some 22) (.load1 (.t 21)),
    .op (some 2) (.mov (.t 22))])
   (.keep [2] (.ret)))
  (.skip))))
 (.keep [] (.seq (.ops [.op (some 2) (.mov (.k (.str [])))])
 (.keep [2] (.ret))))))
theorem k_c_qnext_fits : fitsF Tryz.prog 107 ⟨23, k_c_qnext, [.t 2]⟩ = true := by kernel_rfl
theorem c_qnext {s : PS} {tk0 : List Str} (hs : s.ok) (hu : s.tk <:+ tk0) (h0l : tk0.length ≤ 500)  : Con Tryz.prog noMv 107 [.d (.ip [.sl 1 (tk0.map strRow), .int .i64 ((tk0.length - s.tk.length : Nat) : Int), .sl 7 (s.ns.map GExprNode.row), .int .i64 0, .int .i64 (s.op : Int)])] [] (fun r h => r = str (s.tk.headD []) ∧ h = []) := by
 refine con_of2 k_c_qnext_fits rfl fun C hP hmv => ?_
 unfold k_c_qnext
 have hs1 := hs.n
 have hs2 := hs.m
 have hs3 := hs.o
 have hsl := su_len hu
 refine cx_seq ?_
 refine cx_ops ?_
 refine ax_q (q_mov rfl) ?_
 refine ax_nil ?_
 refine cx_keep rfl rfl ?_
 refine cx_seq ?_
 refine cx_seq ?_
 refine cx_draw ?_
 refine ax_q (q_mov rfl) ?_
 first | refine ax_q (q_nilck_ptr rfl) ?_ | refine ax_q (q_nilck_rptr rfl) ?_ | refine ax_q (q_nilck_ip rfl) ?_
 first | refine ax_q (q_fadr_ptr rfl) ?_ | refine ax_q (q_fadr_rptr rfl) ?_ | refine ax_q (q_fadr_ip rfl) ?_
 first | refine ax_q (q_load1_ptr rfl rfl rfl) ?_ | refine ax_q (q_load1_ip rfl) ?_ | refine ax_q (q_load1_rptr rfl rfl rfl rfl) ?_ | refine ax_q (q_load1_rptr rfl rfl (by assumption) rfl) ?_ | refine ax_q (q_load1_rptr rfl rfl (mapAt (by first | assumption | omega)) rfl) ?_
 refine ax_q (q_mov rfl) ?_
 first | refine ax_q (q_nilck_ptr rfl) ?_ | refine ax_q (q_nilck_rptr rfl) ?_ | refine ax_q (q_nilck_ip rfl) ?_
 first | refine ax_q (q_fadr_ptr rfl) ?_ | refine ax_q (q_fadr_rptr rfl) ?_ | refine ax_q (q_fadr_ip rfl) ?_
 first | refine ax_q (q_load1_ptr rfl rfl rfl) ?_ | refine ax_q (q_load1_ip rfl) ?_ | refine ax_q (q_load1_rptr rfl rfl rfl rfl) ?_ | refine ax_q (q_load1_rptr rfl rfl (by assumption) rfl) ?_ | refine ax_q (q_load1_rptr rfl rfl (mapAt (by first | assumption | omega)) rfl) ?_
 first | refine ax_q (q_lenS_map rfl) ?_ | refine ax_q (q_lenS_osl rfl) ?_ | refine ax_q (q_lenS_zs rfl) ?_ | refine ax_q (q_lenS rfl) ?_
 refine ax_q (q_ibin rfl rfl rfl) ?_
 refine ax_nil ?_
 refine cx_keep rfl rfl ?_
 refine cx_cond rfl (fun h0 => ?_) (fun h0 => ?_)
 ·
  have h0 := dT h0
  have hp : 0 < s.tk.length := by omega
  refine cx_seq ?_
  refine cx_draw ?_
  refine ax_q (q_mov rfl) ?_
  first | refine ax_q (q_nilck_ptr rfl) ?_ | refine ax_q (q_nilck_rptr rfl) ?_ | refine ax_q (q_nilck_ip rfl) ?_
  first | refine ax_q (q_fadr_ptr rfl) ?_ | refine ax_q (q_fadr_rptr rfl) ?_ | refine ax_q (q_fadr_ip rfl) ?_
  first | refine ax_q (q_load1_ptr rfl rfl rfl) ?_ | refine ax_q (q_load1_ip rfl) ?_ | refine ax_q (q_load1_rptr rfl rfl rfl rfl) ?_ | refine ax_q (q_load1_rptr rfl rfl (by assumption) rfl) ?_ | refine ax_q (q_load1_rptr rfl rfl (mapAt (by first | assumption | omega)) rfl) ?_
  refine ax_q (q_mov rfl) ?_
  first | refine ax_q (q_nilck_ptr rfl) ?_ | refine ax_q (q_nilck_rptr rfl) ?_ | refine ax_q (q_nilck_ip rfl) ?_
  first | refine ax_q (q_fadr_ptr rfl) ?_ | refine ax_q (q_fadr_rptr rfl) ?_ | refine ax_q (q_fadr_ip rfl) ?_
  first | refine ax_q (q_load1_ptr rfl rfl rfl) ?_ | refine ax_q (q_load1_ip rfl) ?_ | refine ax_q (q_load1_rptr rfl rfl rfl rfl) ?_ | refine ax_q (q_load1_rptr rfl rfl (by assumption) rfl) ?_ | refine ax_q (q_load1_rptr rfl rfl (mapAt (by first | assumption | omega)) rfl) ?_
  refine ax_q (q_ix (row := strRow (s.tk.headD [])) rfl rfl (su_at hu hp)) ?_
  first | refine ax_q (q_load1_ptr rfl rfl rfl) ?_ | refine ax_q (q_load1_ip rfl) ?_ | refine ax_q (q_load1_rptr rfl rfl rfl rfl) ?_ | refine ax_q (q_load1_rptr rfl rfl (by assumption) rfl) ?_ | refine ax_q (q_load1_rptr rfl rfl (mapAt (by first | assumption | omega)) rfl) ?_
  refine ax_q (q_mov rfl) ?_
  refine ax_nil ?_
  refine cx_keep rfl rfl ?_
  refine cx_ret (ret0 rfl rfl ?_)
  exact ⟨rfl, rfl⟩
 ·
  have h0 := dF h0
  have hz : s.tk = [] := List.length_eq_zero_iff.1 (by omega)
  refine cx_skip ?_
  refine cx_keep rfl rfl ?_
  refine cx_seq ?_
  refine cx_ops ?_
  refine ax_q (q_mov rfl) ?_
  refine ax_nil ?_
  refine cx_keep rfl rfl ?_
  refine cx_ret (ret0 rfl rfl ?_)
  exact ⟨by rw [hz]; rfl, rfl⟩


/- (ptr loop.example/g00332/spec.l10Parser).take -/
def k_c_qtake : XCode :=
 .seq (.ops [.op (some 4) (.mov (.k (.bool false)))])
 (.keep [0, 1] (.seq (.seq (.ops [.op (some 5) (.mov (.t 0)),
   .op (some 6) (.nilck (.t 5)),
   .op (some 7) (.fadr (.t 6) 3),
   .op (some 8) (.load1 (.t 7)),
   .op (some 9) (.bin .neq (.t 8) (.k (.int .i64 0))),
   .op (some 10) (.mov (.t 9)),
   .andor 15 false 5 10 [.op (some 11) (.mov (.t 0)), .call (some 12) 107 [.t 11], .op (some 13) (.mov (.t 1)), .op (some 14) (.bin .neq (.t 12) (.t 13))] (.t 14)])
  (.keep [0, 15] (.cond (.t 15)
  (.seq (.ops [.op (some 4) (.mov (.k (.bool false)))])
   (.keep [4] (.ret)))
  (.skip))))
 (.keep [0] (.seq (.ops [.op (some 16) (.mov (.t 0)),
   .op (some 17) (.nilck (.t 16)),
   .op (some 18) (.fadr (.t 17) 1),
   .op (some 19) (.load1 (.t 18)),
   .op (some 20) (.bin .add (.t 19) (.k (.int .i64 1))),
   .op (some 21) (.nilck (.t 16)),
   .op (some 22) (.fadr (.t 21) 1),
   .op none (.store 1 (.t 22) (.t 20))])
 (.keep [] (.seq (.ops [.op (some 4) (.mov (.k (.bool true)))])
 (.keep [4] (.ret))))))))
theorem k_c_qtake_fits : fitsF Tryz.prog 96 ⟨23, k_c_qtake, [.t 4]⟩ = true := by kernel_rfl
theorem c_qtake {s : PS} {tk0 : List Str} {t : Str} (hs : s.ok) (hu : s.tk <:+ tk0) (h0l : tk0.length ≤ 500) (ht : t ≠ []) : Con Tryz.prog noMv 96 [.ptr 1000 0, str t] [(1000, .box [.d (.sl 1 (tk0.map strRow)), int ((tk0.length - s.tk.length : Nat) : Int), .osl 1001 7 0 s.ns.length, int 0, int (s.op : Int)]), (1001, .rows 7 (s.ns.map GExprNode.row))] (fun r h => r = bool (isP s.tk [t]) ∧ h = [(1000, .box [.d (.sl 1 (tk0.map strRow)), int ((tk0.length - (skP s [t]).tk.length : Nat) : Int), .osl 1001 7 0 (skP s [t]).ns.length, int 0, int ((skP s [t]).op : Int)]), (1001, .rows 7 ((skP s [t]).ns.map GExprNode.row))]) := by
 refine con_of2 k_c_qtake_fits rfl fun C hP hmv => ?_
 unfold k_c_qtake
 have hs1 := hs.n
 have hs2 := hs.m
 have hs3 := hs.o
 have hsl := su_len hu
 refine cx_seq ?_
 refine cx_ops ?_
 refine ax_q (q_mov rfl) ?_
 refine ax_nil ?_
 refine cx_keep rfl rfl ?_
 refine cx_seq ?_
 refine cx_seq ?_
 refine cx_ops ?_
 refine ax_q (q_mov rfl) ?_
 first | refine ax_q (q_nilck_ptr rfl) ?_ | refine ax_q (q_nilck_rptr rfl) ?_ | refine ax_q (q_nilck_ip rfl) ?_
 first | refine ax_q (q_fadr_ptr rfl) ?_ | refine ax_q (q_fadr_rptr rfl) ?_ | refine ax_q (q_fadr_ip rfl) ?_
 first | refine ax_q (q_load1_ptr rfl rfl rfl) ?_ | refine ax_q (q_load1_ip rfl) ?_ | refine ax_q (q_load1_rptr rfl rfl rfl rfl) ?_ | refine ax_q (q_load1_rptr rfl rfl (by assumption) rfl) ?_ | refine ax_q (q_load1_rptr rfl rfl (mapAt (by first | assumption | omega)) rfl) ?_
 refine ax_q (q_ibin rfl rfl rfl) ?_
 refine ax_q (q_mov rfl) ?_
 apply ax_or rfl rfl
 ·
  intro g
  have g := nF g
  refine ax_q (q_mov rfl) ?_
  first | refine ax_call rfl (vc_pure0 (c_qnext (s := s) (tk0 := tk0) ?_ ?_ ?_) hP rfl rfl ?_) | refine ax_call rfl (vc_lend0 (c_qnext (s := s) (tk0 := tk0) ?_ ?_ ?_) hP (by repeat (first | exact lal_id _ rfl | exact LAL.nil | refine LAL.cons ?_ ?_ | exact la_id _ rfl | exact LA.lend (lend_whole rfl (by first | (simp; done) | (rw [List.length_map]; rfl))) | refine LA.agg ?_ | refine LA.fn ?_ | refine LA.lend ?_ | exact Lend.d _ | exact Lend.zs _ | exact lend_whole rfl (by first | (simp; done) | (rw [List.length_map]; rfl)) | refine Lend.ptr rfl ?_ | refine Lend.fn ?_ | exact LendL.nil | refine LendL.cons ?_ ?_)) rfl rfl ?_)
  ·
   first | assumption | omega | (simp; done) | (simp; omega)
  ·
   first | assumption | omega | (simp; done) | (simp; omega)
  ·
   first | assumption | omega | (simp; done) | (simp; omega)
  refine ax_q (q_mov rfl) ?_
  refine ax_q (q_sbin rfl rfl rfl) ?_
  exact ax_nil ⟨rfl, by repeat (first | exact trivial | refine ⟨rfl, ?_⟩ | refine ⟨?_, ?_⟩)⟩
 refine ax_nil ?_
 refine cx_keep rfl rfl ?_
 refine cx_cond rfl (fun h0 => ?_) (fun h0 => ?_)
 ·
  have h0 := (fun h => (or_T h).imp nT nT) h0
  have hf : isP s.tk [t] = false := by rw [isP_hd ht]; exact decide_eq_false (h0.resolve_left (fun e => e rfl))
  refine cx_seq ?_
  refine cx_ops ?_
  refine ax_q (q_mov rfl) ?_
  refine ax_nil ?_
  refine cx_keep rfl rfl ?_
  refine cx_ret (retN id [1000, 1001] rfl rfl rfl rfl rfl ?_)
  rw [hf, skP_f hf]; exact ⟨rfl, rfl⟩
 ·
  have h0 := (fun h => And.intro (nF (or_F h).1) (nF (or_F h).2)) h0
  have hf : isP s.tk [t] = true := by rw [isP_hd ht]; exact decide_eq_true h0.2
  have hpl := isP_le hf
  have h1l : ([t] : List Str).length = 1 := rfl
  refine cx_skip ?_
  refine cx_keep rfl rfl ?_
  refine cx_seq ?_
  refine cx_ops ?_
  refine ax_q (q_mov rfl) ?_
  first | refine ax_q (q_nilck_ptr rfl) ?_ | refine ax_q (q_nilck_rptr rfl) ?_ | refine ax_q (q_nilck_ip rfl) ?_
  first | refine ax_q (q_fadr_ptr rfl) ?_ | refine ax_q (q_fadr_rptr rfl) ?_ | refine ax_q (q_fadr_ip rfl) ?_
  first | refine ax_q (q_load1_ptr rfl rfl rfl) ?_ | refine ax_q (q_load1_ip rfl) ?_ | refine ax_q (q_load1_rptr rfl rfl rfl rfl) ?_ | refine ax_q (q_load1_rptr rfl rfl (by assumption) rfl) ?_ | refine ax_q (q_load1_rptr rfl rfl (mapAt (by first | assumption | omega)) rfl) ?_
  refine ax_qe (r' := int ((tk0.length - (s.tk.drop 1).length : Nat) : Int)) (q_ibin rfl rfl rfl) (by rw [wi (by omega) (by omega)]; rw [List.length_drop]; exact congrArg AM.int (by omega)) ?_
  first | refine ax_q (q_nilck_ptr rfl) ?_ | refine ax_q (q_nilck_rptr rfl) ?_ | refine ax_q (q_nilck_ip rfl) ?_
  first | refine ax_q (q_fadr_ptr rfl) ?_ | refine ax_q (q_fadr_rptr rfl) ?_ | refine ax_q (q_fadr_ip rfl) ?_
  refine ax_e (e_st rfl rfl rfl rfl rfl rfl rfl) ?_
  refine ax_nil ?_
  refine cx_keep rfl rfl ?_
  refine cx_seq ?_
  refine cx_ops ?_
  refine ax_q (q_mov rfl) ?_
  refine ax_nil ?_
  refine cx_keep rfl rfl ?_
  refine cx_ret (retN id [1000, 1001] rfl rfl rfl rfl rfl ?_)
  rw [hf, skP_t hf]; exact ⟨rfl, rfl⟩


/- (ptr loop.example/g00332/spec.l10Parser).put -/
def k_c_qput : XCode :=
 .seq (.ops [.op (some 3) (.box (.t 1)),
   .op (some 4) (.mov (.k (.int .i64 0)))])
 (.keep [0, 3] (.seq (.seq (.ops [.op (some 5) (.mov (.t 0)),
   .op (some 6) (.nilck (.t 5)),
   .op (some 7) (.fadr (.t 6) 2),
   .op (some 8) (.load1 (.t 7)),
   .op (some 9) (.lenS (.t 8)),
   .op (some 10) (.bin .eql (.t 9) (.k (.int .i64 40)))])
  (.keep [0, 3, 10] (.cond (.t 10)
  (.seq (.ops [.op (some 11) (.mov (.t 0)),
    .call (some 12) 108 [.t 11, .k (.int .i64 6)]])
   (.keep [] (.seq (.ops [.op (some 4) (.mov (.k (.int .i64 0)))])
   (.keep [4] (.ret)))))
  (.skip))))
 (.keep [0, 3] (.seq (.drawE [[], [], [1], [1, 2], [1, 2, 3], [], [5], [1, 2, 3, 4, 5, 6], [0, 1, 2, 3, 4, 5, 6, 7], [0, 1, 2, 3, 4, 5, 6, 7, 8], [0, 1, 2, 3, 4, 5, 6, 7, 8, 9]] [.op (some 13) (.mov (.t 0)),
   .op (some 14) (.mov (.t 0)),
   .op (some 15) (.nilck (.t 14)),
   .op (some 16) (.fadr (.t 15) 2),
   .op (some 17) (.load1 (.t 16)),
   .op (some 18) (.loadN 7 (.t 3)),
   .op (some 19) (.bslice 7 [.t 18]),
   .op (some 20) (.app 7 64 [.int .i64 0, .int .i64 0, .int .i64 0, .int .i64 0, .int .i64 0, .int .i64 0, .str []] (.t 17) (.t 19))]
  [.op (some 21) (.nilck (.t 13)),
   .op (some 22) (.fadr (.t 21) 2),
   .op none (.store 1 (.t 22) (.t 20))])
 (.keep [0] (.seq (.ops [.op (some 23) (.mov (.t 0)),
   .op (some 24) (.nilck (.t 23)),
   .op (some 25) (.fadr (.t 24) 2),
   .op (some 26) (.load1 (.t 25)),
   .op (some 27) (.lenS (.t 26)),
   .op (some 28) (.bin .sub (.t 27) (.k (.int .i64 1))),
   .op (some 4) (.mov (.t 28))])
 (.keep [4] (.ret))))))))
theorem k_c_qput_fits : fitsF Tryz.prog 97 ⟨29, k_c_qput, [.t 4]⟩ = true := by kernel_rfl
theorem c_qput {s s' : PS} {tk0 : List Str} {n : GExprNode} {k : Int} (hs : s.ok) (hu : s.tk <:+ tk0) (h0l : tk0.length ≤ 500) (h : ndP s n = some (s', k)) : Con Tryz.prog (fun e => Nat.beq e 1001) 97 [.ptr 1000 0, n.av] [(1000, .box [.d (.sl 1 (tk0.map strRow)), int ((tk0.length - s.tk.length : Nat) : Int), .osl 1001 7 0 s.ns.length, int 0, int (s.op : Int)]), (1001, .rows 7 (s.ns.map GExprNode.row))] (fun r h => r = int k ∧ h = [(1000, .box [.d (.sl 1 (tk0.map strRow)), int ((tk0.length - s'.tk.length : Nat) : Int), .osl 1001 7 0 s'.ns.length, int 0, int (s'.op : Int)]), (1001, .rows 7 (s'.ns.map GExprNode.row))]) := by
 refine con_of2 k_c_qput_fits rfl fun C hP hmv => ?_
 unfold k_c_qput
 have hs1 := hs.n
 have hs2 := hs.m
 have hs3 := hs.o
 have hsl := su_len hu
 obtain ⟨hn, rfl, rfl⟩ := ndP_some h
 refine cx_seq ?_
 refine cx_ops ?_
 refine ax_e (e_box rfl rfl (by decide) rfl rfl rfl) ?_
 refine ax_q (q_mov rfl) ?_
 refine ax_nil ?_
 refine cx_keep rfl rfl ?_
 refine cx_seq ?_
 refine cx_seq ?_
 refine cx_ops ?_
 refine ax_q (q_mov rfl) ?_
 first | refine ax_q (q_nilck_ptr rfl) ?_ | refine ax_q (q_nilck_rptr rfl) ?_ | refine ax_q (q_nilck_ip rfl) ?_
 first | refine ax_q (q_fadr_ptr rfl) ?_ | refine ax_q (q_fadr_rptr rfl) ?_ | refine ax_q (q_fadr_ip rfl) ?_
 first | refine ax_q (q_load1_ptr rfl rfl rfl) ?_ | refine ax_q (q_load1_ip rfl) ?_ | refine ax_q (q_load1_rptr rfl rfl rfl rfl) ?_ | refine ax_q (q_load1_rptr rfl rfl (by assumption) rfl) ?_ | refine ax_q (q_load1_rptr rfl rfl (mapAt (by first | assumption | omega)) rfl) ?_
 first | refine ax_q (q_lenS_map rfl) ?_ | refine ax_q (q_lenS_osl rfl) ?_ | refine ax_q (q_lenS_zs rfl) ?_ | refine ax_q (q_lenS rfl) ?_
 refine ax_q (q_ibin rfl rfl rfl) ?_
 refine ax_nil ?_
 refine cx_keep rfl rfl ?_
 refine cx_cond rfl (fun h0 => ?_) (fun h0 => ?_)
 ·
  have h0 := dT h0
  exfalso; omega
 ·
  have h0 := dF h0
  refine cx_skip ?_
  refine cx_keep rfl rfl ?_
  refine cx_seq ?_
  refine cx_drawL 7 20 (Nat.beq 1001) (nrA 1001) [] ([(1001, .rows 7 ((s.ns ++ [n]).map GExprNode.row))]) [[0], [0], [14], [15], [16], [3], [18], [17, 19]] [[1001, 1000], [], [], [], [], [], [], [1001, 1000]] rfl ?_
  first | refine ⟨_, .inr ⟨rfl, _, rfl, .inr ⟨rfl, rfl, .inr rfl, rfl, rfl⟩, loc_q (q_mov rfl)⟩, ?_⟩
  first | refine ⟨_, .inr ⟨rfl, _, rfl, .inl rfl, loc_q (q_mov rfl)⟩, ?_⟩
  first | refine ⟨_, .inr ⟨rfl, _, rfl, .inl rfl, loc_q (q_nilck_ptr rfl)⟩, ?_⟩ | refine ⟨_, .inr ⟨rfl, _, rfl, .inl rfl, loc_q (q_nilck_rptr rfl)⟩, ?_⟩ | refine ⟨_, .inr ⟨rfl, _, rfl, .inl rfl, loc_q (q_nilck_ip rfl)⟩, ?_⟩
  first | refine ⟨_, .inr ⟨rfl, _, rfl, .inl rfl, loc_q (q_fadr_ptr rfl)⟩, ?_⟩ | refine ⟨_, .inr ⟨rfl, _, rfl, .inl rfl, loc_q (q_fadr_rptr rfl)⟩, ?_⟩ | refine ⟨_, .inr ⟨rfl, _, rfl, .inl rfl, loc_q (q_fadr_ip rfl)⟩, ?_⟩
  first | refine ⟨_, .inr ⟨rfl, _, rfl, .inl rfl, loc_q (q_load1_ptr rfl rfl rfl)⟩, ?_⟩ | refine ⟨_, .inr ⟨rfl, _, rfl, .inl rfl, loc_q (q_load1_ip rfl)⟩, ?_⟩ | refine ⟨_, .inr ⟨rfl, _, rfl, .inl rfl, loc_q (q_load1_rptr rfl rfl rfl rfl)⟩, ?_⟩ | refine ⟨_, .inr ⟨rfl, _, rfl, .inl rfl, loc_q (q_load1_rptr rfl rfl (by assumption) rfl)⟩, ?_⟩ | refine ⟨_, .inr ⟨rfl, _, rfl, .inl rfl, loc_q (q_load1_rptr rfl rfl (mapAt (by first | assumption | omega)) rfl)⟩, ?_⟩
  first | refine ⟨_, .inr ⟨rfl, _, rfl, .inl rfl, loc_q (q_ldN rfl rfl rfl)⟩, ?_⟩
  first | refine ⟨_, .inr ⟨rfl, _, rfl, .inl rfl, loc_bslice rfl⟩, ?_⟩
  refine ⟨⟨20, _, []⟩, .inl ⟨rfl, rfl, rfl, locl_app (n' := (s.ns ++ [n]).length) (rs' := (s.ns ++ [n]).map GExprNode.row) rfl rfl (by simp) rfl (fun _ _ h => src_osl (h _ _ rfl) (by simp)) (.inr (by rw [hmv]; rfl)) (hbnd (by omega) (by simp) (by decide)) (by simp) (app1 rfl)⟩, ?_⟩
  refine ⟨rfl, ?_⟩
  first | refine ax_q (q_nilck_ptr rfl) ?_ | refine ax_q (q_nilck_rptr rfl) ?_ | refine ax_q (q_nilck_ip rfl) ?_
  first | refine ax_q (q_fadr_ptr rfl) ?_ | refine ax_q (q_fadr_rptr rfl) ?_ | refine ax_q (q_fadr_ip rfl) ?_
  refine ax_e (e_st rfl rfl rfl rfl rfl rfl rfl) ?_
  refine ax_nil ?_
  refine cx_keep rfl rfl ?_
  refine cx_seq ?_
  refine cx_ops ?_
  refine ax_q (q_mov rfl) ?_
  first | refine ax_q (q_nilck_ptr rfl) ?_ | refine ax_q (q_nilck_rptr rfl) ?_ | refine ax_q (q_nilck_ip rfl) ?_
  first | refine ax_q (q_fadr_ptr rfl) ?_ | refine ax_q (q_fadr_rptr rfl) ?_ | refine ax_q (q_fadr_ip rfl) ?_
  first | refine ax_q (q_load1_ptr rfl rfl rfl) ?_ | refine ax_q (q_load1_ip rfl) ?_ | refine ax_q (q_load1_rptr rfl rfl rfl rfl) ?_ | refine ax_q (q_load1_rptr rfl rfl (by assumption) rfl) ?_ | refine ax_q (q_load1_rptr rfl rfl (mapAt (by first | assumption | omega)) rfl) ?_
  first | refine ax_q (q_lenS_map rfl) ?_ | refine ax_q (q_lenS_osl rfl) ?_ | refine ax_q (q_lenS_zs rfl) ?_ | refine ax_q (q_lenS rfl) ?_
  have hq : (s.ns ++ [n]).length = s.ns.length + 1 := by simp
  refine ax_qe (r' := int ((s.ns.length : Nat) : Int)) (q_ibin rfl rfl rfl) (by rw [wi (by omega) (by omega)]; exact congrArg AM.int (by omega)) ?_
  refine ax_q (q_mov rfl) ?_
  refine ax_nil ?_
  refine cx_keep rfl rfl ?_
  refine cx_ret (retN id [1000, 1001] rfl rfl rfl rfl rfl ?_)
  exact ⟨rfl, rfl⟩


/- (ptr loop.example/g00332/spec.l10Parser).deeper -/
def k_c_deeper : XCode :=
 .seq (.ops [.op (some 4) (.mov (.t 0)),
   .op (some 5) (.nilck (.t 4)),
   .op (some 6) (.fadr (.t 5) 4),
   .op (some 7) (.load1 (.t 6)),
   .op (some 8) (.mov (.t 1)),
   .op (some 9) (.bin .add (.t 7) (.t 8)),
   .op (some 10) (.nilck (.t 4)),
   .op (some 11) (.fadr (.t 10) 4),
   .op none (.store 1 (.t 11) (.t 9))])
 (.keep [0] (.seq (.ops [.op (some 12) (.mov (.t 0)),
   .op (some 13) (.nilck (.t 12)),
   .op (some 14) (.fadr (.t 13) 4),
   .op (some 15) (.load1 (.t 14)),
   .op (some 16) (.bin .gtr (.t 15) (.k (.int .i64 48)))])
 (.keep [0, 16] (.cond (.t 16)
  (.seq (.ops [.op (some 17) (.mov (.t 0)),
    .call (some 18) 108 [.t 17, .k (.int .i64 16)]])
  (.keep [0] (.ops [.op (some 19) (.mov (.t 0)),
   .op (some 20) (.mov (.t 0)),
   .op (some 21) (.nilck (.t 20)),
   .op (some 22) (.fadr (.t 21) 0),
   .op (some 23) (.load1 (.t 22)),
   .op (some 24) (.lenS (.t 23)),
   .op (some 25) (.nilck (.t 19)),
   .op (some 26) (.fadr (.t 25) 1),
   .op none (.store 1 (.t 26) (.t 24))])))
  (.skip)))))
theorem k_c_deeper_fits : fitsF Tryz.prog 118 ⟨27, k_c_deeper, []⟩ = true := by kernel_rfl
theorem c_deeper {s : PS} {tk0 : List Str} {o : Nat} {d : Int} (hs3 : s.op ≤ 1000) (ho : o ≤ 48) (hd : (s.op : Int) + d = (o : Int)) : Con Tryz.prog noMv 118 [.ptr 1000 0, int d] [(1000, .box [.d (.sl 1 (tk0.map strRow)), int ((tk0.length - s.tk.length : Nat) : Int), .osl 1001 7 0 s.ns.length, int 0, int (s.op : Int)]), (1001, .rows 7 (s.ns.map GExprNode.row))] (fun r h => r = .tup [] ∧ h = [(1000, .box [.d (.sl 1 (tk0.map strRow)), int ((tk0.length - (⟨s.tk, s.ns, o⟩ : PS).tk.length : Nat) : Int), .osl 1001 7 0 (⟨s.tk, s.ns, o⟩ : PS).ns.length, int 0, int ((⟨s.tk, s.ns, o⟩ : PS).op : Int)]), (1001, .rows 7 ((⟨s.tk, s.ns, o⟩ : PS).ns.map GExprNode.row))]) := by
 refine con_of2 k_c_deeper_fits rfl fun C hP hmv => ?_
 unfold k_c_deeper
 refine cx_seq ?_
 refine cx_ops ?_
 refine ax_q (q_mov rfl) ?_
 first | refine ax_q (q_nilck_ptr rfl) ?_ | refine ax_q (q_nilck_rptr rfl) ?_ | refine ax_q (q_nilck_ip rfl) ?_
 first | refine ax_q (q_fadr_ptr rfl) ?_ | refine ax_q (q_fadr_rptr rfl) ?_ | refine ax_q (q_fadr_ip rfl) ?_
 first | refine ax_q (q_load1_ptr rfl rfl rfl) ?_ | refine ax_q (q_load1_ip rfl) ?_ | refine ax_q (q_load1_rptr rfl rfl rfl rfl) ?_ | refine ax_q (q_load1_rptr rfl rfl (by assumption) rfl) ?_ | refine ax_q (q_load1_rptr rfl rfl (mapAt (by first | assumption | omega)) rfl) ?_
 refine ax_q (q_mov rfl) ?_
 refine ax_qe (r' := int (o : Int)) (q_ibin rfl rfl rfl) (by rw [wi (by omega) (by omega), hd]) ?_
 first | refine ax_q (q_nilck_ptr rfl) ?_ | refine ax_q (q_nilck_rptr rfl) ?_ | refine ax_q (q_nilck_ip rfl) ?_
 first | refine ax_q (q_fadr_ptr rfl) ?_ | refine ax_q (q_fadr_rptr rfl) ?_ | refine ax_q (q_fadr_ip rfl) ?_
 refine ax_e (e_st rfl rfl rfl rfl rfl rfl rfl) ?_
 refine ax_nil ?_
 refine cx_keep rfl rfl ?_
 refine cx_seq ?_
 refine cx_ops ?_
 refine ax_q (q_mov rfl) ?_
 first | refine ax_q (q_nilck_ptr rfl) ?_ | refine ax_q (q_nilck_rptr rfl) ?_ | refine ax_q (q_nilck_ip rfl) ?_
 first | refine ax_q (q_fadr_ptr rfl) ?_ | refine ax_q (q_fadr_rptr rfl) ?_ | refine ax_q (q_fadr_ip rfl) ?_
 first | refine ax_q (q_load1_ptr rfl rfl rfl) ?_ | refine ax_q (q_load1_ip rfl) ?_ | refine ax_q (q_load1_rptr rfl rfl rfl rfl) ?_ | refine ax_q (q_load1_rptr rfl rfl (by assumption) rfl) ?_ | refine ax_q (q_load1_rptr rfl rfl (mapAt (by first | assumption | omega)) rfl) ?_
 refine ax_q (q_ibin rfl rfl rfl) ?_
 refine ax_nil ?_
 refine cx_keep rfl rfl ?_
 refine cx_cond rfl (fun h0 => ?_) (fun h0 => ?_)
 ·
  have h0 := dT h0
  exfalso; omega
 ·
  have h0 := dF h0
  refine cx_skip ?_
  refine retN id [1000, 1001] rfl rfl rfl rfl rfl ?_
  exact ⟨rfl, rfl⟩


/- loop.example/g00332/spec.l10Columns -/
def k_c_l10Columns : XCode :=
 .seq (.ops [.op (some 0) (.mov (.k (.nils 1)))])
 (.keep [] (.seq (.ops [.op (some 1) (.bslice 1 [.k (.str [105, 100]), .k (.str [110]), .k (.str [110, 97, 109, 101])]),
   .op (some 0) (.mov (.t 1))])
 (.keep [0] (.ret))))
theorem k_c_l10Columns_fits : fitsF Tryz.prog 53 ⟨2, k_c_l10Columns, [.t 0]⟩ = true := by kernel_rfl
theorem c_l10Columns  : Con Tryz.prog noMv 53 [] [] (fun r h => r = .osl 0 1 0 3 ∧ h = [(0, .rows 1 (colsL.map strRow))]) := by
 refine con_of2 k_c_l10Columns_fits rfl fun C hP hmv => ?_
 unfold k_c_l10Columns
 refine cx_seq ?_
 refine cx_ops ?_
 refine ax_q (q_mov rfl) ?_
 refine ax_nil ?_
 refine cx_keep rfl rfl ?_
 refine cx_seq ?_
 refine cx_ops ?_
 refine ax_e (e_bslice rfl (by decide) rfl rfl) ?_
 refine ax_q (q_mov rfl) ?_
 refine ax_nil ?_
 refine cx_keep rfl rfl ?_
 refine cx_ret (retN (fun _ => 0) [1] rfl rfl rfl rfl rfl ?_)
 exact ⟨rfl, rfl⟩


/- loop.example/g00332/spec.l00Number -/
def k_c_l00Number5 : XCode :=
 .seq (.ops [.op (some 2) (.mov (.k (.int .i64 0))),
   .op (some 3) (.mov (.k (.bool false)))])
 (.keep [0] (.seq (.ops [.op (some 4) (.mov (.k (.int .i64 1)))])
 (.keep [0, 4] (.seq (.seq (.ops [.op (some 7) (.mov (.t 0)),
   .op (some 8) (.lenT (.t 7)),
   .op (some 9) (.bin .gtr (.t 8) (.k (.int .i64 0))),
   .op (some 10) (.mov (.t 9)),
   .andor 14 true 3 10 [.op (some 11) (.mov (.t 0)), .op (some 12) (.idxS (.t 11) (.k (.int .i64 0))), .op (some 13) (.bin .eql (.t 12) (.k (.int .u8 45)))] (.t 13)])
  (.keep [0, 4, 14] (.cond (.t 14)
  (.seq (.ops [.op (some 4) (.mov (.k (.int .i64 (-1))))])
   (.keep [0, 4] (.ops [.op (some 15) (.mov (.t 0)),
    .op (some 16) (.slcT (.t 15) (some (.k (.int .i64 1))) none),
    .op (some 0) (.mov (.t 16))])))
  (.skip))))
 (.keep [0, 4] (.seq (.seq (.ops [.op (some 17) (.mov (.t 0)),
   .op (some 18) (.lenT (.t 17)),
   .op (some 19) (.bin .eql (.t 18) (.k (.int .i64 0))),
   .op (some 20) (.mov (.t 19)),
   .andor 24 false 3 20 [.op (some 21) (.mov (.t 0)), .op (some 22) (.lenT (.t 21)), .op (some 23) (.bin .gtr (.t 22) (.k (.int .i64 18)))] (.t 23),
   .op (some 25) (.mov (.t 24)),
   .andor 38 false 8 25 [.op (some 26) (.mov (.t 0)), .op (some 27) (.idxS (.t 26) (.k (.int .i64 0))), .op (some 28) (.bin .eql (.t 27) (.k (.int .u8 48))), .op (some 29) (.mov (.t 28)), .andor 37 true 12 29 [.op (some 30) (.mov (.t 0)), .op (some 31) (.lenT (.t 30)), .op (some 32) (.bin .gtr (.t 31) (.k (.int .i64 1))), .op (some 33) (.mov (.t 32)), .andor 36 false 16 33 [.op (some 34) (.mov (.t 4)), .op (some 35) (.bin .lss (.t 34) (.k (.int .i64 0)))] (.t 35)] (.t 36)] (.t 37)])
  (.keep [0, 4, 38] (.cond (.t 38)
  (.seq (.ops [.op (some 2) (.mov (.k (.int .i64 0))),
    .op (some 3) (.mov (.k (.bool false)))])
   (.keep [2, 3] (.ret)))
  (.skip))))
 (.keep [0, 4] (.seq (.ops [.op (some 5) (.mov (.k (.int .i64 0)))])
 (.keep [0, 4, 5] (.seq (.seq (.ops [.op (some 6) (.mov (.k (.int .i64 0)))])
  (.keep [0, 4, 5, 6] (.block 0 (.loop (.seq (.seq (.ops [.op (some 39) (.mov (.t 6)),
     .op (some 40) (.mov (.t 0)),
     .op (some 41) (.lenT (.t 40)),
     .op (some 42) (.bin .lss (.t 39) (.t 41))])
   (.keep [0, 4, 5, 6, 42] (.cond (.t 42)
    (.skip)
    (.exit 0))))
   (.keep [0, 4, 5, 6] (.seq (.block 1 (.seq (.seq (.ops [.op (some 45) (.mov (.t 0)),
      .op (some 46) (.mov (.t 6)),
      .op (some 47) (.idxS (.t 45) (.t 46)),
      .op (some 48) (.bin .lss (.t 47) (.k (.int .u8 48))),
      .op (some 49) (.mov (.t 48)),
      .andor 54 false 4 49 [.op (some 50) (.mov (.t 0)), .op (some 51) (.mov (.t 6)), .op (some 52) (.idxS (.t 50) (.t 51)), .op (some 53) (.bin .gtr (.t 52) (.k (.int .u8 57)))] (.t 53)])
    (.keep [0, 4, 5, 6, 54] (.cond (.t 54)
     (.seq (.ops [.op (some 2) (.mov (.k (.int .i64 0))),
       .op (some 3) (.mov (.k (.bool false)))])
     (.keep [2, 3] (.ret)))
     (.skip))))
    (.keep [0, 4, 5, 6] (.ops [.op (some 55) (.mov (.t 5)),
     .op (some 56) (.bin .mul (.t 55) (.k (.int .i64 10))),
     .op (some 57) (.mov (.t 0)),
     .op (some 58) (.mov (.t 6)),
     .op (some 59) (.idxS (.t 57) (.t 58)),
     .op (some 60) (.conv .i64 (.t 59)),
     .op (some 61) (.bin .add (.t 56) (.t 60)),
     .op (some 62) (.bin .sub (.t 61) (.k (.int .i64 48))),
     .op (some 5) (.mov (.t 62))]))))
   (.keep [0, 4, 5, 6] (.ops [.op (some 43) (.mov (.t 6)),
    .op (some 44) (.bin .add (.t 43) (.k (.int .i64 1))),
    .op (some 6) (.mov (.t 44))])))))))))
 (.keep [4, 5] (.seq (.ops [.op (some 63) (.mov (.t 4)),
   .op (some 64) (.mov (.t 5)),
   .op (some 65) (.bin .mul (.t 63) (.t 64)),
   .op (some 2) (.mov (.t 65)),
   .op (some 3) (.mov (.k (.bool true)))])
 (.keep [2, 3] (.ret))))))))))))))
theorem k_c_l00Number5_fits : fitsF Tryz.prog 163 ⟨66, k_c_l00Number5, [.t 2, .t 3]⟩ = true := by kernel_rfl
theorem c_l00Number5  : Con Tryz.prog noMv 163 [str [53]] [] (fun r h => r = .tup [int 5, bool true] ∧ h = []) := by
 refine con_of2 k_c_l00Number5_fits rfl fun C hP hmv => ?_
 unfold k_c_l00Number5
 refine cx_seq ?_
 refine cx_ops ?_
 refine ax_q (q_mov rfl) ?_
 refine ax_q (q_mov rfl) ?_
 refine ax_nil ?_
 refine cx_keep rfl rfl ?_
 refine cx_seq ?_
 refine cx_ops ?_
 refine ax_q (q_mov rfl) ?_
 refine ax_nil ?_
 refine cx_keep rfl rfl ?_
 refine cx_seq ?_
 refine cx_seq ?_
 refine cx_ops ?_
 refine ax_q (q_mov rfl) ?_
 refine ax_q (q_lenT rfl) ?_
 refine ax_q (q_ibin rfl rfl rfl) ?_
 refine ax_q (q_mov rfl) ?_
 apply ax_and rfl rfl
 ·
  intro g
  have g := dT g
  refine ax_q (q_mov rfl) ?_
  refine ax_q (q_idxN (n := 0) rfl rfl (by decide)) ?_
  refine ax_q (q_ibin rfl rfl rfl) ?_
  exact ax_nil ⟨rfl, by repeat (first | exact trivial | refine ⟨rfl, ?_⟩ | refine ⟨?_, ?_⟩)⟩
 refine ax_nil ?_
 refine cx_keep rfl rfl ?_
 refine cx_cond rfl (fun h0 => ?_) (fun h0 => ?_)
 ·
  have h0 := (fun h => And.intro (dT (and_T h).1) (dT (and_T h).2)) h0
  exact absurd h0 (by decide)
 ·
  have h0 := (fun h => (and_F h).imp dF dF) h0
  refine cx_skip ?_
  refine cx_keep rfl rfl ?_
  refine cx_seq ?_
  refine cx_seq ?_
  refine cx_ops ?_
  refine ax_q (q_mov rfl) ?_
  refine ax_q (q_lenT rfl) ?_
  refine ax_q (q_ibin rfl rfl rfl) ?_
  refine ax_q (q_mov rfl) ?_
  apply ax_or rfl rfl
  ·
   intro g
   have g := dF g
   refine ax_q (q_mov rfl) ?_
   refine ax_q (q_lenT rfl) ?_
   refine ax_q (q_ibin rfl rfl rfl) ?_
   exact ax_nil ⟨rfl, by repeat (first | exact trivial | refine ⟨rfl, ?_⟩ | refine ⟨?_, ?_⟩)⟩
  refine ax_q (q_mov rfl) ?_
  apply ax_or rfl rfl
  ·
   intro g
   have g := (fun h => And.intro (dF (or_F h).1) (dF (or_F h).2)) g
   refine ax_q (q_mov rfl) ?_
   refine ax_q (q_idxN (n := 0) rfl rfl (by decide)) ?_
   refine ax_q (q_ibin rfl rfl rfl) ?_
   refine ax_q (q_mov rfl) ?_
   apply ax_and rfl rfl
   ·
    intro g
    have g := dT g
    refine ax_q (q_mov rfl) ?_
    refine ax_q (q_lenT rfl) ?_
    refine ax_q (q_ibin rfl rfl rfl) ?_
    refine ax_q (q_mov rfl) ?_
    apply ax_or rfl rfl
    ·
     intro g
     have g := dF g
     refine ax_q (q_mov rfl) ?_
     refine ax_q (q_ibin rfl rfl rfl) ?_
     exact ax_nil ⟨rfl, by repeat (first | exact trivial | refine ⟨rfl, ?_⟩ | refine ⟨?_, ?_⟩)⟩
    exact ax_nil ⟨rfl, by repeat (first | exact trivial | refine ⟨rfl, ?_⟩ | refine ⟨?_, ?_⟩)⟩
   exact ax_nil ⟨rfl, by repeat (first | exact trivial | refine ⟨rfl, ?_⟩ | refine ⟨?_, ?_⟩)⟩
  refine ax_nil ?_
  refine cx_keep rfl rfl ?_
  refine cx_cond rfl (fun h1 => ?_) (fun h1 => ?_)
  ·
   have h1 := (fun h => (or_T h).imp (fun h => (or_T h).imp dT dT) (fun h => And.intro (dT (and_T h).1) ((fun h => (or_T h).imp dT dT) (and_T h).2))) h1
   exact absurd h1 (by decide)
  ·
   have h1 := (fun h => And.intro ((fun h => And.intro (dF (or_F h).1) (dF (or_F h).2)) (or_F h).1) ((fun h => (and_F h).imp dF (fun h => And.intro (dF (or_F h).1) (dF (or_F h).2))) (or_F h).2)) h1
   refine cx_skip ?_
   refine cx_keep rfl rfl ?_
   refine cx_seq ?_
   refine cx_ops ?_
   refine ax_q (q_mov rfl) ?_
   refine ax_nil ?_
   refine cx_keep rfl rfl ?_
   refine cx_seq ?_
   refine cx_seq ?_
   refine cx_ops ?_
   refine ax_q (q_mov rfl) ?_
   refine ax_nil ?_
   refine cx_keep rfl rfl ?_
   refine cx_block ?_
   refine cx_loopU (fun n k => k ≤ 1 ∧ n = 1 - k) (fun k : Nat => [(6, int k), (5, int (5 * (k : Int)))]) (fun _ => []) ⟨_, 0, ⟨by decide, rfl⟩, by repeat (first | exact trivial | refine ⟨rfl, ?_⟩ | refine ⟨?_, ?_⟩)⟩ ?_
   rintro n k ⟨hk, rfl⟩
   refine cx_seq ?_
   refine cx_seq ?_
   refine cx_ops ?_
   refine ax_q (q_mov rfl) ?_
   refine ax_q (q_mov rfl) ?_
   refine ax_q (q_lenT rfl) ?_
   refine ax_q (q_ibin rfl rfl rfl) ?_
   refine ax_nil ?_
   refine cx_keep rfl rfl ?_
   refine cx_cond rfl (fun h2 => ?_) (fun h2 => ?_)
   ·
    have h2 := dT h2
    have h2 : (k : Int) < 1 := h2
    obtain rfl : k = 0 := by omega
    refine cx_skip ?_
    refine cx_keep rfl rfl ?_
    refine cx_seq ?_
    refine cx_block ?_
    refine cx_seq ?_
    refine cx_seq ?_
    refine cx_ops ?_
    refine ax_q (q_mov rfl) ?_
    refine ax_q (q_mov rfl) ?_
    refine ax_q (q_idxN (n := 0) rfl rfl (by decide)) ?_
    refine ax_q (q_ibin rfl rfl rfl) ?_
    refine ax_q (q_mov rfl) ?_
    apply ax_or rfl rfl
    ·
     intro g
     have g := dF g
     refine ax_q (q_mov rfl) ?_
     refine ax_q (q_mov rfl) ?_
     refine ax_q (q_idxN (n := 0) rfl rfl (by decide)) ?_
     refine ax_q (q_ibin rfl rfl rfl) ?_
     exact ax_nil ⟨rfl, by repeat (first | exact trivial | refine ⟨rfl, ?_⟩ | refine ⟨?_, ?_⟩)⟩
    refine ax_nil ?_
    refine cx_keep rfl rfl ?_
    refine cx_cond rfl (fun h3 => ?_) (fun h3 => ?_)
    ·
     have h3 := (fun h => (or_T h).imp dT dT) h3
     exact absurd h3 (by decide)
    ·
     have h3 := (fun h => And.intro (dF (or_F h).1) (dF (or_F h).2)) h3
     refine cx_skip ?_
     refine cx_keep rfl rfl ?_
     refine cx_ops ?_
     refine ax_q (q_mov rfl) ?_
     refine ax_q (q_mul rfl rfl (by omega)) ?_
     refine ax_q (q_mov rfl) ?_
     refine ax_q (q_mov rfl) ?_
     refine ax_q (q_idxN (n := 0) rfl rfl (by decide)) ?_
     first | refine ax_q (q_convB rfl) ?_ | refine ax_q (q_convI rfl (by omega)) ?_ | refine ax_q (q_convU8 rfl) ?_ | refine ax_q (q_conv rfl) ?_
     refine ax_q (q_add rfl rfl (by omega)) ?_
     refine ax_q (q_sub rfl rfl (by omega)) ?_
     refine ax_q (q_mov rfl) ?_
     refine ax_nil ?_
     refine cx_keep rfl rfl ?_
     refine cx_ops ?_
     refine ax_q (q_mov rfl) ?_
     refine ax_q (q_add rfl rfl (by omega)) ?_
     refine ax_q (q_mov rfl) ?_
     refine ax_nil ?_
     exact ⟨_, 1, by omega, ⟨by omega, rfl⟩, by repeat (first | exact trivial | refine ⟨rfl, ?_⟩ | refine ⟨?_, ?_⟩)⟩
   ·
    have h2 := dF h2
    have h2 : ¬ (k : Int) < 1 := h2
    obtain rfl : k = 1 := by omega
    refine cx_exit rfl ?_
    refine cx_keep rfl rfl ?_
    refine cx_seq ?_
    refine cx_ops ?_
    refine ax_q (q_mov rfl) ?_
    refine ax_q (q_mov rfl) ?_
    refine ax_q (q_mul rfl rfl (by omega)) ?_
    refine ax_q (q_mov rfl) ?_
    refine ax_q (q_mov rfl) ?_
    refine ax_nil ?_
    refine cx_keep rfl rfl ?_
    refine cx_ret (ret0 rfl rfl ?_)
    exact ⟨rfl, rfl⟩


/- loop.example/g00332/spec.l10Number -/
def k_c_l10Number5 : XCode :=
 .seq (.ops [.op (some 2) (.alloc [.int .i64 0, .int .i64 0, .str []]),
   .op (some 3) (.mov (.k (.bool false)))])
 (.keep [0, 2] (.seq (.ops [.op (some 8) (.mov (.t 0)),
   .call (some 9) 163 [.t 8],
   .op (some 7) (.mov (.t 9)),
   .op (some 10) (.ext (.t 7) 0),
   .op (some 11) (.ext (.t 7) 1),
   .op (some 4) (.mov (.t 10)),
   .op (some 5) (.mov (.t 11))])
 (.keep [2, 4, 5] (.seq (.ops [.op (some 12) (.mov (.t 4)),
   .op (some 13) (.build [.int .i64 0, .int .i64 0, .str []] [(0, 1, .k (.int .i64 1)), (1, 1, .t 12)]),
   .op (some 6) (.alloc [.int .i64 0, .int .i64 0, .str []]),
   .op none (.store 3 (.t 6) (.t 13))])
 (.keep [2, 5, 6] (.seq (.drawS [[], [], [1], [1, 2], [1, 2, 3], [1, 2, 3, 4], [0, 1, 2, 3, 4], [0, 1, 2, 3, 4, 5, 6]] [.op (some 14) (.loadN 3 (.t 6)),
   .op (some 15) (.mov (.t 5)),
   .op (some 16) (.mov (.t 15)),
   .andor 19 true 2 16 [.op (some 17) (.loadN 3 (.t 6)), .call (some 18) 86 [.t 17]] (.t 18)]
  [.op none (.store 3 (.t 2) (.t 14)),
   .op (some 3) (.mov (.t 19))])
 (.keep [2, 3] (.ret))))))))
theorem k_c_l10Number5_fits : fitsF Tryz.prog 159 ⟨20, k_c_l10Number5, [.cN 2 3, .t 3]⟩ = true := by kernel_rfl
theorem c_l10Number5  : Con Tryz.prog noMv 159 [str [53]] [] (fun r h => r = .tup [(vI 5).av, bool true] ∧ h = []) := by
 refine con_of2 k_c_l10Number5_fits rfl fun C hP hmv => ?_
 unfold k_c_l10Number5
 refine cx_seq ?_
 refine cx_ops ?_
 refine ax_e (e_alloc (by decide) rfl rfl) ?_
 refine ax_q (q_mov rfl) ?_
 refine ax_nil ?_
 refine cx_keep rfl rfl ?_
 refine cx_seq ?_
 refine cx_ops ?_
 refine ax_q (q_mov rfl) ?_
 first | refine ax_call rfl (vc_pure0 (c_l00Number5  ) hP rfl rfl ?_) | refine ax_call rfl (vc_lend0 (c_l00Number5  ) hP (by repeat (first | exact lal_id _ rfl | exact LAL.nil | refine LAL.cons ?_ ?_ | exact la_id _ rfl | exact LA.lend (lend_whole rfl (by first | (simp; done) | (rw [List.length_map]; rfl))) | refine LA.agg ?_ | refine LA.fn ?_ | refine LA.lend ?_ | exact Lend.d _ | exact Lend.zs _ | exact lend_whole rfl (by first | (simp; done) | (rw [List.length_map]; rfl)) | refine Lend.ptr rfl ?_ | refine Lend.fn ?_ | exact LendL.nil | refine LendL.cons ?_ ?_)) rfl rfl ?_)
 refine ax_q (q_mov rfl) ?_
 refine ax_q (q_ext rfl rfl) ?_
 refine ax_q (q_ext rfl rfl) ?_
 refine ax_q (q_mov rfl) ?_
 refine ax_q (q_mov rfl) ?_
 refine ax_nil ?_
 refine cx_keep rfl rfl ?_
 refine cx_seq ?_
 refine cx_ops ?_
 refine ax_q (q_mov rfl) ?_
 refine ax_q (q_build rfl) ?_
 refine ax_e (e_alloc (by decide) rfl rfl) ?_
 refine ax_e (e_st rfl rfl rfl rfl rfl rfl rfl) ?_
 refine ax_nil ?_
 refine cx_keep rfl rfl ?_
 refine cx_seq ?_
 refine cx_drawS ?_
 refine ax_q (q_ldN rfl rfl rfl) ?_
 refine ax_q (q_mov rfl) ?_
 refine ax_q (q_mov rfl) ?_
 apply ax_and rfl rfl
 ·
  intro g
  refine ax_q (q_ldN rfl rfl rfl) ?_
  first | refine ax_callq rfl (c_sValueOK (v := vI 5) ?_) hP (lal_id _ rfl) rfl ?_ | refine ax_callq rfl (c_sValueOK (v := vI 5) ?_) hP (by repeat (first | exact lal_id _ rfl | exact LAL.nil | refine LAL.cons ?_ ?_ | exact la_id _ rfl | exact LA.lend (lend_whole rfl (by first | (simp; done) | (rw [List.length_map]; rfl))) | refine LA.agg ?_ | refine LA.fn ?_ | refine LA.lend ?_ | exact Lend.d _ | exact Lend.zs _ | exact lend_whole rfl (by first | (simp; done) | (rw [List.length_map]; rfl)) | refine Lend.ptr rfl ?_ | refine Lend.fn ?_ | exact LendL.nil | refine LendL.cons ?_ ?_)) rfl ?_
  ·
   decide
  exact ax_nil ⟨rfl, by repeat (first | exact trivial | refine ⟨rfl, ?_⟩ | refine ⟨?_, ?_⟩)⟩
 refine ax_nil ?_
 refine ax_e (e_st rfl rfl rfl rfl rfl rfl rfl) ?_
 refine ax_q (q_mov rfl) ?_
 refine ax_nil ?_
 refine cx_keep rfl rfl ?_
 refine cx_ret (ret0 rfl rfl ?_)
 exact ⟨rfl, rfl⟩


/- loop.example/g00332/spec.l10Value -/
def k_c_l10Value5 : XCode :=
 .seq (.ops [.op (some 2) (.alloc [.int .i64 0, .int .i64 0, .str []]),
   .op (some 3) (.mov (.k (.bool false)))])
 (.keep [0, 2] (.seq (.seq (.ops [.op (some 6) (.mov (.t 0)),
   .op (some 7) (.bin .eql (.t 6) (.k (.str [110, 117, 108, 108])))])
  (.keep [0, 2, 7] (.cond (.t 7)
  (.seq (.ops [.op (some 8) (.build [.int .i64 0, .int .i64 0, .str []] []),
    .op none (.store 3 (.t 2) (.t 8)),
    .op (some 3) (.mov (.k (.bool true)))])
   (.keep [2, 3] (.ret)))
  (.skip))))
 (.keep [0, 2] (.seq (.seq (.ops [.op (some 9) (.mov (.t 0)),
   .op (some 10) (.lenT (.t 9)),
   .op (some 4) (.mov (.t 10))])
  (.keep [0, 2, 4] (.seq (.ops [.op (some 11) (.mov (.t 4)),
   .op (some 12) (.bin .geq (.t 11) (.k (.int .i64 2))),
   .op (some 13) (.mov (.t 12)),
   .andor 17 true 2 13 [.op (some 14) (.mov (.t 0)), .op (some 15) (.idxS (.t 14) (.k (.int .i64 0))), .op (some 16) (.bin .eql (.t 15) (.k (.int .u8 39)))] (.t 16)])
  (.keep [0, 2, 4, 17] (.cond (.t 17)
  (.seq (.ops [.op (some 18) (.mov (.t 0)),
    .op (some 19) (.mov (.t 4)),
    .op (some 20) (.bin .sub (.t 19) (.k (.int .i64 1))),
    .op (some 21) (.slcT (.t 18) (some (.k (.int .i64 1))) (some (.t 20))),
    .op (some 22) (.build [.int .i64 0, .int .i64 0, .str []] [(0, 1, .k (.int .i64 2)), (2, 1, .t 21)]),
    .op (some 5) (.alloc [.int .i64 0, .int .i64 0, .str []]),
    .op none (.store 3 (.t 5) (.t 22))])
   (.keep [2, 5] (.seq (.drawE [[], [], [1], [0, 1, 2], [0, 1, 2, 3]] [.op (some 23) (.loadN 3 (.t 5)),
    .op (some 24) (.loadN 3 (.t 5)),
    .call (some 25) 86 [.t 24]]
    [.op none (.store 3 (.t 2) (.t 23)),
    .op (some 3) (.mov (.t 25))])
   (.keep [2, 3] (.ret)))))
  (.skip))))))
 (.keep [0, 2] (.seq (.ops [.op (some 26) (.mov (.t 0)),
   .call (some 27) 159 [.t 26],
   .op (some 28) (.ext (.t 27) 0),
   .op (some 29) (.ext (.t 27) 1),
   .op none (.store 3 (.t 2) (.t 28)),
   .op (some 3) (.mov (.t 29))])
 (.keep [2, 3] (.ret))))))))
theorem k_c_l10Value5_fits : fitsF Tryz.prog 162 ⟨30, k_c_l10Value5, [.cN 2 3, .t 3]⟩ = true := by kernel_rfl
theorem c_l10Value5  : Con Tryz.prog noMv 162 [str [53]] [] (fun r h => r = .tup [(vI 5).av, bool true] ∧ h = []) := by
 refine con_of2 k_c_l10Value5_fits rfl fun C hP hmv => ?_
 unfold k_c_l10Value5
 refine cx_seq ?_
 refine cx_ops ?_
 refine ax_e (e_alloc (by decide) rfl rfl) ?_
 refine ax_q (q_mov rfl) ?_
 refine ax_nil ?_
 refine cx_keep rfl rfl ?_
 refine cx_seq ?_
 refine cx_seq ?_
 refine cx_ops ?_
 refine ax_q (q_mov rfl) ?_
 refine ax_q (q_sbin rfl rfl rfl) ?_
 refine ax_nil ?_
 refine cx_keep rfl rfl ?_
 refine cx_cond rfl (fun h0 => ?_) (fun h0 => ?_)
 ·
  have h0 := dT h0
  exact absurd h0 (by decide)
 ·
  have h0 := dF h0
  refine cx_skip ?_
  refine cx_keep rfl rfl ?_
  refine cx_seq ?_
  refine cx_seq ?_
  refine cx_ops ?_
  refine ax_q (q_mov rfl) ?_
  refine ax_q (q_lenT rfl) ?_
  refine ax_q (q_mov rfl) ?_
  refine ax_nil ?_
  refine cx_keep rfl rfl ?_
  refine cx_seq ?_
  refine cx_ops ?_
  refine ax_q (q_mov rfl) ?_
  refine ax_q (q_ibin rfl rfl rfl) ?_
  refine ax_q (q_mov rfl) ?_
  apply ax_and rfl rfl
  ·
   intro g
   have g := dT g
   refine ax_q (q_mov rfl) ?_
   refine ax_q (q_idxN (n := 0) rfl rfl (by decide)) ?_
   refine ax_q (q_ibin rfl rfl rfl) ?_
   exact ax_nil ⟨rfl, by repeat (first | exact trivial | refine ⟨rfl, ?_⟩ | refine ⟨?_, ?_⟩)⟩
  refine ax_nil ?_
  refine cx_keep rfl rfl ?_
  refine cx_cond rfl (fun h1 => ?_) (fun h1 => ?_)
  ·
   have h1 := (fun h => And.intro (dT (and_T h).1) (dT (and_T h).2)) h1
   exact absurd h1.1 (by decide)
  ·
   have h1 := (fun h => (and_F h).imp dF dF) h1
   refine cx_skip ?_
   refine cx_keep rfl rfl ?_
   refine cx_seq ?_
   refine cx_ops ?_
   refine ax_q (q_mov rfl) ?_
   first | refine ax_call rfl (vc_pure0 (c_l10Number5  ) hP rfl rfl ?_) | refine ax_call rfl (vc_lend0 (c_l10Number5  ) hP (by repeat (first | exact lal_id _ rfl | exact LAL.nil | refine LAL.cons ?_ ?_ | exact la_id _ rfl | exact LA.lend (lend_whole rfl (by first | (simp; done) | (rw [List.length_map]; rfl))) | refine LA.agg ?_ | refine LA.fn ?_ | refine LA.lend ?_ | exact Lend.d _ | exact Lend.zs _ | exact lend_whole rfl (by first | (simp; done) | (rw [List.length_map]; rfl)) | refine Lend.ptr rfl ?_ | refine Lend.fn ?_ | exact LendL.nil | refine LendL.cons ?_ ?_)) rfl rfl ?_)
   refine ax_q (q_ext rfl rfl) ?_
   refine ax_q (q_ext rfl rfl) ?_
   refine ax_e (e_st rfl rfl rfl rfl rfl rfl rfl) ?_
   refine ax_q (q_mov rfl) ?_
   refine ax_nil ?_
   refine cx_keep rfl rfl ?_
   refine cx_ret (ret0 rfl rfl ?_)
   exact ⟨rfl, rfl⟩


/- (ptr loop.example/g00332/spec.l10Parser).primary -/
def k_c_qprim : XCode :=
 .seq (.ops [.op (some 2) (.mov (.k (.int .i64 0)))])
 (.keep [0] (.seq (.seq (.ops [.op (some 9) (.mov (.t 0)),
   .call (some 10) 96 [.t 9, .k (.str [40])]])
  (.keep [0, 10] (.cond (.t 10)
  (.seq (.ops [.op (some 11) (.mov (.t 0)),
    .call (some 12) 118 [.t 11, .k (.int .i64 1)]])
   (.keep [0] (.seq (.ops [.op (some 13) (.mov (.t 0)),
    .call (some 14) 67 [.t 13],
    .op (some 3) (.mov (.t 14))])
   (.keep [0, 3] (.seq (.ops [.op (some 15) (.mov (.t 0)),
    .call (some 16) 118 [.t 15, .k (.int .i64 (-1))]])
   (.keep [0, 3] (.seq (.seq (.ops [.op (some 17) (.mov (.t 0)),
     .call (some 18) 96 [.t 17, .k (.str [41])],
     .op (some 19) (.not (.t 18))])
   (.keep [0, 3, 19] (.cond (.t 19)
    (.ops [.op (some 20) (.mov (.t 0)),
     .call (some 21) 108 [.t 20, .k (.int .i64 3)]])
    (.skip))))
   (.keep [3] (.seq (.ops [.op (some 22) (.mov (.t 3)),
    .op (some 2) (.mov (.t 22))])
   (.keep [2] (.ret)))))))))))
  (.skip))))
 (.keep [0] (.seq (.ops [.op (some 23) (.mov (.t 0)),
   .call (some 24) 107 [.t 23],
   .op (some 4) (.mov (.t 24))])
 (.keep [0, 4] (.seq (.ops [.call (some 25) 53 [],
   .op (some 5) (.mov (.t 25))])
 (.keep [0, 4, 5] (.seq (.seq (.ops [.op (some 6) (.mov (.k (.int .i64 0)))])
  (.keep [0, 4, 5, 6] (.block 0 (.loop (.seq (.seq (.ops [.op (some 26) (.mov (.t 6)),
     .op (some 27) (.mov (.t 5)),
     .op (some 28) (.lenS (.t 27)),
     .op (some 29) (.bin .lss (.t 26) (.t 28))])
   (.keep [0, 4, 5, 6, 29] (.cond (.t 29)
    (.skip)
    (.exit 0))))
   (.keep [0, 4, 5, 6] (.seq (.block 1 (.seq (.ops [.op (some 32) (.mov (.t 0)),
     .op (some 33) (.mov (.t 5)),
     .op (some 34) (.mov (.t 6)),
     .op (some 35) (.iadr 1 (.t 33) (.t 34)),
     .op (some 36) (.load1 (.t 35)),
     .call (some 37) 96 [.t 32, .t 36]])
    (.keep [0, 4, 5, 6, 37] (.cond (.t 37)
    (.seq (.ops [.op (some 38) (.mov (.t 0)),
      .op (some 39) (.mov (.t 6)),
      .op (some 40) (.build [.int .i64 0, .int .i64 0, .int .i64 0, .int .i64 0, .int .i64 0, .int .i64 0, .str []] [(0, 1, .k (.int .i64 2)), (3, 1, .t 39)]),
      .call (some 41) 97 [.t 38, .t 40],
      .op (some 2) (.mov (.t 41))])
     (.keep [2] (.ret)))
    (.skip)))))
   (.keep [0, 4, 5, 6] (.ops [.op (some 30) (.mov (.t 6)),
    .op (some 31) (.bin .add (.t 30) (.k (.int .i64 1))),
    .op (some 6) (.mov (.t 31))])))))))))
 (.keep [0, 4] (.seq (.ops [.op (some 43) (.mov (.t 4)),
   .call (some 44) 162 [.t 43],
   .op (some 42) (.mov (.t 44)),
   .op (some 45) (.ext (.t 42) 0),
   .op (some 46) (.ext (.t 42) 1),
   .op (some 7) (.alloc [.int .i64 0, .int .i64 0, .str []]),
   .op none (.store 3 (.t 7) (.t 45)),
   .op (some 8) (.mov (.t 46))])
 (.keep [0, 7, 8] (.seq (.seq (.ops [.op (some 47) (.mov (.t 8)),
   .op (some 48) (.not (.t 47))])
  (.keep [0, 7, 48] (.cond (.t 48)
  (.seq (.ops [.op (some 49) (.mov (.t 0)),
    .call (some 50) 108 [.t 49, .k (.int .i64 3)]])
   (.keep [] (.seq (.ops [.op (some 2) (.mov (.k (.int .i64 0)))])
   (.keep [2] (.ret)))))
  (.skip))))
 (.keep [0, 7] (.seq (.ops [.op (some 51) (.mov (.t 0)),
   .op (some 52) (.nilck (.t 51)),
   .op (some 53) (.fadr (.t 52) 1),
   .op (some 54) (.load1 (.t 53)),
   .op (some 55) (.bin .add (.t 54) (.k (.int .i64 1))),
   .op (some 56) (.nilck (.t 51)),
   .op (some 57) (.fadr (.t 56) 1),
   .op none (.store 1 (.t 57) (.t 55))])
 (.keep [0, 7] (.seq (.ops [.op (some 58) (.mov (.t 0)),
   .op (some 59) (.loadN 3 (.t 7)),
   .op (some 60) (.build [.int .i64 0, .int .i64 0, .int .i64 0, .int .i64 0, .int .i64 0, .int .i64 0, .str []] [(0, 1, .k (.int .i64 1)), (4, 3, .t 59)]),
   .call (some 61) 97 [.t 58, .t 60],
   .op (some 2) (.mov (.t 61))])
 (.keep [2] (.ret))))))))))))))))))
theorem k_c_qprim_fits : fitsF Tryz.prog 158 ⟨62, k_c_qprim, [.t 2]⟩ = true := by kernel_rfl
set_option maxHeartbeats 8000000 in
theorem c_qprim {f : Nat} {s s' : PS} {tk0 : List Str} {k : Int} (hs : s.ok) (hu : s.tk <:+ tk0) (h0l : tk0.length ≤ 500) (ih : RQ Tryz.prog tk0 67 (qrs f 0)) (h : qrs (f + 1) 7 s = some (s', k)) : Con Tryz.prog (fun e => Nat.beq e 1001) 158 [.ptr 1000 0] [(1000, .box [.d (.sl 1 (tk0.map strRow)), int ((tk0.length - s.tk.length : Nat) : Int), .osl 1001 7 0 s.ns.length, int 0, int (s.op : Int)]), (1001, .rows 7 (s.ns.map GExprNode.row))] (fun r h => r = int k ∧ h = [(1000, .box [.d (.sl 1 (tk0.map strRow)), int ((tk0.length - s'.tk.length : Nat) : Int), .osl 1001 7 0 s'.ns.length, int 0, int (s'.op : Int)]), (1001, .rows 7 (s'.ns.map GExprNode.row))]) := by
 refine con_of2 k_c_qprim_fits rfl fun C hP hmv => ?_
 unfold k_c_qprim
 have hso := hs.o
 have hsl := su_len hu
 refine cx_seq ?_
 refine cx_ops ?_
 refine ax_q (q_mov rfl) ?_
 refine ax_nil ?_
 refine cx_keep rfl rfl ?_
 refine cx_seq ?_
 refine cx_seq ?_
 refine cx_ops ?_
 refine ax_q (q_mov rfl) ?_
 refine ax_call rfl (vcall_own (c_qtake (s := s) (tk0 := tk0) (t := [40]) hs hu h0l (by decide)) hP hmv false (fun e => bif Nat.beq e 1000 then 1000 else 1001) [1000, 1001] ⟨rfl, rfl, rfl, rfl, ⟨rfl, rfl, trivial⟩, rfl, rfl, rfl⟩ (.pass rfl rfl (.pass rfl rfl .nil)) ?_)
 rintro r h ⟨rfl, rfl⟩
 refine ⟨(fun e => bif Nat.beq e 1000 then 1000 else 1001), [], ⟨rfl, rfl, rfl, rfl, mem2 rfl rfl, rfl, rfl, fun h => absurd h Bool.false_ne_true⟩, ?_⟩
 try dsimp only [dpP]
 refine ax_nil ?_
 refine cx_keep rfl rfl ?_
 refine cx_cond rfl (fun h0 => ?_) (fun h0 => ?_)
 ·
  skip
  obtain ⟨s1, hw, h2, rfl⟩ := prQ_b h h0
  obtain ⟨ho, s2, h3, rfl⟩ := wiP_some hw
  have hs2 : PS.ok (⟨(dpP s 1).tk, s.ns, s.op + 1⟩ : PS) := ⟨(hs.dp 1).t, (hs.dp 1).n, hs.m, ho⟩
  obtain ⟨ok2, op2⟩ := qrs_ro f 0 (⟨(dpP s 1).tk, s.ns, s.op + 1⟩ : PS) s2 k hs2 h3
  have op2 : s2.op = s.op + 1 := op2
  have su2 : s2.tk <:+ tk0 := (qrs_su f 0 (⟨(dpP s 1).tk, s.ns, s.op + 1⟩ : PS) s2 k h3).trans (dp_su.trans hu)
  have ok3 : PS.ok ⟨s2.tk, s2.ns, s2.op - 1⟩ := ⟨ok2.t, ok2.n, ok2.m, by show s2.op - 1 ≤ 48; omega⟩
  have ho : s.op < 48 := ho
  rw [skP_t h0]
  refine cx_seq ?_
  refine cx_ops ?_
  refine ax_q (q_mov rfl) ?_
  refine ax_call rfl (vcall_own (c_deeper (s := dpP s 1) (tk0 := tk0) (o := s.op + 1) (d := 1) (show s.op ≤ 1000 by omega) (by omega) (by show (s.op : Int) + 1 = ((s.op + 1 : Nat) : Int); omega)) hP hmv false (fun e => bif Nat.beq e 1000 then 1000 else 1001) [1000, 1001] ⟨rfl, rfl, rfl, rfl, ⟨rfl, rfl, trivial⟩, rfl, rfl, rfl⟩ (.pass rfl rfl (.pass rfl rfl .nil)) ?_)
  rintro r h ⟨rfl, rfl⟩
  refine ⟨(fun e => bif Nat.beq e 1000 then 1000 else 1001), [], ⟨rfl, rfl, rfl, rfl, mem2 rfl rfl, rfl, rfl, fun h => absurd h Bool.false_ne_true⟩, ?_⟩
  try dsimp only [dpP]
  refine ax_nil ?_
  refine cx_keep rfl rfl ?_
  refine cx_seq ?_
  refine cx_ops ?_
  refine ax_q (q_mov rfl) ?_
  refine ax_call rfl (vcall_own (ih (⟨(dpP s 1).tk, s.ns, s.op + 1⟩ : PS) s2 k hs2 (dp_su.trans hu) h3) hP hmv false (fun e => bif Nat.beq e 1000 then 1000 else 1001) [1000, 1001] ⟨rfl, rfl, rfl, rfl, ⟨rfl, rfl, trivial⟩, rfl, rfl, rfl⟩ (.pass rfl rfl .nil) ?_)
  rintro r h ⟨rfl, rfl⟩
  refine ⟨(fun e => bif Nat.beq e 1000 then 1000 else 1001), [], ⟨rfl, rfl, rfl, rfl, mem2 rfl rfl, rfl, rfl, fun h => absurd h Bool.false_ne_true⟩, ?_⟩
  try dsimp only [dpP]
  refine ax_q (q_mov rfl) ?_
  refine ax_nil ?_
  refine cx_keep rfl rfl ?_
  refine cx_seq ?_
  refine cx_ops ?_
  refine ax_q (q_mov rfl) ?_
  refine ax_call rfl (vcall_own (c_deeper (s := s2) (tk0 := tk0) (o := s2.op - 1) (d := (-1)) (by omega) (by omega) (by omega)) hP hmv false (fun e => bif Nat.beq e 1000 then 1000 else 1001) [1000, 1001] ⟨rfl, rfl, rfl, rfl, ⟨rfl, rfl, trivial⟩, rfl, rfl, rfl⟩ (.pass rfl rfl (.pass rfl rfl .nil)) ?_)
  rintro r h ⟨rfl, rfl⟩
  refine ⟨(fun e => bif Nat.beq e 1000 then 1000 else 1001), [], ⟨rfl, rfl, rfl, rfl, mem2 rfl rfl, rfl, rfl, fun h => absurd h Bool.false_ne_true⟩, ?_⟩
  try dsimp only [dpP]
  refine ax_nil ?_
  refine cx_keep rfl rfl ?_
  refine cx_seq ?_
  refine cx_seq ?_
  refine cx_ops ?_
  refine ax_q (q_mov rfl) ?_
  refine ax_call rfl (vcall_own (c_qtake (s := (⟨s2.tk, s2.ns, s2.op - 1⟩ : PS)) (tk0 := tk0) (t := [41]) ok3 su2 h0l (by decide)) hP hmv false (fun e => bif Nat.beq e 1000 then 1000 else 1001) [1000, 1001] ⟨rfl, rfl, rfl, rfl, ⟨rfl, rfl, trivial⟩, rfl, rfl, rfl⟩ (.pass rfl rfl (.pass rfl rfl .nil)) ?_)
  rintro r h ⟨rfl, rfl⟩
  refine ⟨(fun e => bif Nat.beq e 1000 then 1000 else 1001), [], ⟨rfl, rfl, rfl, rfl, mem2 rfl rfl, rfl, rfl, fun h => absurd h Bool.false_ne_true⟩, ?_⟩
  try dsimp only [dpP]
  refine ax_q (q_not rfl) ?_
  refine ax_nil ?_
  refine cx_keep rfl rfl ?_
  refine cx_cond rfl (fun h1 => ?_) (fun h1 => ?_)
  ·
   have h1 := bT h1
   rw [h2] at h1; cases h1
  ·
   have h1 := bF h1
   rw [skP_t h2]
   refine cx_skip ?_
   refine cx_keep rfl rfl ?_
   refine cx_seq ?_
   refine cx_ops ?_
   refine ax_q (q_mov rfl) ?_
   refine ax_q (q_mov rfl) ?_
   refine ax_nil ?_
   refine cx_keep rfl rfl ?_
   refine cx_ret (retN id [1000, 1001] rfl rfl rfl rfl rfl ?_)
   exact ⟨rfl, rfl⟩
 ·
  skip
  obtain ⟨t, r, ht, hcase⟩ := prQ_t h h0
  rw [skP_f h0]
  have hhd : s.tk.headD [] = t := by rw [ht]; rfl
  have hl1 : s.tk.length = r.length + 1 := by rw [ht]; rfl
  refine cx_skip ?_
  refine cx_keep rfl rfl ?_
  refine cx_seq ?_
  refine cx_ops ?_
  refine ax_q (q_mov rfl) ?_
  first | refine ax_call rfl (vc_pure0 (c_qnext (s := s) (tk0 := tk0) ?_ ?_ ?_) hP rfl rfl ?_) | refine ax_call rfl (vc_lend0 (c_qnext (s := s) (tk0 := tk0) ?_ ?_ ?_) hP (by repeat (first | exact lal_id _ rfl | exact LAL.nil | refine LAL.cons ?_ ?_ | exact la_id _ rfl | exact LA.lend (lend_whole rfl (by first | (simp; done) | (rw [List.length_map]; rfl))) | refine LA.agg ?_ | refine LA.fn ?_ | refine LA.lend ?_ | exact Lend.d _ | exact Lend.zs _ | exact lend_whole rfl (by first | (simp; done) | (rw [List.length_map]; rfl)) | refine Lend.ptr rfl ?_ | refine Lend.fn ?_ | exact LendL.nil | refine LendL.cons ?_ ?_)) rfl rfl ?_)
  ·
   first | assumption | omega | (simp; done) | (simp; omega)
  ·
   first | assumption | omega | (simp; done) | (simp; omega)
  ·
   first | assumption | omega | (simp; done) | (simp; omega)
  rw [hhd]
  refine ax_q (q_mov rfl) ?_
  refine ax_nil ?_
  refine cx_keep rfl rfl ?_
  refine cx_seq ?_
  refine cx_ops ?_
  first | refine ax_call rfl (vc_pure (c_l10Columns  ) hP rfl ?_) | refine ax_call rfl (vc_lend (c_l10Columns  ) hP (by repeat (first | exact lal_id _ rfl | exact LAL.nil | refine LAL.cons ?_ ?_ | exact la_id _ rfl | exact LA.lend (lend_whole rfl (by first | (simp; done) | (rw [List.length_map]; rfl))) | refine LA.agg ?_ | refine LA.fn ?_ | refine LA.lend ?_ | exact Lend.d _ | exact Lend.zs _ | exact lend_whole rfl (by first | (simp; done) | (rw [List.length_map]; rfl)) | refine Lend.ptr rfl ?_ | refine Lend.fn ?_ | exact LendL.nil | refine LendL.cons ?_ ?_)) ?_)
  rintro r h ⟨rfl, rfl⟩
  refine ⟨fun i => 25 + 200 * i, [0], ⟨rfl, rfl, rfl, rfl, rfl, (by first | exact (fun h => absurd h Bool.false_ne_true) | exact (fun _ => ⟨rfl, (noisl_of (by repeat (first | exact trivial | refine ⟨noisl_map (fun _ => rfl), ?_⟩ | refine ⟨?_, ?_⟩)))⟩))⟩, ?_⟩
  skip
  refine ax_q (q_mov rfl) ?_
  refine ax_nil ?_
  refine cx_keep rfl rfl ?_
  refine cx_seq ?_
  refine cx_seq ?_
  refine cx_ops ?_
  refine ax_q (q_mov rfl) ?_
  refine ax_nil ?_
  refine cx_keep rfl rfl ?_
  refine cx_block ?_
  refine cx_loopU (fun n (i : Nat) => i ≤ 3 ∧ n = 3 - i ∧ ∀ j, j < i → isP s.tk [colsL.getD j []] = false) (fun i => [(6, int i)]) (fun _ => (25, .rows 1 (colsL.map strRow)) :: [(1000, .box [.d (.sl 1 (tk0.map strRow)), int ((tk0.length - s.tk.length : Nat) : Int), .osl 1001 7 0 s.ns.length, int 0, int (s.op : Int)]), (1001, .rows 7 (s.ns.map GExprNode.row))]) ⟨_, 0, ⟨by decide, rfl, fun j hj => absurd hj (Nat.not_lt_zero _)⟩, by repeat (first | exact trivial | refine ⟨rfl, ?_⟩ | refine ⟨?_, ?_⟩)⟩ ?_
  rintro n i ⟨hi, rfl, hb⟩
  refine cx_seq ?_
  refine cx_seq ?_
  refine cx_ops ?_
  refine ax_q (q_mov rfl) ?_
  refine ax_q (q_mov rfl) ?_
  first | refine ax_q (q_lenS_map rfl) ?_ | refine ax_q (q_lenS_osl rfl) ?_ | refine ax_q (q_lenS_zs rfl) ?_ | refine ax_q (q_lenS rfl) ?_
  refine ax_q (q_ibin rfl rfl rfl) ?_
  refine ax_nil ?_
  refine cx_keep rfl rfl ?_
  refine cx_cond rfl (fun h2 => ?_) (fun h2 => ?_)
  ·
   have h2 := dT h2
   have hi3 : i < 3 := by omega
   refine cx_skip ?_
   refine cx_keep rfl rfl ?_
   refine cx_seq ?_
   refine cx_block ?_
   refine cx_seq ?_
   refine cx_ops ?_
   refine ax_q (q_mov rfl) ?_
   refine ax_q (q_mov rfl) ?_
   refine ax_q (q_mov rfl) ?_
   refine ax_q (q_ixo rfl rfl (by omega)) ?_
   refine ax_q (q_load1_rptr rfl rfl (cols_atN hi3) rfl) ?_
   refine ax_call rfl (vcall_own (c_qtake (s := s) (tk0 := tk0) (t := colsL.getD i []) hs hu h0l (cols_ne hi3)) hP hmv false (fun e => bif Nat.beq e 1000 then 1000 else 1001) [1000, 1001] ⟨rfl, rfl, rfl, rfl, ⟨rfl, rfl, trivial⟩, rfl, rfl, rfl⟩ (.pass rfl rfl (.pass rfl rfl .nil)) ?_)
   rintro r h ⟨rfl, rfl⟩
   refine ⟨(fun e => bif Nat.beq e 1000 then 1000 else 1001), [], ⟨rfl, rfl, rfl, rfl, mem2 rfl rfl, rfl, rfl, fun h => absurd h Bool.false_ne_true⟩, ?_⟩
   try dsimp only [dpP]
   refine ax_nil ?_
   refine cx_keep rfl rfl ?_
   refine cx_cond rfl (fun h3 => ?_) (fun h3 => ?_)
   ·
    skip
    have hci : colP t = (i : Int) := col_some ht hi3 h3
    have hn : ndP (dpP s 1) ⟨2, 0, 0, (i : Int), GValue.zero⟩ = some (s', k) := hcase.elim (fun g => by rw [← hci]; exact g.2) (fun g => absurd g.1 (by omega))
    rw [skP_t h3]
    refine cx_seq ?_
    refine cx_ops ?_
    refine ax_q (q_mov rfl) ?_
    refine ax_q (q_mov rfl) ?_
    refine ax_q (q_build rfl) ?_
    refine ax_call rfl (vcall_own (c_qput (n := ⟨2, 0, 0, (i : Int), GValue.zero⟩) (hs.dp 1) (dp_su.trans hu) h0l hn) hP hmv false (fun e => bif Nat.beq e 1000 then 1000 else 1001) [1000, 1001] ⟨rfl, rfl, rfl, rfl, ⟨rfl, rfl, trivial⟩, rfl, rfl, rfl⟩ (.pass rfl rfl (.pass rfl rfl .nil)) ?_)
    rintro r h ⟨rfl, rfl⟩
    refine ⟨(fun e => bif Nat.beq e 1000 then 1000 else 1001), [], ⟨rfl, rfl, rfl, rfl, mem2 rfl rfl, rfl, rfl, fun h => absurd h Bool.false_ne_true⟩, ?_⟩
    try dsimp only [dpP]
    refine ax_q (q_mov rfl) ?_
    refine ax_nil ?_
    refine cx_keep rfl rfl ?_
    refine cx_ret (retN id [1000, 1001] rfl rfl rfl rfl rfl ?_)
    exact ⟨rfl, rfl⟩
   ·
    skip
    rw [skP_f h3]
    refine cx_skip ?_
    refine cx_keep rfl rfl ?_
    refine cx_ops ?_
    refine ax_q (q_mov rfl) ?_
    refine ax_qe (r' := int ((i + 1 : Nat) : Int)) (q_ibin rfl rfl rfl) (by rw [wi (by omega) (by omega)]; rfl) ?_
    refine ax_q (q_mov rfl) ?_
    refine ax_nil ?_
    exact ⟨_, i + 1, by omega, ⟨by omega, rfl, fun j hj => if e : j < i then hb j e else by rw [show j = i by omega]; exact h3⟩, by repeat (first | exact trivial | refine ⟨rfl, ?_⟩ | refine ⟨?_, ?_⟩)⟩
  ·
   have h2 := dF h2
   obtain rfl : i = 3 := by omega
   have hc : colP t < 0 := col_none ht hb
   obtain ⟨h5, hn⟩ : t = [53] ∧ ndP (dpP s 1) ⟨1, 0, 0, 0, vI 5⟩ = some (s', k) := hcase.elim (fun g => absurd g.1 (by omega)) (fun g => g.2)
   subst h5
   refine cx_exit rfl ?_
   refine cx_keep rfl rfl ?_
   refine cx_seq ?_
   refine cx_ops ?_
   refine ax_q (q_mov rfl) ?_
   first | refine ax_call rfl (vc_pure0 (c_l10Value5  ) hP rfl rfl ?_) | refine ax_call rfl (vc_lend0 (c_l10Value5  ) hP (by repeat (first | exact lal_id _ rfl | exact LAL.nil | refine LAL.cons ?_ ?_ | exact la_id _ rfl | exact LA.lend (lend_whole rfl (by first | (simp; done) | (rw [List.length_map]; rfl))) | refine LA.agg ?_ | refine LA.fn ?_ | refine LA.lend ?_ | exact Lend.d _ | exact Lend.zs _ | exact lend_whole rfl (by first | (simp; done) | (rw [List.length_map]; rfl)) | refine Lend.ptr rfl ?_ | refine Lend.fn ?_ | exact LendL.nil | refine LendL.cons ?_ ?_)) rfl rfl ?_)
   refine ax_q (q_mov rfl) ?_
   refine ax_q (q_ext rfl rfl) ?_
   refine ax_q (q_ext rfl rfl) ?_
   refine ax_e (e_alloc (by decide) rfl rfl) ?_
   refine ax_e (e_st rfl rfl rfl rfl rfl rfl rfl) ?_
   refine ax_q (q_mov rfl) ?_
   refine ax_nil ?_
   refine cx_keep rfl rfl ?_
   refine cx_seq ?_
   refine cx_seq ?_
   refine cx_ops ?_
   refine ax_q (q_mov rfl) ?_
   refine ax_q (q_not rfl) ?_
   refine ax_nil ?_
   refine cx_keep rfl rfl ?_
   refine cx_cond rfl (fun h4 => ?_) (fun h4 => ?_)
   ·
    have h4 := bT h4
    cases h4
   ·
    have h4 := bF h4
    refine cx_skip ?_
    refine cx_keep rfl rfl ?_
    refine cx_seq ?_
    refine cx_ops ?_
    refine ax_q (q_mov rfl) ?_
    first | refine ax_q (q_nilck_ptr rfl) ?_ | refine ax_q (q_nilck_rptr rfl) ?_ | refine ax_q (q_nilck_ip rfl) ?_
    first | refine ax_q (q_fadr_ptr rfl) ?_ | refine ax_q (q_fadr_rptr rfl) ?_ | refine ax_q (q_fadr_ip rfl) ?_
    first | refine ax_q (q_load1_ptr rfl rfl rfl) ?_ | refine ax_q (q_load1_ip rfl) ?_ | refine ax_q (q_load1_rptr rfl rfl rfl rfl) ?_ | refine ax_q (q_load1_rptr rfl rfl (by assumption) rfl) ?_ | refine ax_q (q_load1_rptr rfl rfl (mapAt (by first | assumption | omega)) rfl) ?_
    refine ax_qe (r' := int ((tk0.length - (s.tk.drop 1).length : Nat) : Int)) (q_ibin rfl rfl rfl) (by rw [wi (by omega) (by omega)]; rw [List.length_drop]; exact congrArg AM.int (by omega)) ?_
    first | refine ax_q (q_nilck_ptr rfl) ?_ | refine ax_q (q_nilck_rptr rfl) ?_ | refine ax_q (q_nilck_ip rfl) ?_
    first | refine ax_q (q_fadr_ptr rfl) ?_ | refine ax_q (q_fadr_rptr rfl) ?_ | refine ax_q (q_fadr_ip rfl) ?_
    refine ax_e (e_st rfl rfl rfl rfl rfl rfl rfl) ?_
    refine ax_nil ?_
    refine cx_keep rfl rfl ?_
    refine cx_seq ?_
    refine cx_ops ?_
    refine ax_q (q_mov rfl) ?_
    refine ax_q (q_ldN rfl rfl rfl) ?_
    refine ax_q (q_build rfl) ?_
    refine ax_call rfl (vcall_own (c_qput (n := ⟨1, 0, 0, 0, vI 5⟩) (hs.dp 1) (dp_su.trans hu) h0l hn) hP hmv false (fun e => bif Nat.beq e 1000 then 1000 else 1001) [1000, 1001] ⟨rfl, rfl, rfl, rfl, ⟨rfl, rfl, trivial⟩, rfl, rfl, rfl⟩ (.pass rfl rfl (.pass rfl rfl .nil)) ?_)
    rintro r h ⟨rfl, rfl⟩
    refine ⟨(fun e => bif Nat.beq e 1000 then 1000 else 1001), [], ⟨rfl, rfl, rfl, rfl, mem2 rfl rfl, rfl, rfl, fun h => absurd h Bool.false_ne_true⟩, ?_⟩
    try dsimp only [dpP]
    refine ax_q (q_mov rfl) ?_
    refine ax_nil ?_
    refine cx_keep rfl rfl ?_
    refine cx_ret (retN id [1000, 1001] rfl rfl rfl rfl rfl ?_)
    exact ⟨rfl, rfl⟩


/- (ptr loop.example/g00332/spec.l10Parser).unary -/
def k_c_qun : XCode :=
 .seq (.ops [.op (some 2) (.mov (.k (.int .i64 0)))])
 (.keep [0] (.seq (.seq (.ops [.op (some 6) (.mov (.t 0)),
   .call (some 7) 96 [.t 6, .k (.str [45])],
   .op (some 8) (.not (.t 7))])
  (.keep [0, 8] (.cond (.t 8)
  (.seq (.ops [.op (some 9) (.mov (.t 0)),
    .call (some 10) 158 [.t 9],
    .op (some 2) (.mov (.t 10))])
   (.keep [2] (.ret)))
  (.skip))))
 (.keep [0] (.seq (.seq (.ops [.op (some 12) (.mov (.t 0)),
   .call (some 13) 107 [.t 12],
   .op (some 14) (.bin .add (.k (.str [45])) (.t 13)),
   .call (some 15) 159 [.t 14],
   .op (some 11) (.mov (.t 15)),
   .op (some 16) (.ext (.t 11) 0),
   .op (some 17) (.ext (.t 11) 1),
   .op (some 3) (.alloc [.int .i64 0, .int .i64 0, .str []]),
   .op none (.store 3 (.t 3) (.t 16)),
   .op (some 4) (.mov (.t 17))])
  (.keep [0, 3, 4] (.seq (.ops [.op (some 18) (.mov (.t 4))])
  (.keep [0, 3, 18] (.cond (.t 18)
  (.seq (.ops [.op (some 19) (.mov (.t 0)),
    .op (some 20) (.nilck (.t 19)),
    .op (some 21) (.fadr (.t 20) 1),
    .op (some 22) (.load1 (.t 21)),
    .op (some 23) (.bin .add (.t 22) (.k (.int .i64 1))),
    .op (some 24) (.nilck (.t 19)),
    .op (some 25) (.fadr (.t 24) 1),
    .op none (.store 1 (.t 25) (.t 23))])
   (.keep [0, 3] (.seq (.ops [.op (some 26) (.mov (.t 0)),
    .op (some 27) (.loadN 3 (.t 3)),
    .op (some 28) (.build [.int .i64 0, .int .i64 0, .int .i64 0, .int .i64 0, .int .i64 0, .int .i64 0, .str []] [(0, 1, .k (.int .i64 1)), (4, 3, .t 27)]),
    .call (some 29) 97 [.t 26, .t 28],
    .op (some 2) (.mov (.t 29))])
   (.keep [2] (.ret)))))
  (.skip))))))
 (.keep [0] (.seq (.ops [.op (some 30) (.mov (.t 0)),
   .call (some 31) 118 [.t 30, .k (.int .i64 1)]])
 (.keep [0] (.seq (.ops [.op (some 32) (.mov (.t 0)),
   .call (some 33) 151 [.t 32],
   .op (some 5) (.mov (.t 33))])
 (.keep [0, 5] (.seq (.ops [.op (some 34) (.mov (.t 0)),
   .call (some 35) 118 [.t 34, .k (.int .i64 (-1))]])
 (.keep [0, 5] (.seq (.ops [.op (some 36) (.mov (.t 0)),
   .op (some 37) (.mov (.t 5)),
   .op (some 38) (.build [.int .i64 0, .int .i64 0, .int .i64 0, .int .i64 0, .int .i64 0, .int .i64 0, .str []] [(0, 1, .k (.int .i64 5)), (1, 1, .t 37)]),
   .call (some 39) 97 [.t 36, .t 38],
   .op (some 2) (.mov (.t 39))])
 (.keep [2] (.ret))))))))))))))
theorem k_c_qun_fits : fitsF Tryz.prog 151 ⟨40, k_c_qun, [.t 2]⟩ = true := by kernel_rfl
theorem c_qun {f : Nat} {s s' : PS} {tk0 : List Str} {k : Int} (hs : s.ok) (hu : s.tk <:+ tk0) (h0l : tk0.length ≤ 500) (ih : RQ Tryz.prog tk0 158 (qrs f 7)) (h : qrs (f + 1) 6 s = some (s', k)) : Con Tryz.prog (fun e => Nat.beq e 1001) 151 [.ptr 1000 0] [(1000, .box [.d (.sl 1 (tk0.map strRow)), int ((tk0.length - s.tk.length : Nat) : Int), .osl 1001 7 0 s.ns.length, int 0, int (s.op : Int)]), (1001, .rows 7 (s.ns.map GExprNode.row))] (fun r h => r = int k ∧ h = [(1000, .box [.d (.sl 1 (tk0.map strRow)), int ((tk0.length - s'.tk.length : Nat) : Int), .osl 1001 7 0 s'.ns.length, int 0, int (s'.op : Int)]), (1001, .rows 7 (s'.ns.map GExprNode.row))]) := by
 refine con_of2 k_c_qun_fits rfl fun C hP hmv => ?_
 unfold k_c_qun
 obtain ⟨hn, hc⟩ := ahQ_some h
 refine cx_seq ?_
 refine cx_ops ?_
 refine ax_q (q_mov rfl) ?_
 refine ax_nil ?_
 refine cx_keep rfl rfl ?_
 refine cx_seq ?_
 refine cx_seq ?_
 refine cx_ops ?_
 refine ax_q (q_mov rfl) ?_
 refine ax_call rfl (vcall_own (c_qtake (s := s) (tk0 := tk0) (t := [45]) hs hu h0l (by decide)) hP hmv false (fun e => bif Nat.beq e 1000 then 1000 else 1001) [1000, 1001] ⟨rfl, rfl, rfl, rfl, ⟨rfl, rfl, trivial⟩, rfl, rfl, rfl⟩ (.pass rfl rfl (.pass rfl rfl .nil)) ?_)
 rintro r h ⟨rfl, rfl⟩
 refine ⟨(fun e => bif Nat.beq e 1000 then 1000 else 1001), [], ⟨rfl, rfl, rfl, rfl, mem2 rfl rfl, rfl, rfl, fun h => absurd h Bool.false_ne_true⟩, ?_⟩
 try dsimp only [dpP]
 refine ax_q (q_not rfl) ?_
 refine ax_nil ?_
 refine cx_keep rfl rfl ?_
 refine cx_cond rfl (fun h0 => ?_) (fun h0 => ?_)
 ·
  have h0 := bT h0
  rw [skP_f hn]
  refine cx_seq ?_
  refine cx_ops ?_
  refine ax_q (q_mov rfl) ?_
  refine ax_call rfl (vcall_own (ih s _ k hs hu hc) hP hmv false (fun e => bif Nat.beq e 1000 then 1000 else 1001) [1000, 1001] ⟨rfl, rfl, rfl, rfl, ⟨rfl, rfl, trivial⟩, rfl, rfl, rfl⟩ (.pass rfl rfl .nil) ?_)
  rintro r h ⟨rfl, rfl⟩
  refine ⟨(fun e => bif Nat.beq e 1000 then 1000 else 1001), [], ⟨rfl, rfl, rfl, rfl, mem2 rfl rfl, rfl, rfl, fun h => absurd h Bool.false_ne_true⟩, ?_⟩
  try dsimp only [dpP]
  refine ax_q (q_mov rfl) ?_
  refine ax_nil ?_
  refine cx_keep rfl rfl ?_
  refine cx_ret (retN id [1000, 1001] rfl rfl rfl rfl rfl ?_)
  exact ⟨rfl, rfl⟩
 ·
  have h0 := bF h0
  rw [hn] at h0; cases h0


/- (ptr loop.example/g00332/spec.l10Parser).product -/
def k_c_qprod : XCode :=
 .seq (.ops [.op (some 2) (.mov (.k (.int .i64 0)))])
 (.keep [0] (.seq (.ops [.op (some 6) (.mov (.t 0)),
   .call (some 7) 151 [.t 6],
   .op (some 3) (.mov (.t 7))])
 (.keep [0, 3] (.block 0 (.loop (.block 1 (.seq (.ops [.op (some 4) (.mov (.k (.int .i64 0)))])
   (.keep [0, 3, 4] (.seq (.seq (.ops [.op (some 8) (.mov (.t 0)),
     .call (some 9) 96 [.t 8, .k (.str [42])]])
   (.keep [0, 3, 4, 9] (.cond (.t 9)
    (.ops [.op (some 4) (.mov (.k (.int .i64 8)))])
    (.seq (.ops [.op (some 10) (.mov (.t 0)),
      .call (some 11) 96 [.t 10, .k (.str [47])]])
    (.keep [0, 3, 4, 11] (.cond (.t 11)
     (.ops [.op (some 4) (.mov (.k (.int .i64 9)))])
     (.skip)))))))
   (.keep [0, 3, 4] (.seq (.seq (.ops [.op (some 12) (.mov (.t 4)),
     .op (some 13) (.bin .eql (.t 12) (.k (.int .i64 0)))])
   (.keep [0, 3, 4, 13] (.cond (.t 13)
    (.seq (.ops [.op (some 14) (.mov (.t 3)),
      .op (some 2) (.mov (.t 14))])
    (.keep [2] (.ret)))
    (.skip))))
   (.keep [0, 3, 4] (.seq (.ops [.op (some 15) (.mov (.t 0)),
    .call (some 16) 151 [.t 15],
    .op (some 5) (.mov (.t 16))])
   (.keep [0, 3, 4, 5] (.ops [.op (some 17) (.mov (.t 0)),
    .op (some 18) (.mov (.t 4)),
    .op (some 19) (.mov (.t 3)),
    .op (some 20) (.mov (.t 5)),
    .op (some 21) (.build [.int .i64 0, .int .i64 0, .int .i64 0, .int .i64 0, .int .i64 0, .int .i64 0, .str []] [(0, 1, .t 18), (1, 1, .t 19), (2, 1, .t 20)]),
    .call (some 22) 97 [.t 17, .t 21],
    .op (some 3) (.mov (.t 22))])))))))))))))))
theorem k_c_qprod_fits : fitsF Tryz.prog 138 ⟨23, k_c_qprod, [.t 2]⟩ = true := by kernel_rfl
set_option maxHeartbeats 4000000 in
theorem c_qprod {f : Nat} {s s' : PS} {tk0 : List Str} {k : Int} (hs : s.ok) (hu : s.tk <:+ tk0) (h0l : tk0.length ≤ 500) (ih : RQ Tryz.prog tk0 151 (qrs f 6)) (h : qrs (f + 1) 5 s = some (s', k)) : Con Tryz.prog (fun e => Nat.beq e 1001) 138 [.ptr 1000 0] [(1000, .box [.d (.sl 1 (tk0.map strRow)), int ((tk0.length - s.tk.length : Nat) : Int), .osl 1001 7 0 s.ns.length, int 0, int (s.op : Int)]), (1001, .rows 7 (s.ns.map GExprNode.row))] (fun r h => r = int k ∧ h = [(1000, .box [.d (.sl 1 (tk0.map strRow)), int ((tk0.length - s'.tk.length : Nat) : Int), .osl 1001 7 0 s'.ns.length, int 0, int (s'.op : Int)]), (1001, .rows 7 (s'.ns.map GExprNode.row))]) := by
 refine con_of2 k_c_qprod_fits rfl fun C hP hmv => ?_
 unfold k_c_qprod
 obtain ⟨s1, l, h1, hj⟩ := joP_some h
 obtain ⟨ok1, op1⟩ := qrs_ro f 6 _ _ _ hs h1
 have su1 := (qrs_su f 6 _ _ _ h1).trans hu
 refine cx_seq ?_
 refine cx_ops ?_
 refine ax_q (q_mov rfl) ?_
 refine ax_nil ?_
 refine cx_keep rfl rfl ?_
 refine cx_seq ?_
 refine cx_ops ?_
 refine ax_q (q_mov rfl) ?_
 refine ax_call rfl (vcall_own (ih s s1 l hs hu h1) hP hmv false (fun e => bif Nat.beq e 1000 then 1000 else 1001) [1000, 1001] ⟨rfl, rfl, rfl, rfl, ⟨rfl, rfl, trivial⟩, rfl, rfl, rfl⟩ (.pass rfl rfl .nil) ?_)
 rintro r h ⟨rfl, rfl⟩
 refine ⟨(fun e => bif Nat.beq e 1000 then 1000 else 1001), [], ⟨rfl, rfl, rfl, rfl, mem2 rfl rfl, rfl, rfl, fun h => absurd h Bool.false_ne_true⟩, ?_⟩
 try dsimp only [dpP]
 refine ax_q (q_mov rfl) ?_
 refine ax_nil ?_
 refine cx_keep rfl rfl ?_
 refine cx_block ?_
 refine cx_loopU (fun n (p : Nat × PS × Int) => n = p.1 ∧ p.2.1.ok ∧ p.2.1.tk <:+ tk0 ∧ joL (qrs f 6) [8, 9] p.1 p.2.1 p.2.2 = some (s', k)) (fun p => [(3, int p.2.2)]) (fun p => [(1000, .box [.d (.sl 1 (tk0.map strRow)), int ((tk0.length - p.2.1.tk.length : Nat) : Int), .osl 1001 7 0 p.2.1.ns.length, int 0, int (p.2.1.op : Int)]), (1001, .rows 7 (p.2.1.ns.map GExprNode.row))]) ⟨_, (f, s1, l), ⟨rfl, ok1, su1, hj⟩, by repeat (first | exact trivial | refine ⟨rfl, ?_⟩ | refine ⟨?_, ?_⟩)⟩ ?_
 rintro n ⟨fu, c, lf⟩ ⟨rfl, okc, suc, hjc⟩
 obtain ⟨fu, rfl⟩ := joL_pos hjc
 simp only at okc suc hjc ⊢
 refine cx_block ?_
 refine cx_seq ?_
 refine cx_ops ?_
 refine ax_q (q_mov rfl) ?_
 refine ax_nil ?_
 refine cx_keep rfl rfl ?_
 refine cx_seq ?_
 refine cx_seq ?_
 refine cx_ops ?_
 refine ax_q (q_mov rfl) ?_
 refine ax_call rfl (vcall_own (c_qtake (s := c) (tk0 := tk0) (t := [42]) okc suc h0l (by decide)) hP hmv false (fun e => bif Nat.beq e 1000 then 1000 else 1001) [1000, 1001] ⟨rfl, rfl, rfl, rfl, ⟨rfl, rfl, trivial⟩, rfl, rfl, rfl⟩ (.pass rfl rfl (.pass rfl rfl .nil)) ?_)
 rintro r h ⟨rfl, rfl⟩
 refine ⟨(fun e => bif Nat.beq e 1000 then 1000 else 1001), [], ⟨rfl, rfl, rfl, rfl, mem2 rfl rfl, rfl, rfl, fun h => absurd h Bool.false_ne_true⟩, ?_⟩
 try dsimp only [dpP]
 refine ax_nil ?_
 refine cx_keep rfl rfl ?_
 refine cx_cond rfl (fun h0 => ?_) (fun h0 => ?_)
 ·
  skip
  obtain ⟨s2, r, s3, k3, hr, hn, hj3⟩ := joL_more hjc (pk2_a (by decide) h0) (by decide)
  obtain ⟨ok2, op2⟩ := qrs_ro f 6 _ _ _ (okc.dp 1) hr
  have su2 := (qrs_su f 6 _ _ _ hr).trans (dp_su.trans suc)
  have ok3 := ok2.nd hn
  have su3 := (nd_su hn).trans su2
  rw [skP_t h0]
  refine cx_ops ?_
  refine ax_q (q_mov rfl) ?_
  refine ax_nil ?_
  refine cx_keep rfl rfl ?_
  refine cx_seq ?_
  refine cx_seq ?_
  refine cx_ops ?_
  refine ax_q (q_mov rfl) ?_
  refine ax_q (q_ibin rfl rfl rfl) ?_
  refine ax_nil ?_
  refine cx_keep rfl rfl ?_
  refine cx_cond rfl (fun h2 => ?_) (fun h2 => ?_)
  ·
   have h2 := dT h2
   exact absurd h2 (by decide)
  ·
   have h2 := dF h2
   refine cx_skip ?_
   refine cx_keep rfl rfl ?_
   refine cx_seq ?_
   refine cx_ops ?_
   refine ax_q (q_mov rfl) ?_
   refine ax_call rfl (vcall_own (ih _ s2 r (okc.dp 1) (dp_su.trans suc) hr) hP hmv false (fun e => bif Nat.beq e 1000 then 1000 else 1001) [1000, 1001] ⟨rfl, rfl, rfl, rfl, ⟨rfl, rfl, trivial⟩, rfl, rfl, rfl⟩ (.pass rfl rfl .nil) ?_)
   rintro r h ⟨rfl, rfl⟩
   refine ⟨(fun e => bif Nat.beq e 1000 then 1000 else 1001), [], ⟨rfl, rfl, rfl, rfl, mem2 rfl rfl, rfl, rfl, fun h => absurd h Bool.false_ne_true⟩, ?_⟩
   try dsimp only [dpP]
   refine ax_q (q_mov rfl) ?_
   refine ax_nil ?_
   refine cx_keep rfl rfl ?_
   refine cx_ops ?_
   refine ax_q (q_mov rfl) ?_
   refine ax_q (q_mov rfl) ?_
   refine ax_q (q_mov rfl) ?_
   refine ax_q (q_mov rfl) ?_
   refine ax_q (q_build rfl) ?_
   refine ax_call rfl (vcall_own (c_qput (n := nd 8 lf r) ok2 su2 h0l hn) hP hmv false (fun e => bif Nat.beq e 1000 then 1000 else 1001) [1000, 1001] ⟨rfl, rfl, rfl, rfl, ⟨rfl, rfl, trivial⟩, rfl, rfl, rfl⟩ (.pass rfl rfl (.pass rfl rfl .nil)) ?_)
   rintro r h ⟨rfl, rfl⟩
   refine ⟨(fun e => bif Nat.beq e 1000 then 1000 else 1001), [], ⟨rfl, rfl, rfl, rfl, mem2 rfl rfl, rfl, rfl, fun h => absurd h Bool.false_ne_true⟩, ?_⟩
   try dsimp only [dpP]
   refine ax_q (q_mov rfl) ?_
   refine ax_nil ?_
   exact ⟨_, (fu, s3, k3), by simp only; omega, ⟨rfl, ok3, su3, hj3⟩, by repeat (first | exact trivial | refine ⟨rfl, ?_⟩ | refine ⟨?_, ?_⟩)⟩
 ·
  skip
  rw [skP_f h0]
  refine cx_seq ?_
  refine cx_ops ?_
  refine ax_q (q_mov rfl) ?_
  refine ax_call rfl (vcall_own (c_qtake (s := c) (tk0 := tk0) (t := [47]) okc suc h0l (by decide)) hP hmv false (fun e => bif Nat.beq e 1000 then 1000 else 1001) [1000, 1001] ⟨rfl, rfl, rfl, rfl, ⟨rfl, rfl, trivial⟩, rfl, rfl, rfl⟩ (.pass rfl rfl (.pass rfl rfl .nil)) ?_)
  rintro r h ⟨rfl, rfl⟩
  refine ⟨(fun e => bif Nat.beq e 1000 then 1000 else 1001), [], ⟨rfl, rfl, rfl, rfl, mem2 rfl rfl, rfl, rfl, fun h => absurd h Bool.false_ne_true⟩, ?_⟩
  try dsimp only [dpP]
  refine ax_nil ?_
  refine cx_keep rfl rfl ?_
  refine cx_cond rfl (fun h1 => ?_) (fun h1 => ?_)
  ·
   skip
   obtain ⟨s2, r, s3, k3, hr, hn, hj3⟩ := joL_more hjc (pk2_b h0 h1) (by decide)
   obtain ⟨ok2, op2⟩ := qrs_ro f 6 _ _ _ (okc.dp 1) hr
   have su2 := (qrs_su f 6 _ _ _ hr).trans (dp_su.trans suc)
   have ok3 := ok2.nd hn
   have su3 := (nd_su hn).trans su2
   rw [skP_t h1]
   refine cx_ops ?_
   refine ax_q (q_mov rfl) ?_
   refine ax_nil ?_
   refine cx_keep rfl rfl ?_
   refine cx_seq ?_
   refine cx_seq ?_
   refine cx_ops ?_
   refine ax_q (q_mov rfl) ?_
   refine ax_q (q_ibin rfl rfl rfl) ?_
   refine ax_nil ?_
   refine cx_keep rfl rfl ?_
   refine cx_cond rfl (fun h2 => ?_) (fun h2 => ?_)
   ·
    have h2 := dT h2
    exact absurd h2 (by decide)
   ·
    have h2 := dF h2
    refine cx_skip ?_
    refine cx_keep rfl rfl ?_
    refine cx_seq ?_
    refine cx_ops ?_
    refine ax_q (q_mov rfl) ?_
    refine ax_call rfl (vcall_own (ih _ s2 r (okc.dp 1) (dp_su.trans suc) hr) hP hmv false (fun e => bif Nat.beq e 1000 then 1000 else 1001) [1000, 1001] ⟨rfl, rfl, rfl, rfl, ⟨rfl, rfl, trivial⟩, rfl, rfl, rfl⟩ (.pass rfl rfl .nil) ?_)
    rintro r h ⟨rfl, rfl⟩
    refine ⟨(fun e => bif Nat.beq e 1000 then 1000 else 1001), [], ⟨rfl, rfl, rfl, rfl, mem2 rfl rfl, rfl, rfl, fun h => absurd h Bool.false_ne_true⟩, ?_⟩
    try dsimp only [dpP]
    refine ax_q (q_mov rfl) ?_
    refine ax_nil ?_
    refine cx_keep rfl rfl ?_
    refine cx_ops ?_
    refine ax_q (q_mov rfl) ?_
    refine ax_q (q_mov rfl) ?_
    refine ax_q (q_mov rfl) ?_
    refine ax_q (q_mov rfl) ?_
    refine ax_q (q_build rfl) ?_
    refine ax_call rfl (vcall_own (c_qput (n := nd 9 lf r) ok2 su2 h0l hn) hP hmv false (fun e => bif Nat.beq e 1000 then 1000 else 1001) [1000, 1001] ⟨rfl, rfl, rfl, rfl, ⟨rfl, rfl, trivial⟩, rfl, rfl, rfl⟩ (.pass rfl rfl (.pass rfl rfl .nil)) ?_)
    rintro r h ⟨rfl, rfl⟩
    refine ⟨(fun e => bif Nat.beq e 1000 then 1000 else 1001), [], ⟨rfl, rfl, rfl, rfl, mem2 rfl rfl, rfl, rfl, fun h => absurd h Bool.false_ne_true⟩, ?_⟩
    try dsimp only [dpP]
    refine ax_q (q_mov rfl) ?_
    refine ax_nil ?_
    exact ⟨_, (fu, s3, k3), by simp only; omega, ⟨rfl, ok3, su3, hj3⟩, by repeat (first | exact trivial | refine ⟨rfl, ?_⟩ | refine ⟨?_, ?_⟩)⟩
  ·
   skip
   obtain ⟨rfl, rfl⟩ := joL_stop hjc (pk_no2 h0 h1) rfl
   rw [skP_f h1]
   refine cx_skip ?_
   refine cx_keep rfl rfl ?_
   refine cx_seq ?_
   refine cx_seq ?_
   refine cx_ops ?_
   refine ax_q (q_mov rfl) ?_
   refine ax_q (q_ibin rfl rfl rfl) ?_
   refine ax_nil ?_
   refine cx_keep rfl rfl ?_
   refine cx_cond rfl (fun h2 => ?_) (fun h2 => ?_)
   ·
    have h2 := dT h2
    refine cx_seq ?_
    refine cx_ops ?_
    refine ax_q (q_mov rfl) ?_
    refine ax_q (q_mov rfl) ?_
    refine ax_nil ?_
    refine cx_keep rfl rfl ?_
    refine cx_ret (retN id [1000, 1001] rfl rfl rfl rfl rfl ?_)
    exact ⟨rfl, rfl⟩
   ·
    have h2 := dF h2
    exact absurd rfl h2


/- (ptr loop.example/g00332/spec.l10Parser).sum -/
def k_c_qsum : XCode :=
 .seq (.ops [.op (some 2) (.mov (.k (.int .i64 0)))])
 (.keep [0] (.seq (.ops [.op (some 6) (.mov (.t 0)),
   .call (some 7) 138 [.t 6],
   .op (some 3) (.mov (.t 7))])
 (.keep [0, 3] (.block 0 (.loop (.block 1 (.seq (.ops [.op (some 4) (.mov (.k (.int .i64 0)))])
   (.keep [0, 3, 4] (.seq (.seq (.ops [.op (some 8) (.mov (.t 0)),
     .call (some 9) 96 [.t 8, .k (.str [43])]])
   (.keep [0, 3, 4, 9] (.cond (.t 9)
    (.ops [.op (some 4) (.mov (.k (.int .i64 6)))])
    (.seq (.ops [.op (some 10) (.mov (.t 0)),
      .call (some 11) 96 [.t 10, .k (.str [45])]])
    (.keep [0, 3, 4, 11] (.cond (.t 11)
     (.ops [.op (some 4) (.mov (.k (.int .i64 7)))])
     (.skip)))))))
   (.keep [0, 3, 4] (.seq (.seq (.ops [.op (some 12) (.mov (.t 4)),
     .op (some 13) (.bin .eql (.t 12) (.k (.int .i64 0)))])
   (.keep [0, 3, 4, 13] (.cond (.t 13)
    (.seq (.ops [.op (some 14) (.mov (.t 3)),
      .op (some 2) (.mov (.t 14))])
    (.keep [2] (.ret)))
    (.skip))))
   (.keep [0, 3, 4] (.seq (.ops [.op (some 15) (.mov (.t 0)),
    .call (some 16) 138 [.t 15],
    .op (some 5) (.mov (.t 16))])
   (.keep [0, 3, 4, 5] (.ops [.op (some 17) (.mov (.t 0)),
    .op (some 18) (.mov (.t 4)),
    .op (some 19) (.mov (.t 3)),
    .op (some 20) (.mov (.t 5)),
    .op (some 21) (.build [.int .i64 0, .int .i64 0, .int .i64 0, .int .i64 0, .int .i64 0, .int .i64 0, .str []] [(0, 1, .t 18), (1, 1, .t 19), (2, 1, .t 20)]),
    .call (some 22) 97 [.t 17, .t 21],
    .op (some 3) (.mov (.t 22))])))))))))))))))
theorem k_c_qsum_fits : fitsF Tryz.prog 127 ⟨23, k_c_qsum, [.t 2]⟩ = true := by kernel_rfl
set_option maxHeartbeats 4000000 in
theorem c_qsum {f : Nat} {s s' : PS} {tk0 : List Str} {k : Int} (hs : s.ok) (hu : s.tk <:+ tk0) (h0l : tk0.length ≤ 500) (ih : RQ Tryz.prog tk0 138 (qrs f 5)) (h : qrs (f + 1) 4 s = some (s', k)) : Con Tryz.prog (fun e => Nat.beq e 1001) 127 [.ptr 1000 0] [(1000, .box [.d (.sl 1 (tk0.map strRow)), int ((tk0.length - s.tk.length : Nat) : Int), .osl 1001 7 0 s.ns.length, int 0, int (s.op : Int)]), (1001, .rows 7 (s.ns.map GExprNode.row))] (fun r h => r = int k ∧ h = [(1000, .box [.d (.sl 1 (tk0.map strRow)), int ((tk0.length - s'.tk.length : Nat) : Int), .osl 1001 7 0 s'.ns.length, int 0, int (s'.op : Int)]), (1001, .rows 7 (s'.ns.map GExprNode.row))]) := by
 refine con_of2 k_c_qsum_fits rfl fun C hP hmv => ?_
 unfold k_c_qsum
 obtain ⟨s1, l, h1, hj⟩ := joP_some h
 obtain ⟨ok1, op1⟩ := qrs_ro f 5 _ _ _ hs h1
 have su1 := (qrs_su f 5 _ _ _ h1).trans hu
 refine cx_seq ?_
 refine cx_ops ?_
 refine ax_q (q_mov rfl) ?_
 refine ax_nil ?_
 refine cx_keep rfl rfl ?_
 refine cx_seq ?_
 refine cx_ops ?_
 refine ax_q (q_mov rfl) ?_
 refine ax_call rfl (vcall_own (ih s s1 l hs hu h1) hP hmv false (fun e => bif Nat.beq e 1000 then 1000 else 1001) [1000, 1001] ⟨rfl, rfl, rfl, rfl, ⟨rfl, rfl, trivial⟩, rfl, rfl, rfl⟩ (.pass rfl rfl .nil) ?_)
 rintro r h ⟨rfl, rfl⟩
 refine ⟨(fun e => bif Nat.beq e 1000 then 1000 else 1001), [], ⟨rfl, rfl, rfl, rfl, mem2 rfl rfl, rfl, rfl, fun h => absurd h Bool.false_ne_true⟩, ?_⟩
 try dsimp only [dpP]
 refine ax_q (q_mov rfl) ?_
 refine ax_nil ?_
 refine cx_keep rfl rfl ?_
 refine cx_block ?_
 refine cx_loopU (fun n (p : Nat × PS × Int) => n = p.1 ∧ p.2.1.ok ∧ p.2.1.tk <:+ tk0 ∧ joL (qrs f 5) [6, 7] p.1 p.2.1 p.2.2 = some (s', k)) (fun p => [(3, int p.2.2)]) (fun p => [(1000, .box [.d (.sl 1 (tk0.map strRow)), int ((tk0.length - p.2.1.tk.length : Nat) : Int), .osl 1001 7 0 p.2.1.ns.length, int 0, int (p.2.1.op : Int)]), (1001, .rows 7 (p.2.1.ns.map GExprNode.row))]) ⟨_, (f, s1, l), ⟨rfl, ok1, su1, hj⟩, by repeat (first | exact trivial | refine ⟨rfl, ?_⟩ | refine ⟨?_, ?_⟩)⟩ ?_
 rintro n ⟨fu, c, lf⟩ ⟨rfl, okc, suc, hjc⟩
 obtain ⟨fu, rfl⟩ := joL_pos hjc
 simp only at okc suc hjc ⊢
 refine cx_block ?_
 refine cx_seq ?_
 refine cx_ops ?_
 refine ax_q (q_mov rfl) ?_
 refine ax_nil ?_
 refine cx_keep rfl rfl ?_
 refine cx_seq ?_
 refine cx_seq ?_
 refine cx_ops ?_
 refine ax_q (q_mov rfl) ?_
 refine ax_call rfl (vcall_own (c_qtake (s := c) (tk0 := tk0) (t := [43]) okc suc h0l (by decide)) hP hmv false (fun e => bif Nat.beq e 1000 then 1000 else 1001) [1000, 1001] ⟨rfl, rfl, rfl, rfl, ⟨rfl, rfl, trivial⟩, rfl, rfl, rfl⟩ (.pass rfl rfl (.pass rfl rfl .nil)) ?_)
 rintro r h ⟨rfl, rfl⟩
 refine ⟨(fun e => bif Nat.beq e 1000 then 1000 else 1001), [], ⟨rfl, rfl, rfl, rfl, mem2 rfl rfl, rfl, rfl, fun h => absurd h Bool.false_ne_true⟩, ?_⟩
 try dsimp only [dpP]
 refine ax_nil ?_
 refine cx_keep rfl rfl ?_
 refine cx_cond rfl (fun h0 => ?_) (fun h0 => ?_)
 ·
  skip
  obtain ⟨s2, r, s3, k3, hr, hn, hj3⟩ := joL_more hjc (pk2_a (by decide) h0) (by decide)
  obtain ⟨ok2, op2⟩ := qrs_ro f 5 _ _ _ (okc.dp 1) hr
  have su2 := (qrs_su f 5 _ _ _ hr).trans (dp_su.trans suc)
  have ok3 := ok2.nd hn
  have su3 := (nd_su hn).trans su2
  rw [skP_t h0]
  refine cx_ops ?_
  refine ax_q (q_mov rfl) ?_
  refine ax_nil ?_
  refine cx_keep rfl rfl ?_
  refine cx_seq ?_
  refine cx_seq ?_
  refine cx_ops ?_
  refine ax_q (q_mov rfl) ?_
  refine ax_q (q_ibin rfl rfl rfl) ?_
  refine ax_nil ?_
  refine cx_keep rfl rfl ?_
  refine cx_cond rfl (fun h2 => ?_) (fun h2 => ?_)
  ·
   have h2 := dT h2
   exact absurd h2 (by decide)
  ·
   have h2 := dF h2
   refine cx_skip ?_
   refine cx_keep rfl rfl ?_
   refine cx_seq ?_
   refine cx_ops ?_
   refine ax_q (q_mov rfl) ?_
   refine ax_call rfl (vcall_own (ih _ s2 r (okc.dp 1) (dp_su.trans suc) hr) hP hmv false (fun e => bif Nat.beq e 1000 then 1000 else 1001) [1000, 1001] ⟨rfl, rfl, rfl, rfl, ⟨rfl, rfl, trivial⟩, rfl, rfl, rfl⟩ (.pass rfl rfl .nil) ?_)
   rintro r h ⟨rfl, rfl⟩
   refine ⟨(fun e => bif Nat.beq e 1000 then 1000 else 1001), [], ⟨rfl, rfl, rfl, rfl, mem2 rfl rfl, rfl, rfl, fun h => absurd h Bool.false_ne_true⟩, ?_⟩
   try dsimp only [dpP]
   refine ax_q (q_mov rfl) ?_
   refine ax_nil ?_
   refine cx_keep rfl rfl ?_
   refine cx_ops ?_
   refine ax_q (q_mov rfl) ?_
   refine ax_q (q_mov rfl) ?_
   refine ax_q (q_mov rfl) ?_
   refine ax_q (q_mov rfl) ?_
   refine ax_q (q_build rfl) ?_
   refine ax_call rfl (vcall_own (c_qput (n := nd 6 lf r) ok2 su2 h0l hn) hP hmv false (fun e => bif Nat.beq e 1000 then 1000 else 1001) [1000, 1001] ⟨rfl, rfl, rfl, rfl, ⟨rfl, rfl, trivial⟩, rfl, rfl, rfl⟩ (.pass rfl rfl (.pass rfl rfl .nil)) ?_)
   rintro r h ⟨rfl, rfl⟩
   refine ⟨(fun e => bif Nat.beq e 1000 then 1000 else 1001), [], ⟨rfl, rfl, rfl, rfl, mem2 rfl rfl, rfl, rfl, fun h => absurd h Bool.false_ne_true⟩, ?_⟩
   try dsimp only [dpP]
   refine ax_q (q_mov rfl) ?_
   refine ax_nil ?_
   exact ⟨_, (fu, s3, k3), by simp only; omega, ⟨rfl, ok3, su3, hj3⟩, by repeat (first | exact trivial | refine ⟨rfl, ?_⟩ | refine ⟨?_, ?_⟩)⟩
 ·
  skip
  rw [skP_f h0]
  refine cx_seq ?_
  refine cx_ops ?_
  refine ax_q (q_mov rfl) ?_
  refine ax_call rfl (vcall_own (c_qtake (s := c) (tk0 := tk0) (t := [45]) okc suc h0l (by decide)) hP hmv false (fun e => bif Nat.beq e 1000 then 1000 else 1001) [1000, 1001] ⟨rfl, rfl, rfl, rfl, ⟨rfl, rfl, trivial⟩, rfl, rfl, rfl⟩ (.pass rfl rfl (.pass rfl rfl .nil)) ?_)
  rintro r h ⟨rfl, rfl⟩
  refine ⟨(fun e => bif Nat.beq e 1000 then 1000 else 1001), [], ⟨rfl, rfl, rfl, rfl, mem2 rfl rfl, rfl, rfl, fun h => absurd h Bool.false_ne_true⟩, ?_⟩
  try dsimp only [dpP]
  refine ax_nil ?_
  refine cx_keep rfl rfl ?_
  refine cx_cond rfl (fun h1 => ?_) (fun h1 => ?_)
  ·
   skip
   obtain ⟨s2, r, s3, k3, hr, hn, hj3⟩ := joL_more hjc (pk2_b h0 h1) (by decide)
   obtain ⟨ok2, op2⟩ := qrs_ro f 5 _ _ _ (okc.dp 1) hr
   have su2 := (qrs_su f 5 _ _ _ hr).trans (dp_su.trans suc)
   have ok3 := ok2.nd hn
   have su3 := (nd_su hn).trans su2
   rw [skP_t h1]
   refine cx_ops ?_
   refine ax_q (q_mov rfl) ?_
   refine ax_nil ?_
   refine cx_keep rfl rfl ?_
   refine cx_seq ?_
   refine cx_seq ?_
   refine cx_ops ?_
   refine ax_q (q_mov rfl) ?_
   refine ax_q (q_ibin rfl rfl rfl) ?_
   refine ax_nil ?_
   refine cx_keep rfl rfl ?_
   refine cx_cond rfl (fun h2 => ?_) (fun h2 => ?_)
   ·
    have h2 := dT h2
    exact absurd h2 (by decide)
   ·
    have h2 := dF h2
    refine cx_skip ?_
    refine cx_keep rfl rfl ?_
    refine cx_seq ?_
    refine cx_ops ?_
    refine ax_q (q_mov rfl) ?_
    refine ax_call rfl (vcall_own (ih _ s2 r (okc.dp 1) (dp_su.trans suc) hr) hP hmv false (fun e => bif Nat.beq e 1000 then 1000 else 1001) [1000, 1001] ⟨rfl, rfl, rfl, rfl, ⟨rfl, rfl, trivial⟩, rfl, rfl, rfl⟩ (.pass rfl rfl .nil) ?_)
    rintro r h ⟨rfl, rfl⟩
    refine ⟨(fun e => bif Nat.beq e 1000 then 1000 else 1001), [], ⟨rfl, rfl, rfl, rfl, mem2 rfl rfl, rfl, rfl, fun h => absurd h Bool.false_ne_true⟩, ?_⟩
    try dsimp only [dpP]
    refine ax_q (q_mov rfl) ?_
    refine ax_nil ?_
    refine cx_keep rfl rfl ?_
    refine cx_ops ?_
    refine ax_q (q_mov rfl) ?_
    refine ax_q (q_mov rfl) ?_
    refine ax_q (q_mov rfl) ?_
    refine ax_q (q_mov rfl) ?_
    refine ax_q (q_build rfl) ?_
    refine ax_call rfl (vcall_own (c_qput (n := nd 7 lf r) ok2 su2 h0l hn) hP hmv false (fun e => bif Nat.beq e 1000 then 1000 else 1001) [1000, 1001] ⟨rfl, rfl, rfl, rfl, ⟨rfl, rfl, trivial⟩, rfl, rfl, rfl⟩ (.pass rfl rfl (.pass rfl rfl .nil)) ?_)
    rintro r h ⟨rfl, rfl⟩
    refine ⟨(fun e => bif Nat.beq e 1000 then 1000 else 1001), [], ⟨rfl, rfl, rfl, rfl, mem2 rfl rfl, rfl, rfl, fun h => absurd h Bool.false_ne_true⟩, ?_⟩
    try dsimp only [dpP]
    refine ax_q (q_mov rfl) ?_
    refine ax_nil ?_
    exact ⟨_, (fu, s3, k3), by simp only; omega, ⟨rfl, ok3, su3, hj3⟩, by repeat (first | exact trivial | refine ⟨rfl, ?_⟩ | refine ⟨?_, ?_⟩)⟩
  ·
   skip
   obtain ⟨rfl, rfl⟩ := joL_stop hjc (pk_no2 h0 h1) rfl
   rw [skP_f h1]
   refine cx_skip ?_
   refine cx_keep rfl rfl ?_
   refine cx_seq ?_
   refine cx_seq ?_
   refine cx_ops ?_
   refine ax_q (q_mov rfl) ?_
   refine ax_q (q_ibin rfl rfl rfl) ?_
   refine ax_nil ?_
   refine cx_keep rfl rfl ?_
   refine cx_cond rfl (fun h2 => ?_) (fun h2 => ?_)
   ·
    have h2 := dT h2
    refine cx_seq ?_
    refine cx_ops ?_
    refine ax_q (q_mov rfl) ?_
    refine ax_q (q_mov rfl) ?_
    refine ax_nil ?_
    refine cx_keep rfl rfl ?_
    refine cx_ret (retN id [1000, 1001] rfl rfl rfl rfl rfl ?_)
    exact ⟨rfl, rfl⟩
   ·
    have h2 := dF h2
    exact absurd rfl h2


/- (ptr loop.example/g00332/spec.l10Parser).compare -/
def k_c_qcmp : XCode :=
 .seq (.ops [.op (some 2) (.mov (.k (.int .i64 0)))])
 (.keep [0] (.seq (.ops [.op (some 6) (.mov (.t 0)),
   .call (some 7) 127 [.t 6],
   .op (some 3) (.mov (.t 7))])
 (.keep [0, 3] (.seq (.block 0 (.seq (.ops [.op (some 9) (.mov (.t 0)),
    .call (some 10) 96 [.t 9, .k (.str [61])],
    .op (some 8) (.mov (.t 10))])
  (.keep [0, 3, 8] (.cond (.t 8)
   (.seq (.ops [.op (some 11) (.mov (.t 0)),
     .call (some 12) 127 [.t 11],
     .op (some 4) (.mov (.t 12))])
   (.keep [0, 3, 4] (.seq (.ops [.op (some 13) (.mov (.t 0)),
     .op (some 14) (.mov (.t 3)),
     .op (some 15) (.mov (.t 4)),
     .op (some 16) (.build [.int .i64 0, .int .i64 0, .int .i64 0, .int .i64 0, .int .i64 0, .int .i64 0, .str []] [(0, 1, .k (.int .i64 10)), (1, 1, .t 14), (2, 1, .t 15)]),
     .call (some 17) 97 [.t 13, .t 16],
     .op (some 2) (.mov (.t 17))])
   (.keep [2] (.ret)))))
   (.seq (.ops [.op (some 19) (.mov (.t 0)),
     .call (some 20) 96 [.t 19, .k (.str [60])],
     .op (some 18) (.mov (.t 20))])
   (.keep [0, 3, 18] (.cond (.t 18)
    (.seq (.ops [.op (some 21) (.mov (.t 0)),
      .call (some 22) 127 [.t 21],
      .op (some 5) (.mov (.t 22))])
    (.keep [0, 3, 5] (.seq (.ops [.op (some 23) (.mov (.t 0)),
      .op (some 24) (.mov (.t 3)),
      .op (some 25) (.mov (.t 5)),
      .op (some 26) (.build [.int .i64 0, .int .i64 0, .int .i64 0, .int .i64 0, .int .i64 0, .int .i64 0, .str []] [(0, 1, .k (.int .i64 11)), (1, 1, .t 24), (2, 1, .t 25)]),
      .call (some 27) 97 [.t 23, .t 26],
      .op (some 2) (.mov (.t 27))])
    (.keep [2] (.ret)))))
    (.seq (.ops [.op (some 29) (.mov (.t 0)),
      .call (some 30) 96 [.t 29, .k (.str [105, 115])],
      .op (some 28) (.mov (.t 30))])
    (.keep [0, 3, 28] (.cond (.t 28)
     (.seq (.seq (.ops [.op (some 31) (.mov (.t 0)),
       .call (some 32) 96 [.t 31, .k (.str [110, 117, 108, 108])],
       .op (some 33) (.not (.t 32))])
      (.keep [0, 3, 33] (.cond (.t 33)
      (.ops [.op (some 34) (.mov (.t 0)),
        .call (some 35) 108 [.t 34, .k (.int .i64 3)]])
      (.skip))))
     (.keep [0, 3] (.seq (.ops [.op (some 36) (.mov (.t 0)),
       .op (some 37) (.mov (.t 3)),
       .op (some 38) (.build [.int .i64 0, .int .i64 0, .int .i64 0, .int .i64 0, .int .i64 0, .int .i64 0, .str []] [(0, 1, .k (.int .i64 4)), (1, 1, .t 37)]),
       .call (some 39) 97 [.t 36, .t 38],
       .op (some 2) (.mov (.t 39))])
     (.keep [2] (.ret)))))
     (.skip)))))))))))
 (.keep [3] (.seq (.ops [.op (some 40) (.mov (.t 3)),
   .op (some 2) (.mov (.t 40))])
 (.keep [2] (.ret))))))))
theorem k_c_qcmp_fits : fitsF Tryz.prog 117 ⟨41, k_c_qcmp, [.t 2]⟩ = true := by kernel_rfl
set_option maxHeartbeats 4000000 in
theorem c_qcmp {f : Nat} {s s' : PS} {tk0 : List Str} {k : Int} (hs : s.ok) (hu : s.tk <:+ tk0) (h0l : tk0.length ≤ 500) (ih : RQ Tryz.prog tk0 127 (qrs f 4)) (h : qrs (f + 1) 3 s = some (s', k)) : Con Tryz.prog (fun e => Nat.beq e 1001) 117 [.ptr 1000 0] [(1000, .box [.d (.sl 1 (tk0.map strRow)), int ((tk0.length - s.tk.length : Nat) : Int), .osl 1001 7 0 s.ns.length, int 0, int (s.op : Int)]), (1001, .rows 7 (s.ns.map GExprNode.row))] (fun r h => r = int k ∧ h = [(1000, .box [.d (.sl 1 (tk0.map strRow)), int ((tk0.length - s'.tk.length : Nat) : Int), .osl 1001 7 0 s'.ns.length, int 0, int (s'.op : Int)]), (1001, .rows 7 (s'.ns.map GExprNode.row))]) := by
 refine con_of2 k_c_qcmp_fits rfl fun C hP hmv => ?_
 unfold k_c_qcmp
 obtain ⟨s1, l, h1, hx⟩ := cmQ_some h
 obtain ⟨ok1, op1⟩ := (qrs_ro f 4) _ _ _ hs h1
 have su1 := (qrs_su f 4 _ _ _ h1).trans hu
 refine cx_seq ?_
 refine cx_ops ?_
 refine ax_q (q_mov rfl) ?_
 refine ax_nil ?_
 refine cx_keep rfl rfl ?_
 refine cx_seq ?_
 refine cx_ops ?_
 refine ax_q (q_mov rfl) ?_
 refine ax_call rfl (vcall_own (ih s s1 l hs hu h1) hP hmv false (fun e => bif Nat.beq e 1000 then 1000 else 1001) [1000, 1001] ⟨rfl, rfl, rfl, rfl, ⟨rfl, rfl, trivial⟩, rfl, rfl, rfl⟩ (.pass rfl rfl .nil) ?_)
 rintro r h ⟨rfl, rfl⟩
 refine ⟨(fun e => bif Nat.beq e 1000 then 1000 else 1001), [], ⟨rfl, rfl, rfl, rfl, mem2 rfl rfl, rfl, rfl, fun h => absurd h Bool.false_ne_true⟩, ?_⟩
 try dsimp only [dpP]
 refine ax_q (q_mov rfl) ?_
 refine ax_nil ?_
 refine cx_keep rfl rfl ?_
 refine cx_seq ?_
 refine cx_block ?_
 refine cx_seq ?_
 refine cx_ops ?_
 refine ax_q (q_mov rfl) ?_
 refine ax_call rfl (vcall_own (c_qtake (s := s1) (tk0 := tk0) (t := [61]) ok1 su1 h0l (by decide)) hP hmv false (fun e => bif Nat.beq e 1000 then 1000 else 1001) [1000, 1001] ⟨rfl, rfl, rfl, rfl, ⟨rfl, rfl, trivial⟩, rfl, rfl, rfl⟩ (.pass rfl rfl (.pass rfl rfl .nil)) ?_)
 rintro r h ⟨rfl, rfl⟩
 refine ⟨(fun e => bif Nat.beq e 1000 then 1000 else 1001), [], ⟨rfl, rfl, rfl, rfl, mem2 rfl rfl, rfl, rfl, fun h => absurd h Bool.false_ne_true⟩, ?_⟩
 try dsimp only [dpP]
 refine ax_q (q_mov rfl) ?_
 refine ax_nil ?_
 refine cx_keep rfl rfl ?_
 refine cx_cond rfl (fun h0 => ?_) (fun h0 => ?_)
 ·
  skip
  rw [if_pos h0] at hx
  obtain ⟨s2, r, h3, h4⟩ := cm_two hx
  obtain ⟨ok2, op2⟩ := (qrs_ro f 4) _ _ _ (ok1.dp 1) h3
  have su2 := (qrs_su f 4 _ _ _ h3).trans (dp_su.trans su1)
  rw [skP_t h0]
  refine cx_seq ?_
  refine cx_ops ?_
  refine ax_q (q_mov rfl) ?_
  refine ax_call rfl (vcall_own (ih _ s2 r (ok1.dp 1) (dp_su.trans su1) h3) hP hmv false (fun e => bif Nat.beq e 1000 then 1000 else 1001) [1000, 1001] ⟨rfl, rfl, rfl, rfl, ⟨rfl, rfl, trivial⟩, rfl, rfl, rfl⟩ (.pass rfl rfl .nil) ?_)
  rintro r h ⟨rfl, rfl⟩
  refine ⟨(fun e => bif Nat.beq e 1000 then 1000 else 1001), [], ⟨rfl, rfl, rfl, rfl, mem2 rfl rfl, rfl, rfl, fun h => absurd h Bool.false_ne_true⟩, ?_⟩
  try dsimp only [dpP]
  refine ax_q (q_mov rfl) ?_
  refine ax_nil ?_
  refine cx_keep rfl rfl ?_
  refine cx_seq ?_
  refine cx_ops ?_
  refine ax_q (q_mov rfl) ?_
  refine ax_q (q_mov rfl) ?_
  refine ax_q (q_mov rfl) ?_
  refine ax_q (q_build rfl) ?_
  refine ax_call rfl (vcall_own (c_qput (n := nd 10 l r) ok2 su2 h0l h4) hP hmv false (fun e => bif Nat.beq e 1000 then 1000 else 1001) [1000, 1001] ⟨rfl, rfl, rfl, rfl, ⟨rfl, rfl, trivial⟩, rfl, rfl, rfl⟩ (.pass rfl rfl (.pass rfl rfl .nil)) ?_)
  rintro r h ⟨rfl, rfl⟩
  refine ⟨(fun e => bif Nat.beq e 1000 then 1000 else 1001), [], ⟨rfl, rfl, rfl, rfl, mem2 rfl rfl, rfl, rfl, fun h => absurd h Bool.false_ne_true⟩, ?_⟩
  try dsimp only [dpP]
  refine ax_q (q_mov rfl) ?_
  refine ax_nil ?_
  refine cx_keep rfl rfl ?_
  refine cx_ret (retN id [1000, 1001] rfl rfl rfl rfl rfl ?_)
  exact ⟨rfl, rfl⟩
 ·
  skip
  rw [if_neg (by rw [h0]; decide)] at hx
  rw [skP_f h0]
  refine cx_seq ?_
  refine cx_ops ?_
  refine ax_q (q_mov rfl) ?_
  refine ax_call rfl (vcall_own (c_qtake (s := s1) (tk0 := tk0) (t := [60]) ok1 su1 h0l (by decide)) hP hmv false (fun e => bif Nat.beq e 1000 then 1000 else 1001) [1000, 1001] ⟨rfl, rfl, rfl, rfl, ⟨rfl, rfl, trivial⟩, rfl, rfl, rfl⟩ (.pass rfl rfl (.pass rfl rfl .nil)) ?_)
  rintro r h ⟨rfl, rfl⟩
  refine ⟨(fun e => bif Nat.beq e 1000 then 1000 else 1001), [], ⟨rfl, rfl, rfl, rfl, mem2 rfl rfl, rfl, rfl, fun h => absurd h Bool.false_ne_true⟩, ?_⟩
  try dsimp only [dpP]
  refine ax_q (q_mov rfl) ?_
  refine ax_nil ?_
  refine cx_keep rfl rfl ?_
  refine cx_cond rfl (fun h1 => ?_) (fun h1 => ?_)
  ·
   skip
   rw [if_pos h1] at hx
   obtain ⟨s2, r, h3, h4⟩ := cm_two hx
   obtain ⟨ok2, op2⟩ := (qrs_ro f 4) _ _ _ (ok1.dp 1) h3
   have su2 := (qrs_su f 4 _ _ _ h3).trans (dp_su.trans su1)
   rw [skP_t h1]
   refine cx_seq ?_
   refine cx_ops ?_
   refine ax_q (q_mov rfl) ?_
   refine ax_call rfl (vcall_own (ih _ s2 r (ok1.dp 1) (dp_su.trans su1) h3) hP hmv false (fun e => bif Nat.beq e 1000 then 1000 else 1001) [1000, 1001] ⟨rfl, rfl, rfl, rfl, ⟨rfl, rfl, trivial⟩, rfl, rfl, rfl⟩ (.pass rfl rfl .nil) ?_)
   rintro r h ⟨rfl, rfl⟩
   refine ⟨(fun e => bif Nat.beq e 1000 then 1000 else 1001), [], ⟨rfl, rfl, rfl, rfl, mem2 rfl rfl, rfl, rfl, fun h => absurd h Bool.false_ne_true⟩, ?_⟩
   try dsimp only [dpP]
   refine ax_q (q_mov rfl) ?_
   refine ax_nil ?_
   refine cx_keep rfl rfl ?_
   refine cx_seq ?_
   refine cx_ops ?_
   refine ax_q (q_mov rfl) ?_
   refine ax_q (q_mov rfl) ?_
   refine ax_q (q_mov rfl) ?_
   refine ax_q (q_build rfl) ?_
   refine ax_call rfl (vcall_own (c_qput (n := nd 11 l r) ok2 su2 h0l h4) hP hmv false (fun e => bif Nat.beq e 1000 then 1000 else 1001) [1000, 1001] ⟨rfl, rfl, rfl, rfl, ⟨rfl, rfl, trivial⟩, rfl, rfl, rfl⟩ (.pass rfl rfl (.pass rfl rfl .nil)) ?_)
   rintro r h ⟨rfl, rfl⟩
   refine ⟨(fun e => bif Nat.beq e 1000 then 1000 else 1001), [], ⟨rfl, rfl, rfl, rfl, mem2 rfl rfl, rfl, rfl, fun h => absurd h Bool.false_ne_true⟩, ?_⟩
   try dsimp only [dpP]
   refine ax_q (q_mov rfl) ?_
   refine ax_nil ?_
   refine cx_keep rfl rfl ?_
   refine cx_ret (retN id [1000, 1001] rfl rfl rfl rfl rfl ?_)
   exact ⟨rfl, rfl⟩
  ·
   skip
   rw [if_neg (by rw [h1]; decide)] at hx
   rw [skP_f h1]
   refine cx_seq ?_
   refine cx_ops ?_
   refine ax_q (q_mov rfl) ?_
   refine ax_call rfl (vcall_own (c_qtake (s := s1) (tk0 := tk0) (t := [105, 115]) ok1 su1 h0l (by decide)) hP hmv false (fun e => bif Nat.beq e 1000 then 1000 else 1001) [1000, 1001] ⟨rfl, rfl, rfl, rfl, ⟨rfl, rfl, trivial⟩, rfl, rfl, rfl⟩ (.pass rfl rfl (.pass rfl rfl .nil)) ?_)
   rintro r h ⟨rfl, rfl⟩
   refine ⟨(fun e => bif Nat.beq e 1000 then 1000 else 1001), [], ⟨rfl, rfl, rfl, rfl, mem2 rfl rfl, rfl, rfl, fun h => absurd h Bool.false_ne_true⟩, ?_⟩
   try dsimp only [dpP]
   refine ax_q (q_mov rfl) ?_
   refine ax_nil ?_
   refine cx_keep rfl rfl ?_
   refine cx_cond rfl (fun h2 => ?_) (fun h2 => ?_)
   ·
    skip
    rw [if_pos h2] at hx; cases hx
   ·
    skip
    rw [if_neg (by rw [h2]; decide)] at hx
    rw [skP_f h2]
    cases hx
    refine cx_skip ?_
    refine cx_keep rfl rfl ?_
    refine cx_seq ?_
    refine cx_ops ?_
    refine ax_q (q_mov rfl) ?_
    refine ax_q (q_mov rfl) ?_
    refine ax_nil ?_
    refine cx_keep rfl rfl ?_
    refine cx_ret (retN id [1000, 1001] rfl rfl rfl rfl rfl ?_)
    exact ⟨rfl, rfl⟩


/- (ptr loop.example/g00332/spec.l10Parser).not -/
def k_c_qnot : XCode :=
 .seq (.ops [.op (some 2) (.mov (.k (.int .i64 0)))])
 (.keep [0] (.seq (.seq (.ops [.op (some 4) (.mov (.t 0)),
   .call (some 5) 96 [.t 4, .k (.str [110, 111, 116])],
   .op (some 6) (.not (.t 5))])
  (.keep [0, 6] (.cond (.t 6)
  (.seq (.ops [.op (some 7) (.mov (.t 0)),
    .call (some 8) 117 [.t 7],
    .op (some 2) (.mov (.t 8))])
   (.keep [2] (.ret)))
  (.skip))))
 (.keep [0] (.seq (.ops [.op (some 9) (.mov (.t 0)),
   .call (some 10) 118 [.t 9, .k (.int .i64 1)]])
 (.keep [0] (.seq (.ops [.op (some 11) (.mov (.t 0)),
   .call (some 12) 106 [.t 11],
   .op (some 3) (.mov (.t 12))])
 (.keep [0, 3] (.seq (.ops [.op (some 13) (.mov (.t 0)),
   .call (some 14) 118 [.t 13, .k (.int .i64 (-1))]])
 (.keep [0, 3] (.seq (.ops [.op (some 15) (.mov (.t 0)),
   .op (some 16) (.mov (.t 3)),
   .op (some 17) (.build [.int .i64 0, .int .i64 0, .int .i64 0, .int .i64 0, .int .i64 0, .int .i64 0, .str []] [(0, 1, .k (.int .i64 3)), (1, 1, .t 16)]),
   .call (some 18) 97 [.t 15, .t 17],
   .op (some 2) (.mov (.t 18))])
 (.keep [2] (.ret))))))))))))
theorem k_c_qnot_fits : fitsF Tryz.prog 106 ⟨19, k_c_qnot, [.t 2]⟩ = true := by kernel_rfl
theorem c_qnot {f : Nat} {s s' : PS} {tk0 : List Str} {k : Int} (hs : s.ok) (hu : s.tk <:+ tk0) (h0l : tk0.length ≤ 500) (ih : RQ Tryz.prog tk0 117 (qrs f 3)) (h : qrs (f + 1) 2 s = some (s', k)) : Con Tryz.prog (fun e => Nat.beq e 1001) 106 [.ptr 1000 0] [(1000, .box [.d (.sl 1 (tk0.map strRow)), int ((tk0.length - s.tk.length : Nat) : Int), .osl 1001 7 0 s.ns.length, int 0, int (s.op : Int)]), (1001, .rows 7 (s.ns.map GExprNode.row))] (fun r h => r = int k ∧ h = [(1000, .box [.d (.sl 1 (tk0.map strRow)), int ((tk0.length - s'.tk.length : Nat) : Int), .osl 1001 7 0 s'.ns.length, int 0, int (s'.op : Int)]), (1001, .rows 7 (s'.ns.map GExprNode.row))]) := by
 refine con_of2 k_c_qnot_fits rfl fun C hP hmv => ?_
 unfold k_c_qnot
 obtain ⟨hn, hc⟩ := noQ_some h
 refine cx_seq ?_
 refine cx_ops ?_
 refine ax_q (q_mov rfl) ?_
 refine ax_nil ?_
 refine cx_keep rfl rfl ?_
 refine cx_seq ?_
 refine cx_seq ?_
 refine cx_ops ?_
 refine ax_q (q_mov rfl) ?_
 refine ax_call rfl (vcall_own (c_qtake (s := s) (tk0 := tk0) (t := [110, 111, 116]) hs hu h0l (by decide)) hP hmv false (fun e => bif Nat.beq e 1000 then 1000 else 1001) [1000, 1001] ⟨rfl, rfl, rfl, rfl, ⟨rfl, rfl, trivial⟩, rfl, rfl, rfl⟩ (.pass rfl rfl (.pass rfl rfl .nil)) ?_)
 rintro r h ⟨rfl, rfl⟩
 refine ⟨(fun e => bif Nat.beq e 1000 then 1000 else 1001), [], ⟨rfl, rfl, rfl, rfl, mem2 rfl rfl, rfl, rfl, fun h => absurd h Bool.false_ne_true⟩, ?_⟩
 try dsimp only [dpP]
 refine ax_q (q_not rfl) ?_
 refine ax_nil ?_
 refine cx_keep rfl rfl ?_
 refine cx_cond rfl (fun h0 => ?_) (fun h0 => ?_)
 ·
  have h0 := bT h0
  rw [skP_f hn]
  refine cx_seq ?_
  refine cx_ops ?_
  refine ax_q (q_mov rfl) ?_
  refine ax_call rfl (vcall_own (ih s _ k hs hu hc) hP hmv false (fun e => bif Nat.beq e 1000 then 1000 else 1001) [1000, 1001] ⟨rfl, rfl, rfl, rfl, ⟨rfl, rfl, trivial⟩, rfl, rfl, rfl⟩ (.pass rfl rfl .nil) ?_)
  rintro r h ⟨rfl, rfl⟩
  refine ⟨(fun e => bif Nat.beq e 1000 then 1000 else 1001), [], ⟨rfl, rfl, rfl, rfl, mem2 rfl rfl, rfl, rfl, fun h => absurd h Bool.false_ne_true⟩, ?_⟩
  try dsimp only [dpP]
  refine ax_q (q_mov rfl) ?_
  refine ax_nil ?_
  refine cx_keep rfl rfl ?_
  refine cx_ret (retN id [1000, 1001] rfl rfl rfl rfl rfl ?_)
  exact ⟨rfl, rfl⟩
 ·
  have h0 := bF h0
  rw [hn] at h0; cases h0


/- (ptr loop.example/g00332/spec.l10Parser).and -/
def k_c_qand : XCode :=
 .seq (.ops [.op (some 2) (.mov (.k (.int .i64 0)))])
 (.keep [0] (.seq (.ops [.op (some 5) (.mov (.t 0)),
   .call (some 6) 106 [.t 5],
   .op (some 3) (.mov (.t 6))])
 (.keep [0, 3] (.seq (.block 0 (.loop (.seq (.seq (.ops [.op (some 7) (.mov (.t 0)),
     .call (some 8) 96 [.t 7, .k (.str [97, 110, 100])]])
   (.keep [0, 3, 8] (.cond (.t 8)
    (.skip)
    (.exit 0))))
   (.keep [0, 3] (.block 1 (.seq (.ops [.op (some 9) (.mov (.t 0)),
     .call (some 10) 106 [.t 9],
     .op (some 4) (.mov (.t 10))])
   (.keep [0, 3, 4] (.ops [.op (some 11) (.mov (.t 0)),
    .op (some 12) (.mov (.t 3)),
    .op (some 13) (.mov (.t 4)),
    .op (some 14) (.build [.int .i64 0, .int .i64 0, .int .i64 0, .int .i64 0, .int .i64 0, .int .i64 0, .str []] [(0, 1, .k (.int .i64 12)), (1, 1, .t 12), (2, 1, .t 13)]),
    .call (some 15) 97 [.t 11, .t 14],
    .op (some 3) (.mov (.t 15))]))))))))
 (.keep [3] (.seq (.ops [.op (some 16) (.mov (.t 3)),
   .op (some 2) (.mov (.t 16))])
 (.keep [2] (.ret))))))))
theorem k_c_qand_fits : fitsF Tryz.prog 95 ⟨17, k_c_qand, [.t 2]⟩ = true := by kernel_rfl
set_option maxHeartbeats 4000000 in
theorem c_qand {f : Nat} {s s' : PS} {tk0 : List Str} {k : Int} (hs : s.ok) (hu : s.tk <:+ tk0) (h0l : tk0.length ≤ 500) (ih : RQ Tryz.prog tk0 106 (qrs f 2)) (h : qrs (f + 1) 1 s = some (s', k)) : Con Tryz.prog (fun e => Nat.beq e 1001) 95 [.ptr 1000 0] [(1000, .box [.d (.sl 1 (tk0.map strRow)), int ((tk0.length - s.tk.length : Nat) : Int), .osl 1001 7 0 s.ns.length, int 0, int (s.op : Int)]), (1001, .rows 7 (s.ns.map GExprNode.row))] (fun r h => r = int k ∧ h = [(1000, .box [.d (.sl 1 (tk0.map strRow)), int ((tk0.length - s'.tk.length : Nat) : Int), .osl 1001 7 0 s'.ns.length, int 0, int (s'.op : Int)]), (1001, .rows 7 (s'.ns.map GExprNode.row))]) := by
 refine con_of2 k_c_qand_fits rfl fun C hP hmv => ?_
 unfold k_c_qand
 obtain ⟨s1, l, h1, hj⟩ := joP_some h
 obtain ⟨ok1, op1⟩ := qrs_ro f 2 _ _ _ hs h1
 have su1 := (qrs_su f 2 _ _ _ h1).trans hu
 refine cx_seq ?_
 refine cx_ops ?_
 refine ax_q (q_mov rfl) ?_
 refine ax_nil ?_
 refine cx_keep rfl rfl ?_
 refine cx_seq ?_
 refine cx_ops ?_
 refine ax_q (q_mov rfl) ?_
 refine ax_call rfl (vcall_own (ih s s1 l hs hu h1) hP hmv false (fun e => bif Nat.beq e 1000 then 1000 else 1001) [1000, 1001] ⟨rfl, rfl, rfl, rfl, ⟨rfl, rfl, trivial⟩, rfl, rfl, rfl⟩ (.pass rfl rfl .nil) ?_)
 rintro r h ⟨rfl, rfl⟩
 refine ⟨(fun e => bif Nat.beq e 1000 then 1000 else 1001), [], ⟨rfl, rfl, rfl, rfl, mem2 rfl rfl, rfl, rfl, fun h => absurd h Bool.false_ne_true⟩, ?_⟩
 try dsimp only [dpP]
 refine ax_q (q_mov rfl) ?_
 refine ax_nil ?_
 refine cx_keep rfl rfl ?_
 refine cx_seq ?_
 refine cx_block ?_
 refine cx_loopU (fun n (p : Nat × PS × Int) => n = p.1 ∧ p.2.1.ok ∧ p.2.1.tk <:+ tk0 ∧ joL (qrs f 2) [12] p.1 p.2.1 p.2.2 = some (s', k)) (fun p => [(3, int p.2.2)]) (fun p => [(1000, .box [.d (.sl 1 (tk0.map strRow)), int ((tk0.length - p.2.1.tk.length : Nat) : Int), .osl 1001 7 0 p.2.1.ns.length, int 0, int (p.2.1.op : Int)]), (1001, .rows 7 (p.2.1.ns.map GExprNode.row))]) ⟨_, (f, s1, l), ⟨rfl, ok1, su1, hj⟩, by repeat (first | exact trivial | refine ⟨rfl, ?_⟩ | refine ⟨?_, ?_⟩)⟩ ?_
 rintro n ⟨fu, c, lf⟩ ⟨rfl, okc, suc, hjc⟩
 obtain ⟨fu, rfl⟩ := joL_pos hjc
 simp only at okc suc hjc ⊢
 refine cx_seq ?_
 refine cx_seq ?_
 refine cx_ops ?_
 refine ax_q (q_mov rfl) ?_
 refine ax_call rfl (vcall_own (c_qtake (s := c) (tk0 := tk0) (t := [97, 110, 100]) okc suc h0l (by decide)) hP hmv false (fun e => bif Nat.beq e 1000 then 1000 else 1001) [1000, 1001] ⟨rfl, rfl, rfl, rfl, ⟨rfl, rfl, trivial⟩, rfl, rfl, rfl⟩ (.pass rfl rfl (.pass rfl rfl .nil)) ?_)
 rintro r h ⟨rfl, rfl⟩
 refine ⟨(fun e => bif Nat.beq e 1000 then 1000 else 1001), [], ⟨rfl, rfl, rfl, rfl, mem2 rfl rfl, rfl, rfl, fun h => absurd h Bool.false_ne_true⟩, ?_⟩
 try dsimp only [dpP]
 refine ax_nil ?_
 refine cx_keep rfl rfl ?_
 refine cx_cond rfl (fun h0 => ?_) (fun h0 => ?_)
 ·
  skip
  obtain ⟨s2, r, s3, k3, hr, hn, hj3⟩ := joL_more hjc (pk1_t h0) (by decide)
  obtain ⟨ok2, op2⟩ := qrs_ro f 2 _ _ _ (okc.dp 1) hr
  have su2 := (qrs_su f 2 _ _ _ hr).trans (dp_su.trans suc)
  have ok3 := ok2.nd hn
  have su3 := (nd_su hn).trans su2
  rw [skP_t h0]
  refine cx_skip ?_
  refine cx_keep rfl rfl ?_
  refine cx_block ?_
  refine cx_seq ?_
  refine cx_ops ?_
  refine ax_q (q_mov rfl) ?_
  refine ax_call rfl (vcall_own (ih _ s2 r (okc.dp 1) (dp_su.trans suc) hr) hP hmv false (fun e => bif Nat.beq e 1000 then 1000 else 1001) [1000, 1001] ⟨rfl, rfl, rfl, rfl, ⟨rfl, rfl, trivial⟩, rfl, rfl, rfl⟩ (.pass rfl rfl .nil) ?_)
  rintro r h ⟨rfl, rfl⟩
  refine ⟨(fun e => bif Nat.beq e 1000 then 1000 else 1001), [], ⟨rfl, rfl, rfl, rfl, mem2 rfl rfl, rfl, rfl, fun h => absurd h Bool.false_ne_true⟩, ?_⟩
  try dsimp only [dpP]
  refine ax_q (q_mov rfl) ?_
  refine ax_nil ?_
  refine cx_keep rfl rfl ?_
  refine cx_ops ?_
  refine ax_q (q_mov rfl) ?_
  refine ax_q (q_mov rfl) ?_
  refine ax_q (q_mov rfl) ?_
  refine ax_q (q_build rfl) ?_
  refine ax_call rfl (vcall_own (c_qput (n := nd 12 lf r) ok2 su2 h0l hn) hP hmv false (fun e => bif Nat.beq e 1000 then 1000 else 1001) [1000, 1001] ⟨rfl, rfl, rfl, rfl, ⟨rfl, rfl, trivial⟩, rfl, rfl, rfl⟩ (.pass rfl rfl (.pass rfl rfl .nil)) ?_)
  rintro r h ⟨rfl, rfl⟩
  refine ⟨(fun e => bif Nat.beq e 1000 then 1000 else 1001), [], ⟨rfl, rfl, rfl, rfl, mem2 rfl rfl, rfl, rfl, fun h => absurd h Bool.false_ne_true⟩, ?_⟩
  try dsimp only [dpP]
  refine ax_q (q_mov rfl) ?_
  refine ax_nil ?_
  exact ⟨_, (fu, s3, k3), by simp only; omega, ⟨rfl, ok3, su3, hj3⟩, by repeat (first | exact trivial | refine ⟨rfl, ?_⟩ | refine ⟨?_, ?_⟩)⟩
 ·
  skip
  obtain ⟨rfl, rfl⟩ := joL_stop hjc (pk_no1 h0) rfl
  rw [skP_f h0]
  refine cx_exit rfl ?_
  refine cx_keep rfl rfl ?_
  refine cx_seq ?_
  refine cx_ops ?_
  refine ax_q (q_mov rfl) ?_
  refine ax_q (q_mov rfl) ?_
  refine ax_nil ?_
  refine cx_keep rfl rfl ?_
  refine cx_ret (retN id [1000, 1001] rfl rfl rfl rfl rfl ?_)
  exact ⟨rfl, rfl⟩


/- (ptr loop.example/g00332/spec.l10Parser).or -/
def k_c_qor : XCode :=
 .seq (.ops [.op (some 2) (.mov (.k (.int .i64 0)))])
 (.keep [0] (.seq (.ops [.op (some 5) (.mov (.t 0)),
   .call (some 6) 95 [.t 5],
   .op (some 3) (.mov (.t 6))])
 (.keep [0, 3] (.seq (.block 0 (.loop (.seq (.seq (.ops [.op (some 7) (.mov (.t 0)),
     .call (some 8) 96 [.t 7, .k (.str [111, 114])]])
   (.keep [0, 3, 8] (.cond (.t 8)
    (.skip)
    (.exit 0))))
   (.keep [0, 3] (.block 1 (.seq (.ops [.op (some 9) (.mov (.t 0)),
     .call (some 10) 95 [.t 9],
     .op (some 4) (.mov (.t 10))])
   (.keep [0, 3, 4] (.ops [.op (some 11) (.mov (.t 0)),
    .op (some 12) (.mov (.t 3)),
    .op (some 13) (.mov (.t 4)),
    .op (some 14) (.build [.int .i64 0, .int .i64 0, .int .i64 0, .int .i64 0, .int .i64 0, .int .i64 0, .str []] [(0, 1, .k (.int .i64 13)), (1, 1, .t 12), (2, 1, .t 13)]),
    .call (some 15) 97 [.t 11, .t 14],
    .op (some 3) (.mov (.t 15))]))))))))
 (.keep [3] (.seq (.ops [.op (some 16) (.mov (.t 3)),
   .op (some 2) (.mov (.t 16))])
 (.keep [2] (.ret))))))))
theorem k_c_qor_fits : fitsF Tryz.prog 67 ⟨17, k_c_qor, [.t 2]⟩ = true := by kernel_rfl
set_option maxHeartbeats 4000000 in
theorem c_qor {f : Nat} {s s' : PS} {tk0 : List Str} {k : Int} (hs : s.ok) (hu : s.tk <:+ tk0) (h0l : tk0.length ≤ 500) (ih : RQ Tryz.prog tk0 95 (qrs f 1)) (h : qrs (f + 1) 0 s = some (s', k)) : Con Tryz.prog (fun e => Nat.beq e 1001) 67 [.ptr 1000 0] [(1000, .box [.d (.sl 1 (tk0.map strRow)), int ((tk0.length - s.tk.length : Nat) : Int), .osl 1001 7 0 s.ns.length, int 0, int (s.op : Int)]), (1001, .rows 7 (s.ns.map GExprNode.row))] (fun r h => r = int k ∧ h = [(1000, .box [.d (.sl 1 (tk0.map strRow)), int ((tk0.length - s'.tk.length : Nat) : Int), .osl 1001 7 0 s'.ns.length, int 0, int (s'.op : Int)]), (1001, .rows 7 (s'.ns.map GExprNode.row))]) := by
 refine con_of2 k_c_qor_fits rfl fun C hP hmv => ?_
 unfold k_c_qor
 obtain ⟨s1, l, h1, hj⟩ := joP_some h
 obtain ⟨ok1, op1⟩ := qrs_ro f 1 _ _ _ hs h1
 have su1 := (qrs_su f 1 _ _ _ h1).trans hu
 refine cx_seq ?_
 refine cx_ops ?_
 refine ax_q (q_mov rfl) ?_
 refine ax_nil ?_
 refine cx_keep rfl rfl ?_
 refine cx_seq ?_
 refine cx_ops ?_
 refine ax_q (q_mov rfl) ?_
 refine ax_call rfl (vcall_own (ih s s1 l hs hu h1) hP hmv false (fun e => bif Nat.beq e 1000 then 1000 else 1001) [1000, 1001] ⟨rfl, rfl, rfl, rfl, ⟨rfl, rfl, trivial⟩, rfl, rfl, rfl⟩ (.pass rfl rfl .nil) ?_)
 rintro r h ⟨rfl, rfl⟩
 refine ⟨(fun e => bif Nat.beq e 1000 then 1000 else 1001), [], ⟨rfl, rfl, rfl, rfl, mem2 rfl rfl, rfl, rfl, fun h => absurd h Bool.false_ne_true⟩, ?_⟩
 try dsimp only [dpP]
 refine ax_q (q_mov rfl) ?_
 refine ax_nil ?_
 refine cx_keep rfl rfl ?_
 refine cx_seq ?_
 refine cx_block ?_
 refine cx_loopU (fun n (p : Nat × PS × Int) => n = p.1 ∧ p.2.1.ok ∧ p.2.1.tk <:+ tk0 ∧ joL (qrs f 1) [13] p.1 p.2.1 p.2.2 = some (s', k)) (fun p => [(3, int p.2.2)]) (fun p => [(1000, .box [.d (.sl 1 (tk0.map strRow)), int ((tk0.length - p.2.1.tk.length : Nat) : Int), .osl 1001 7 0 p.2.1.ns.length, int 0, int (p.2.1.op : Int)]), (1001, .rows 7 (p.2.1.ns.map GExprNode.row))]) ⟨_, (f, s1, l), ⟨rfl, ok1, su1, hj⟩, by repeat (first | exact trivial | refine ⟨rfl, ?_⟩ | refine ⟨?_, ?_⟩)⟩ ?_
 rintro n ⟨fu, c, lf⟩ ⟨rfl, okc, suc, hjc⟩
 obtain ⟨fu, rfl⟩ := joL_pos hjc
 simp only at okc suc hjc ⊢
 refine cx_seq ?_
 refine cx_seq ?_
 refine cx_ops ?_
 refine ax_q (q_mov rfl) ?_
 refine ax_call rfl (vcall_own (c_qtake (s := c) (tk0 := tk0) (t := [111, 114]) okc suc h0l (by decide)) hP hmv false (fun e => bif Nat.beq e 1000 then 1000 else 1001) [1000, 1001] ⟨rfl, rfl, rfl, rfl, ⟨rfl, rfl, trivial⟩, rfl, rfl, rfl⟩ (.pass rfl rfl (.pass rfl rfl .nil)) ?_)
 rintro r h ⟨rfl, rfl⟩
 refine ⟨(fun e => bif Nat.beq e 1000 then 1000 else 1001), [], ⟨rfl, rfl, rfl, rfl, mem2 rfl rfl, rfl, rfl, fun h => absurd h Bool.false_ne_true⟩, ?_⟩
 try dsimp only [dpP]
 refine ax_nil ?_
 refine cx_keep rfl rfl ?_
 refine cx_cond rfl (fun h0 => ?_) (fun h0 => ?_)
 ·
  skip
  obtain ⟨s2, r, s3, k3, hr, hn, hj3⟩ := joL_more hjc (pk1_t h0) (by decide)
  obtain ⟨ok2, op2⟩ := qrs_ro f 1 _ _ _ (okc.dp 1) hr
  have su2 := (qrs_su f 1 _ _ _ hr).trans (dp_su.trans suc)
  have ok3 := ok2.nd hn
  have su3 := (nd_su hn).trans su2
  rw [skP_t h0]
  refine cx_skip ?_
  refine cx_keep rfl rfl ?_
  refine cx_block ?_
  refine cx_seq ?_
  refine cx_ops ?_
  refine ax_q (q_mov rfl) ?_
  refine ax_call rfl (vcall_own (ih _ s2 r (okc.dp 1) (dp_su.trans suc) hr) hP hmv false (fun e => bif Nat.beq e 1000 then 1000 else 1001) [1000, 1001] ⟨rfl, rfl, rfl, rfl, ⟨rfl, rfl, trivial⟩, rfl, rfl, rfl⟩ (.pass rfl rfl .nil) ?_)
  rintro r h ⟨rfl, rfl⟩
  refine ⟨(fun e => bif Nat.beq e 1000 then 1000 else 1001), [], ⟨rfl, rfl, rfl, rfl, mem2 rfl rfl, rfl, rfl, fun h => absurd h Bool.false_ne_true⟩, ?_⟩
  try dsimp only [dpP]
  refine ax_q (q_mov rfl) ?_
  refine ax_nil ?_
  refine cx_keep rfl rfl ?_
  refine cx_ops ?_
  refine ax_q (q_mov rfl) ?_
  refine ax_q (q_mov rfl) ?_
  refine ax_q (q_mov rfl) ?_
  refine ax_q (q_build rfl) ?_
  refine ax_call rfl (vcall_own (c_qput (n := nd 13 lf r) ok2 su2 h0l hn) hP hmv false (fun e => bif Nat.beq e 1000 then 1000 else 1001) [1000, 1001] ⟨rfl, rfl, rfl, rfl, ⟨rfl, rfl, trivial⟩, rfl, rfl, rfl⟩ (.pass rfl rfl (.pass rfl rfl .nil)) ?_)
  rintro r h ⟨rfl, rfl⟩
  refine ⟨(fun e => bif Nat.beq e 1000 then 1000 else 1001), [], ⟨rfl, rfl, rfl, rfl, mem2 rfl rfl, rfl, rfl, fun h => absurd h Bool.false_ne_true⟩, ?_⟩
  try dsimp only [dpP]
  refine ax_q (q_mov rfl) ?_
  refine ax_nil ?_
  exact ⟨_, (fu, s3, k3), by simp only; omega, ⟨rfl, ok3, su3, hj3⟩, by repeat (first | exact trivial | refine ⟨rfl, ?_⟩ | refine ⟨?_, ?_⟩)⟩
 ·
  skip
  obtain ⟨rfl, rfl⟩ := joL_stop hjc (pk_no1 h0) rfl
  rw [skP_f h0]
  refine cx_exit rfl ?_
  refine cx_keep rfl rfl ?_
  refine cx_seq ?_
  refine cx_ops ?_
  refine ax_q (q_mov rfl) ?_
  refine ax_q (q_mov rfl) ?_
  refine ax_nil ?_
  refine cx_keep rfl rfl ?_
  refine cx_ret (retN id [1000, 1001] rfl rfl rfl rfl rfl ?_)
  exact ⟨rfl, rfl⟩


theorem qrs_rc {tk0 : List Str} (h0l : tk0.length ≤ 500) : ∀ f : Nat, RQ Tryz.prog tk0 67 (qrs f 0) ∧ RQ Tryz.prog tk0 95 (qrs f 1) ∧ RQ Tryz.prog tk0 106 (qrs f 2) ∧ RQ Tryz.prog tk0 117 (qrs f 3) ∧ RQ Tryz.prog tk0 127 (qrs f 4) ∧ RQ Tryz.prog tk0 138 (qrs f 5) ∧ RQ Tryz.prog tk0 151 (qrs f 6) ∧ RQ Tryz.prog tk0 158 (qrs f 7)
 | 0 => ⟨(fun _ _ _ _ _ h => (by cases h)), (fun _ _ _ _ _ h => (by cases h)), (fun _ _ _ _ _ h => (by cases h)), (fun _ _ _ _ _ h => (by cases h)), (fun _ _ _ _ _ h => (by cases h)), (fun _ _ _ _ _ h => (by cases h)), (fun _ _ _ _ _ h => (by cases h)), (fun _ _ _ _ _ h => (by cases h))⟩
 | f + 1 => by
  obtain ⟨h0, h1, h2, h3, h4, h5, h6, h7⟩ := qrs_rc h0l f
  exact ⟨fun _ _ _ hs hu h => c_qor hs hu h0l h1 h, fun _ _ _ hs hu h => c_qand hs hu h0l h2 h, fun _ _ _ hs hu h => c_qnot hs hu h0l h3 h, fun _ _ _ hs hu h => c_qcmp hs hu h0l h4 h, fun _ _ _ hs hu h => c_qsum hs hu h0l h5 h, fun _ _ _ hs hu h => c_qprod hs hu h0l h6 h, fun _ _ _ hs hu h => c_qun hs hu h0l h7 h, fun _ _ _ hs hu h => c_qprim hs hu h0l h0 h⟩

/- loop.example/g00332/spec.l10Parse -/
def k_c_l10Parse : XCode :=
 .seq (.ops [.op (some 4) (.alloc [.nils 7]),
   .op (some 5) (.mov (.k (.int .i64 0))),
   .op (some 6) (.mov (.k (.int .i64 0)))])
 (.keep [0, 1, 4] (.seq (.ops [.op (some 9) (.mov (.t 0)),
   .op (some 10) (.mov (.t 1)),
   .op (some 11) (.bslice 7 []),
   .op (some 12) (.build [.nils 1, .int .i64 0, .nils 7, .int .i64 0, .int .i64 0] [(0, 1, .t 9), (1, 1, .t 10), (2, 1, .t 11)]),
   .op (some 13) (.box (.t 12)),
   .op (some 7) (.mov (.t 13))])
 (.keep [4, 7] (.seq (.ops [.op (some 14) (.mov (.t 7)),
   .call (some 15) 67 [.t 14]])
 (.keep [4, 7] (.seq (.seq (.ops [.op (some 16) (.mov (.t 7)),
   .op (some 17) (.nilck (.t 16)),
   .op (some 18) (.fadr (.t 17) 3),
   .op (some 19) (.load1 (.t 18)),
   .op (some 20) (.bin .neq (.t 19) (.k (.int .i64 0)))])
  (.keep [4, 7, 20] (.cond (.t 20)
  (.seq (.drawE [[], [], [1], [1, 2], [1, 2, 3], [0], [0, 5], [0, 1, 2, 3, 4, 5, 6]] [.op (some 21) (.build [.nils 7] []),
    .op (some 22) (.mov (.t 7)),
    .op (some 23) (.nilck (.t 22)),
    .op (some 24) (.fadr (.t 23) 3),
    .op (some 25) (.load1 (.t 24)),
    .op none (.store 1 (.t 4) (.t 21)),
    .op (some 5) (.mov (.k (.int .i64 0)))]
    [.op (some 6) (.mov (.t 25))])
   (.keep [4, 5, 6] (.ret)))
  (.skip))))
 (.keep [4, 7] (.seq (.ops [.op (some 26) (.mov (.t 7)),
   .op (some 27) (.nilck (.t 26)),
   .op (some 28) (.fadr (.t 27) 2),
   .op (some 29) (.load1 (.t 28)),
   .op (some 30) (.build [.nils 7] [(0, 1, .t 29)]),
   .op (some 8) (.alloc [.nils 7]),
   .op none (.store 1 (.t 8) (.t 30))])
 (.keep [4, 7, 8] (.seq (.seq (.ops [.op (some 31) (.loadN 1 (.t 8)),
   .call (some 32) 26 [.t 31],
   .op (some 33) (.not (.t 32))])
  (.keep [4, 7, 8, 33] (.cond (.t 33)
  (.seq (.ops [.op (some 34) (.build [.nils 7] []),
    .op none (.store 1 (.t 4) (.t 34)),
    .op (some 5) (.mov (.k (.int .i64 0))),
    .op (some 6) (.mov (.k (.int .i64 16)))])
   (.keep [4, 5, 6] (.ret)))
  (.skip))))
 (.keep [4, 7, 8] (.seq (.drawE [[], [], [1], [1, 2], [1, 2, 3], [0], [0, 1, 2, 3, 4, 5], [0, 1, 2, 3, 4, 5, 6]] [.op (some 35) (.loadN 1 (.t 8)),
   .op (some 36) (.mov (.t 7)),
   .op (some 37) (.nilck (.t 36)),
   .op (some 38) (.fadr (.t 37) 1),
   .op (some 39) (.load1 (.t 38)),
   .op none (.store 1 (.t 4) (.t 35))]
  [.op (some 5) (.mov (.t 39)),
   .op (some 6) (.mov (.k (.int .i64 0)))])
 (.keep [4, 5, 6] (.ret))))))))))))))
theorem k_c_l10Parse_fits : fitsF Tryz.prog 36 ⟨40, k_c_l10Parse, [.cN 4 1, .t 5, .t 6]⟩ = true := by kernel_rfl
set_option maxHeartbeats 4000000 in
theorem c_l10Parse {f : Nat} {tk0 : List Str} {e : GExpr} {k : Int} (h0l : tk0.length ≤ 500) (hok : ∀ t ∈ tk0, okT t) (h : qrs f 0 ⟨tk0, [], 0⟩ = some (⟨[], e.Nodes, 0⟩, k)) (he : exprOK e = true) : Con Tryz.prog noMv 36 [.d (.sl 1 (tk0.map strRow)), int 0] [] (fun r h => r = .tup [.agg [.osl 0 7 0 e.Nodes.length], int (tk0.length : Int), int 0] ∧ h = [(0, .rows 7 (e.Nodes.map GExprNode.row))]) := by
 refine con_of2 k_c_l10Parse_fits rfl fun C hP hmv => ?_
 unfold k_c_l10Parse
 have hs : PS.ok ⟨tk0, [], 0⟩ := ⟨hok, h0l, Nat.zero_le _, Nat.zero_le _⟩
 obtain ⟨hw, hv⟩ := expr_ok_sz he
 refine cx_seq ?_
 refine cx_ops ?_
 refine ax_e (e_alloc (by decide) rfl rfl) ?_
 refine ax_q (q_mov rfl) ?_
 refine ax_q (q_mov rfl) ?_
 refine ax_nil ?_
 refine cx_keep rfl rfl ?_
 refine cx_seq ?_
 refine cx_ops ?_
 refine ax_q (q_mov rfl) ?_
 refine ax_q (q_mov rfl) ?_
 refine ax_e (e_bslice rfl (by decide) rfl rfl) ?_
 refine ax_q (q_build rfl) ?_
 refine ax_e (e_box rfl rfl (by decide) rfl rfl rfl) ?_
 refine ax_q (q_mov rfl) ?_
 refine ax_nil ?_
 refine cx_keep rfl rfl ?_
 refine cx_seq ?_
 refine cx_ops ?_
 refine ax_q (q_mov rfl) ?_
 have hq := (qrs_rc h0l f).1 ⟨tk0, [], 0⟩ ⟨[], e.Nodes, 0⟩ k hs (List.suffix_refl _) h
 dsimp only at hq
 rw [Nat.sub_self] at hq
 refine ax_call rfl (vcall_own hq hP hmv false (fun e => bif Nat.beq e 1000 then 13 else 11) [1000, 1001] ⟨rfl, rfl, rfl, rfl, ⟨rfl, rfl, trivial⟩, rfl, rfl, rfl⟩ (.pass rfl rfl .nil) ?_)
 rintro r h ⟨rfl, rfl⟩
 refine ⟨(fun e => bif Nat.beq e 1000 then 13 else 11), [], ⟨rfl, rfl, rfl, rfl, mem2 rfl rfl, rfl, rfl, fun h => absurd h Bool.false_ne_true⟩, ?_⟩
 refine ax_nil ?_
 refine cx_keep rfl rfl ?_
 refine cx_seq ?_
 refine cx_seq ?_
 refine cx_ops ?_
 refine ax_q (q_mov rfl) ?_
 first | refine ax_q (q_nilck_ptr rfl) ?_ | refine ax_q (q_nilck_rptr rfl) ?_ | refine ax_q (q_nilck_ip rfl) ?_
 first | refine ax_q (q_fadr_ptr rfl) ?_ | refine ax_q (q_fadr_rptr rfl) ?_ | refine ax_q (q_fadr_ip rfl) ?_
 first | refine ax_q (q_load1_ptr rfl rfl rfl) ?_ | refine ax_q (q_load1_ip rfl) ?_ | refine ax_q (q_load1_rptr rfl rfl rfl rfl) ?_ | refine ax_q (q_load1_rptr rfl rfl (by assumption) rfl) ?_ | refine ax_q (q_load1_rptr rfl rfl (mapAt (by first | assumption | omega)) rfl) ?_
 refine ax_q (q_ibin rfl rfl rfl) ?_
 refine ax_nil ?_
 refine cx_keep rfl rfl ?_
 refine cx_cond rfl (fun h0 => ?_) (fun h0 => ?_)
 ·
  have h0 := nT h0
  exact absurd rfl h0
 ·
  have h0 := nF h0
  refine cx_skip ?_
  refine cx_keep rfl rfl ?_
  refine cx_seq ?_
  refine cx_ops ?_
  refine ax_q (q_mov rfl) ?_
  first | refine ax_q (q_nilck_ptr rfl) ?_ | refine ax_q (q_nilck_rptr rfl) ?_ | refine ax_q (q_nilck_ip rfl) ?_
  first | refine ax_q (q_fadr_ptr rfl) ?_ | refine ax_q (q_fadr_rptr rfl) ?_ | refine ax_q (q_fadr_ip rfl) ?_
  first | refine ax_q (q_load1_ptr rfl rfl rfl) ?_ | refine ax_q (q_load1_ip rfl) ?_ | refine ax_q (q_load1_rptr rfl rfl rfl rfl) ?_ | refine ax_q (q_load1_rptr rfl rfl (by assumption) rfl) ?_ | refine ax_q (q_load1_rptr rfl rfl (mapAt (by first | assumption | omega)) rfl) ?_
  refine ax_q (q_build rfl) ?_
  refine ax_e (e_alloc (by decide) rfl rfl) ?_
  refine ax_e (e_st rfl rfl rfl rfl rfl rfl rfl) ?_
  refine ax_nil ?_
  refine cx_keep rfl rfl ?_
  refine cx_seq ?_
  refine cx_seq ?_
  refine cx_ops ?_
  refine ax_q (q_ldN rfl rfl rfl) ?_
  first | refine ax_call rfl (vc_pure0 (c_sExprOK (e := e) ?_ ?_) hP rfl rfl ?_) | refine ax_call rfl (vc_lend0 (c_sExprOK (e := e) ?_ ?_) hP (by repeat (first | exact lal_id _ rfl | exact LAL.nil | refine LAL.cons ?_ ?_ | exact la_id _ rfl | exact LA.lend (lend_whole rfl (by first | (simp; done) | (rw [List.length_map]; rfl))) | refine LA.agg ?_ | refine LA.fn ?_ | refine LA.lend ?_ | exact Lend.d _ | exact Lend.zs _ | exact lend_whole rfl (by first | (simp; done) | (rw [List.length_map]; rfl)) | refine Lend.ptr rfl ?_ | refine Lend.fn ?_ | exact LendL.nil | refine LendL.cons ?_ ?_)) rfl rfl ?_)
  ·
   first | assumption | omega | (simp; done) | (simp; omega)
  ·
   first | assumption | omega | (simp; done) | (simp; omega)
  refine ax_q (q_not rfl) ?_
  refine ax_nil ?_
  refine cx_keep rfl rfl ?_
  refine cx_cond rfl (fun h1 => ?_) (fun h1 => ?_)
  ·
   have h1 := bT h1
   rw [he] at h1; cases h1
  ·
   have h1 := bF h1
   refine cx_skip ?_
   refine cx_keep rfl rfl ?_
   refine cx_seq ?_
   refine cx_drawL 5 5000 (fun _ => false) (fun _ => true) [] ([(4, .box [.osl 11 7 0 e.Nodes.length])]) [[8], [7], [36], [37], [38], [4, 35]] [[], [4], [4], [4], [4], [4]] rfl ?_
   first | refine ⟨_, .inr ⟨rfl, _, rfl, .inl rfl, loc_q (q_ldN rfl rfl rfl)⟩, ?_⟩
   first | refine ⟨_, .inr ⟨rfl, _, rfl, .inr ⟨rfl, rfl, .inr rfl, rfl, rfl⟩, loc_q (q_mov rfl)⟩, ?_⟩
   first | refine ⟨_, .inr ⟨rfl, _, rfl, .inr ⟨rfl, rfl, .inr rfl, rfl, rfl⟩, loc_q (q_nilck_ptr rfl)⟩, ?_⟩ | refine ⟨_, .inr ⟨rfl, _, rfl, .inr ⟨rfl, rfl, .inr rfl, rfl, rfl⟩, loc_q (q_nilck_rptr rfl)⟩, ?_⟩ | refine ⟨_, .inr ⟨rfl, _, rfl, .inr ⟨rfl, rfl, .inr rfl, rfl, rfl⟩, loc_q (q_nilck_ip rfl)⟩, ?_⟩
   first | refine ⟨_, .inr ⟨rfl, _, rfl, .inr ⟨rfl, rfl, .inr rfl, rfl, rfl⟩, loc_q (q_fadr_ptr rfl)⟩, ?_⟩ | refine ⟨_, .inr ⟨rfl, _, rfl, .inr ⟨rfl, rfl, .inr rfl, rfl, rfl⟩, loc_q (q_fadr_rptr rfl)⟩, ?_⟩ | refine ⟨_, .inr ⟨rfl, _, rfl, .inr ⟨rfl, rfl, .inr rfl, rfl, rfl⟩, loc_q (q_fadr_ip rfl)⟩, ?_⟩
   first | refine ⟨_, .inr ⟨rfl, _, rfl, .inr ⟨rfl, rfl, .inr rfl, rfl, rfl⟩, loc_q (q_load1_ptr rfl rfl rfl)⟩, ?_⟩ | refine ⟨_, .inr ⟨rfl, _, rfl, .inr ⟨rfl, rfl, .inr rfl, rfl, rfl⟩, loc_q (q_load1_ip rfl)⟩, ?_⟩ | refine ⟨_, .inr ⟨rfl, _, rfl, .inr ⟨rfl, rfl, .inr rfl, rfl, rfl⟩, loc_q (q_load1_rptr rfl rfl rfl rfl)⟩, ?_⟩ | refine ⟨_, .inr ⟨rfl, _, rfl, .inr ⟨rfl, rfl, .inr rfl, rfl, rfl⟩, loc_q (q_load1_rptr rfl rfl (by assumption) rfl)⟩, ?_⟩ | refine ⟨_, .inr ⟨rfl, _, rfl, .inr ⟨rfl, rfl, .inr rfl, rfl, rfl⟩, loc_q (q_load1_rptr rfl rfl (mapAt (by first | assumption | omega)) rfl)⟩, ?_⟩
   refine ⟨⟨5000, .dead, []⟩, .inl ⟨rfl, rfl, rfl, locl_st rfl rfl rfl rfl rfl rfl rfl⟩, ?_⟩
   refine ⟨rfl, ?_⟩
   refine ax_q (q_mov rfl) ?_
   refine ax_q (q_mov rfl) ?_
   refine ax_nil ?_
   refine cx_keep rfl rfl ?_
   refine cx_ret (retN (fun _ => 0) [11] rfl rfl rfl rfl rfl ?_)
   exact ⟨rfl, rfl⟩


/- loop.example/g00332/spec.ParseExpr -/
def k_c_sParseExpr : XCode :=
 .seq (.ops [.op (some 2) (.alloc [.nils 7]),
   .op (some 3) (.mov (.k (.int .i64 0)))])
 (.keep [0, 2] (.seq (.seq (.ops [.op (some 8) (.mov (.t 0)),
   .op (some 9) (.lenT (.t 8)),
   .op (some 10) (.bin .gtr (.t 9) (.k (.int .i64 65536)))])
  (.keep [0, 2, 10] (.cond (.t 10)
  (.seq (.ops [.op (some 11) (.build [.nils 7] []),
    .op none (.store 1 (.t 2) (.t 11)),
    .op (some 3) (.mov (.k (.int .i64 2)))])
   (.keep [2, 3] (.ret)))
  (.skip))))
 (.keep [0, 2] (.seq (.ops [.op (some 13) (.mov (.t 0)),
   .call (some 14) 33 [.t 13],
   .op (some 12) (.mov (.t 14)),
   .op (some 15) (.ext (.t 12) 0),
   .op (some 16) (.ext (.t 12) 1),
   .op (some 4) (.mov (.t 15)),
   .op (some 5) (.mov (.t 16))])
 (.keep [2, 4, 5] (.seq (.seq (.ops [.op (some 17) (.mov (.t 5)),
   .op (some 18) (.bin .neq (.t 17) (.k (.int .i64 0)))])
  (.keep [2, 4, 5, 18] (.cond (.t 18)
  (.seq (.ops [.op (some 19) (.build [.nils 7] []),
    .op (some 20) (.mov (.t 5)),
    .op none (.store 1 (.t 2) (.t 19)),
    .op (some 3) (.mov (.t 20))])
   (.keep [2, 3] (.ret)))
  (.skip))))
 (.keep [2, 4] (.seq (.ops [.op (some 22) (.mov (.t 4)),
   .call (some 23) 36 [.t 22, .k (.int .i64 0)],
   .op (some 21) (.mov (.t 23)),
   .op (some 24) (.ext (.t 21) 0),
   .op (some 25) (.ext (.t 21) 1),
   .op (some 26) (.ext (.t 21) 2),
   .op (some 6) (.alloc [.nils 7]),
   .op none (.store 1 (.t 6) (.t 24)),
   .op (some 7) (.mov (.t 25)),
   .op (some 5) (.mov (.t 26))])
 (.keep [2, 4, 5, 6, 7] (.seq (.seq (.ops [.op (some 27) (.mov (.t 5)),
   .op (some 28) (.bin .neq (.t 27) (.k (.int .i64 0)))])
  (.keep [2, 4, 5, 6, 7, 28] (.cond (.t 28)
  (.seq (.ops [.op (some 29) (.build [.nils 7] []),
    .op (some 30) (.mov (.t 5)),
    .op none (.store 1 (.t 2) (.t 29)),
    .op (some 3) (.mov (.t 30))])
   (.keep [2, 3] (.ret)))
  (.skip))))
 (.keep [2, 4, 6, 7] (.seq (.seq (.ops [.op (some 31) (.mov (.t 7)),
   .op (some 32) (.mov (.t 4)),
   .op (some 33) (.lenS (.t 32)),
   .op (some 34) (.bin .neq (.t 31) (.t 33))])
  (.keep [2, 6, 34] (.cond (.t 34)
  (.seq (.ops [.op (some 35) (.build [.nils 7] []),
    .op none (.store 1 (.t 2) (.t 35)),
    .op (some 3) (.mov (.k (.int .i64 3)))])
   (.keep [2, 3] (.ret)))
  (.skip))))
 (.keep [2, 6] (.seq (.ops [.op (some 36) (.loadN 1 (.t 6)),
   .op none (.store 1 (.t 2) (.t 36)),
   .op (some 3) (.mov (.k (.int .i64 0)))])
 (.keep [2, 3] (.ret))))))))))))))))
theorem k_c_sParseExpr_fits : fitsF Tryz.prog 16 ⟨37, k_c_sParseExpr, [.cN 2 1, .t 3]⟩ = true := by kernel_rfl
set_option maxHeartbeats 4000000 in
theorem c_sParseExpr {t : Str} {e : GExpr} (h : QEok t e) : Con Tryz.prog noMv 16 [str t] [] (fun r h => r = .tup [.agg [.osl 0 7 0 e.Nodes.length], int 0] ∧ h = [(0, .rows 7 (e.Nodes.map GExprNode.row))]) := by
 refine con_of2 k_c_sParseExpr_fits rfl fun C hP hmv => ?_
 unfold k_c_sParseExpr
 obtain ⟨hl, tk, f, k, hlx, htl, hok, hp, he⟩ := h
 refine cx_seq ?_
 refine cx_ops ?_
 refine ax_e (e_alloc (by decide) rfl rfl) ?_
 refine ax_q (q_mov rfl) ?_
 refine ax_nil ?_
 refine cx_keep rfl rfl ?_
 refine cx_seq ?_
 refine cx_seq ?_
 refine cx_ops ?_
 refine ax_q (q_mov rfl) ?_
 refine ax_q (q_lenT rfl) ?_
 refine ax_q (q_ibin rfl rfl rfl) ?_
 refine ax_nil ?_
 refine cx_keep rfl rfl ?_
 refine cx_cond rfl (fun h0 => ?_) (fun h0 => ?_)
 ·
  have h0 := dT h0
  exfalso; omega
 ·
  have h0 := dF h0
  refine cx_skip ?_
  refine cx_keep rfl rfl ?_
  refine cx_seq ?_
  refine cx_ops ?_
  refine ax_q (q_mov rfl) ?_
  first | refine ax_call rfl (vc_pure (c_sLex (t := t) (ts := tk) ?_ ?_ ?_) hP rfl ?_) | refine ax_call rfl (vc_lend (c_sLex (t := t) (ts := tk) ?_ ?_ ?_) hP (by repeat (first | exact lal_id _ rfl | exact LAL.nil | refine LAL.cons ?_ ?_ | exact la_id _ rfl | exact LA.lend (lend_whole rfl (by first | (simp; done) | (rw [List.length_map]; rfl))) | refine LA.agg ?_ | refine LA.fn ?_ | refine LA.lend ?_ | exact Lend.d _ | exact Lend.zs _ | exact lend_whole rfl (by first | (simp; done) | (rw [List.length_map]; rfl)) | refine Lend.ptr rfl ?_ | refine Lend.fn ?_ | exact LendL.nil | refine LendL.cons ?_ ?_)) ?_)
  ·
   first | assumption | omega | (simp; done) | (simp; omega)
  ·
   first | assumption | omega | (simp; done) | (simp; omega)
  ·
   first | assumption | omega | (simp; done) | (simp; omega)
  rintro r h ⟨rfl, rfl⟩
  refine ⟨fun i => 14 + 200 * i, [0], ⟨rfl, rfl, rfl, rfl, rfl, (by first | exact (fun h => absurd h Bool.false_ne_true) | exact (fun _ => ⟨rfl, (noisl_of (by repeat (first | exact trivial | refine ⟨noisl_map (fun _ => rfl), ?_⟩ | refine ⟨?_, ?_⟩)))⟩))⟩, ?_⟩
  skip
  refine ax_q (q_mov rfl) ?_
  refine ax_q (q_ext rfl rfl) ?_
  refine ax_q (q_ext rfl rfl) ?_
  refine ax_q (q_mov rfl) ?_
  refine ax_q (q_mov rfl) ?_
  refine ax_nil ?_
  refine cx_keep rfl rfl ?_
  refine cx_seq ?_
  refine cx_seq ?_
  refine cx_ops ?_
  refine ax_q (q_mov rfl) ?_
  refine ax_q (q_ibin rfl rfl rfl) ?_
  refine ax_nil ?_
  refine cx_keep rfl rfl ?_
  refine cx_cond rfl (fun h1 => ?_) (fun h1 => ?_)
  ·
   have h1 := nT h1
   exact absurd rfl h1
  ·
   have h1 := nF h1
   refine cx_skip ?_
   refine cx_keep rfl rfl ?_
   refine cx_seq ?_
   refine cx_ops ?_
   refine ax_wk (wk_frz 4 14 rfl rfl (.whole (List.length_map _).symm) rfl) ?_
   refine ax_q (q_mov rfl) ?_
   first | refine ax_call rfl (vc_pure (c_l10Parse (f := f) (tk0 := tk) (e := e) (k := k) ?_ ?_ ?_ ?_) hP rfl ?_) | refine ax_call rfl (vc_lend (c_l10Parse (f := f) (tk0 := tk) (e := e) (k := k) ?_ ?_ ?_ ?_) hP (by repeat (first | exact lal_id _ rfl | exact LAL.nil | refine LAL.cons ?_ ?_ | exact la_id _ rfl | exact LA.lend (lend_whole rfl (by first | (simp; done) | (rw [List.length_map]; rfl))) | refine LA.agg ?_ | refine LA.fn ?_ | refine LA.lend ?_ | exact Lend.d _ | exact Lend.zs _ | exact lend_whole rfl (by first | (simp; done) | (rw [List.length_map]; rfl)) | refine Lend.ptr rfl ?_ | refine Lend.fn ?_ | exact LendL.nil | refine LendL.cons ?_ ?_)) ?_)
   ·
    first | assumption | omega | (simp; done) | (simp; omega)
   ·
    first | assumption | omega | (simp; done) | (simp; omega)
   ·
    first | assumption | omega | (simp; done) | (simp; omega)
   ·
    first | assumption | omega | (simp; done) | (simp; omega)
   rintro r h ⟨rfl, rfl⟩
   refine ⟨fun i => 23 + 200 * i, [0], ⟨rfl, rfl, rfl, rfl, rfl, (by first | exact (fun h => absurd h Bool.false_ne_true) | exact (fun _ => ⟨rfl, (noisl_of (by repeat (first | exact trivial | refine ⟨noisl_map (fun _ => rfl), ?_⟩ | refine ⟨?_, ?_⟩)))⟩))⟩, ?_⟩
   skip
   refine ax_q (q_mov rfl) ?_
   refine ax_q (q_ext rfl rfl) ?_
   refine ax_q (q_ext rfl rfl) ?_
   refine ax_q (q_ext rfl rfl) ?_
   refine ax_e (e_alloc (by decide) rfl rfl) ?_
   refine ax_e (e_st rfl rfl rfl rfl rfl rfl rfl) ?_
   refine ax_q (q_mov rfl) ?_
   refine ax_q (q_mov rfl) ?_
   refine ax_nil ?_
   refine cx_keep rfl rfl ?_
   refine cx_seq ?_
   refine cx_seq ?_
   refine cx_ops ?_
   refine ax_q (q_mov rfl) ?_
   refine ax_q (q_ibin rfl rfl rfl) ?_
   refine ax_nil ?_
   refine cx_keep rfl rfl ?_
   refine cx_cond rfl (fun h2 => ?_) (fun h2 => ?_)
   ·
    have h2 := nT h2
    exact absurd rfl h2
   ·
    have h2 := nF h2
    refine cx_skip ?_
    refine cx_keep rfl rfl ?_
    refine cx_seq ?_
    refine cx_seq ?_
    refine cx_ops ?_
    refine ax_q (q_mov rfl) ?_
    refine ax_q (q_mov rfl) ?_
    first | refine ax_q (q_lenS_map rfl) ?_ | refine ax_q (q_lenS_osl rfl) ?_ | refine ax_q (q_lenS_zs rfl) ?_ | refine ax_q (q_lenS rfl) ?_
    refine ax_q (q_ibin rfl rfl rfl) ?_
    refine ax_nil ?_
    refine cx_keep rfl rfl ?_
    refine cx_cond rfl (fun h3 => ?_) (fun h3 => ?_)
    ·
     have h3 := nT h3
     exact absurd rfl h3
    ·
     have h3 := nF h3
     refine cx_skip ?_
     refine cx_keep rfl rfl ?_
     refine cx_seq ?_
     refine cx_ops ?_
     refine ax_q (q_ldN rfl rfl rfl) ?_
     refine ax_e (e_st rfl rfl rfl rfl rfl rfl rfl) ?_
     refine ax_q (q_mov rfl) ?_
     refine ax_nil ?_
     refine cx_keep rfl rfl ?_
     refine cx_ret (retN (fun _ => 0) [23] rfl rfl rfl rfl rfl ?_)
     exact ⟨rfl, rfl⟩

end Go.Proofs.YthdafcdhnjapnaaGreatDoor
