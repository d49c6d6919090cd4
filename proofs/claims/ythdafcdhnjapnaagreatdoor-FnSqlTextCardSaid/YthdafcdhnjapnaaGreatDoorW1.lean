/- The walks: what each function computes, as a contract without a world (part 1). -/
import Derived.Test.YthdafcdhnjapnaaGreatDoorProg
import Derived.Test.YthdafcdhnjapnaaGreatDoorW0
namespace Go.Proofs.YthdafcdhnjapnaaGreatDoor
open Go Go.AM
set_option maxRecDepth 10000
set_option linter.unusedVariables false
set_option linter.unusedSimpArgs false
/- loop.example/g00332/spec.l10Walk -/
def k_c_l10Walk : XCode :=
 .seq (.ops [.op (some 2) (.box (.t 0)),
   .op (some 4) (.mov (.k (.int .i64 0))),
   .op (some 5) (.mov (.k (.int .i64 0))),
   .op (some 6) (.mov (.k (.bool false)))])
 (.keep [1, 2] (.seq (.seq (.ops [.op (some 17) (.mov (.t 1)),
   .op (some 18) (.bin .lss (.t 17) (.k (.int .i64 0)))])
  (.keep [1, 2, 18] (.cond (.t 18)
  (.seq (.ops [.op (some 4) (.mov (.k (.int .i64 0))),
    .op (some 5) (.mov (.k (.int .i64 0))),
    .op (some 6) (.mov (.k (.bool false)))])
   (.keep [4, 5, 6] (.ret)))
  (.skip))))
 (.keep [1, 2] (.seq (.ops [.op (some 19) (.fadr (.t 2) 0),
   .op (some 20) (.load1 (.t 19)),
   .op (some 21) (.mov (.t 1)),
   .op (some 22) (.iadr 7 (.t 20) (.t 21)),
   .op (some 23) (.loadN 7 (.t 22)),
   .op (some 7) (.alloc [.int .i64 0, .int .i64 0, .int .i64 0, .int .i64 0, .int .i64 0, .int .i64 0, .str []]),
   .op none (.store 7 (.t 7) (.t 23))])
 (.keep [1, 2, 7] (.seq (.block 0 (.seq (.ops [.op (some 25) (.fadr (.t 7) 0),
    .op (some 26) (.load1 (.t 25)),
    .op (some 27) (.bin .eql (.t 26) (.k (.int .i64 1))),
    .op (some 24) (.mov (.t 27))])
  (.keep [1, 2, 7, 24] (.cond (.t 24)
   (.seq (.ops [.op (some 28) (.mov (.t 1)),
     .op (some 29) (.fadr (.t 7) 1),
     .op (some 30) (.load1 (.t 29)),
     .op (some 31) (.bin .eql (.t 30) (.k (.int .i64 0))),
     .op (some 32) (.mov (.t 31)),
     .andor 36 true 4 32 [.op (some 33) (.fadr (.t 7) 2), .op (some 34) (.load1 (.t 33)), .op (some 35) (.bin .eql (.t 34) (.k (.int .i64 0)))] (.t 35),
     .op (some 37) (.mov (.t 36)),
     .andor 41 true 9 37 [.op (some 38) (.fadr (.t 7) 3), .op (some 39) (.load1 (.t 38)), .op (some 40) (.bin .eql (.t 39) (.k (.int .i64 0)))] (.t 40),
     .op (some 42) (.mov (.t 41)),
     .andor 46 true 14 42 [.op (some 43) (.fadr (.t 7) 4), .op (some 44) (.loadN 3 (.t 43)), .call (some 45) 86 [.t 44]] (.t 45),
     .op (some 4) (.mov (.t 28)),
     .op (some 5) (.mov (.k (.int .i64 1))),
     .op (some 6) (.mov (.t 46))])
   (.keep [4, 5, 6] (.ret)))
   (.seq (.ops [.op (some 48) (.fadr (.t 7) 0),
     .op (some 49) (.load1 (.t 48)),
     .op (some 50) (.bin .eql (.t 49) (.k (.int .i64 2))),
     .op (some 47) (.mov (.t 50))])
   (.keep [1, 2, 7, 47] (.cond (.t 47)
    (.seq (.draw [.op (some 51) (.mov (.t 1)),
      .op (some 52) (.fadr (.t 7) 1),
      .op (some 53) (.load1 (.t 52)),
      .op (some 54) (.bin .eql (.t 53) (.k (.int .i64 0))),
      .op (some 55) (.mov (.t 54)),
      .andor 59 true 4 55 [.op (some 56) (.fadr (.t 7) 2), .op (some 57) (.load1 (.t 56)), .op (some 58) (.bin .eql (.t 57) (.k (.int .i64 0)))] (.t 58),
      .op (some 60) (.mov (.t 59)),
      .andor 64 true 9 60 [.op (some 61) (.fadr (.t 7) 3), .op (some 62) (.load1 (.t 61)), .call (some 63) 50 [.t 62, .k (.int .i64 0), .k (.int .i64 2)]] (.t 63),
      .op (some 65) (.mov (.t 64)),
      .andor 70 true 14 65 [.op (some 66) (.fadr (.t 7) 4), .op (some 67) (.loadN 3 (.t 66)), .op (some 68) (.build [.int .i64 0, .int .i64 0, .str []] []), .op (some 69) (.eqs false [0, 0, 2] (.t 67) (.t 68))] (.t 69),
      .op (some 4) (.mov (.t 51)),
      .op (some 5) (.mov (.k (.int .i64 1))),
      .op (some 6) (.mov (.t 70))])
    (.keep [4, 5, 6] (.ret)))
    (.seq (.ops [.op (some 72) (.fadr (.t 7) 0),
      .op (some 73) (.load1 (.t 72)),
      .call (some 74) 50 [.t 73, .k (.int .i64 3), .k (.int .i64 5)],
      .op (some 71) (.mov (.t 74))])
    (.keep [1, 2, 7, 71] (.cond (.t 71)
     (.seq (.ops [.op (some 76) (.loadN 1 (.t 2)),
       .op (some 77) (.mov (.t 1)),
       .op (some 78) (.bin .sub (.t 77) (.k (.int .i64 1))),
       .call (some 79) 51 [.t 76, .t 78],
       .op (some 75) (.mov (.t 79)),
       .op (some 80) (.ext (.t 75) 0),
       .op (some 81) (.ext (.t 75) 1),
       .op (some 82) (.ext (.t 75) 2),
       .op (some 8) (.mov (.t 80)),
       .op (some 9) (.mov (.t 81)),
       .op (some 10) (.mov (.t 82))])
     (.keep [1, 7, 8, 9, 10] (.seq (.draw [.op (some 83) (.mov (.t 8)),
       .op (some 84) (.mov (.t 9)),
       .op (some 85) (.bin .add (.t 84) (.k (.int .i64 1))),
       .op (some 86) (.mov (.t 10)),
       .op (some 87) (.mov (.t 86)),
       .andor 93 true 4 87 [.op (some 88) (.fadr (.t 7) 1), .op (some 89) (.load1 (.t 88)), .op (some 90) (.mov (.t 1)), .op (some 91) (.bin .sub (.t 90) (.k (.int .i64 1))), .op (some 92) (.bin .eql (.t 89) (.t 91))] (.t 92),
       .op (some 94) (.mov (.t 93)),
       .andor 98 true 11 94 [.op (some 95) (.fadr (.t 7) 2), .op (some 96) (.load1 (.t 95)), .op (some 97) (.bin .eql (.t 96) (.k (.int .i64 0)))] (.t 97),
       .op (some 99) (.mov (.t 98)),
       .andor 103 true 16 99 [.op (some 100) (.fadr (.t 7) 3), .op (some 101) (.load1 (.t 100)), .op (some 102) (.bin .eql (.t 101) (.k (.int .i64 0)))] (.t 102),
       .op (some 104) (.mov (.t 103)),
       .andor 109 true 21 104 [.op (some 105) (.fadr (.t 7) 4), .op (some 106) (.loadN 3 (.t 105)), .op (some 107) (.build [.int .i64 0, .int .i64 0, .str []] []), .op (some 108) (.eqs false [0, 0, 2] (.t 106) (.t 107))] (.t 108),
       .op (some 4) (.mov (.t 83)),
       .op (some 5) (.mov (.t 85)),
       .op (some 6) (.mov (.t 109))])
     (.keep [4, 5, 6] (.ret)))))
     (.seq (.ops [.op (some 111) (.fadr (.t 7) 0),
       .op (some 112) (.load1 (.t 111)),
       .call (some 113) 50 [.t 112, .k (.int .i64 6), .k (.int .i64 13)],
       .op (some 110) (.mov (.t 113))])
     (.keep [1, 2, 7, 110] (.cond (.t 110)
      (.seq (.ops [.op (some 115) (.loadN 1 (.t 2)),
        .op (some 116) (.mov (.t 1)),
        .op (some 117) (.bin .sub (.t 116) (.k (.int .i64 1))),
        .call (some 118) 51 [.t 115, .t 117],
        .op (some 114) (.mov (.t 118)),
        .op (some 119) (.ext (.t 114) 0),
        .op (some 120) (.ext (.t 114) 1),
        .op (some 121) (.ext (.t 114) 2),
        .op (some 11) (.mov (.t 119)),
        .op (some 12) (.mov (.t 120)),
        .op (some 13) (.mov (.t 121))])
      (.keep [1, 2, 7, 11, 12, 13] (.seq (.seq (.ops [.op (some 122) (.mov (.t 13)),
        .op (some 123) (.not (.t 122))])
       (.keep [1, 2, 7, 11, 12, 123] (.cond (.t 123)
       (.seq (.ops [.op (some 4) (.mov (.k (.int .i64 0))),
         .op (some 5) (.mov (.k (.int .i64 0))),
         .op (some 6) (.mov (.k (.bool false)))])
        (.keep [4, 5, 6] (.ret)))
       (.skip))))
      (.keep [1, 2, 7, 11, 12] (.seq (.ops [.op (some 125) (.loadN 1 (.t 2)),
        .op (some 126) (.mov (.t 11)),
        .op (some 127) (.bin .sub (.t 126) (.k (.int .i64 1))),
        .call (some 128) 51 [.t 125, .t 127],
        .op (some 124) (.mov (.t 128)),
        .op (some 129) (.ext (.t 124) 0),
        .op (some 130) (.ext (.t 124) 1),
        .op (some 131) (.ext (.t 124) 2),
        .op (some 14) (.mov (.t 129)),
        .op (some 15) (.mov (.t 130)),
        .op (some 16) (.mov (.t 131))])
      (.keep [1, 7, 11, 12, 14, 15, 16] (.seq (.draw [.op (some 132) (.mov (.t 14)),
        .op (some 133) (.mov (.t 15)),
        .op (some 134) (.mov (.t 12)),
        .op (some 135) (.mx true (.t 133) (.t 134)),
        .op (some 136) (.bin .add (.t 135) (.k (.int .i64 1))),
        .op (some 137) (.mov (.t 16)),
        .op (some 138) (.mov (.t 137)),
        .andor 144 true 6 138 [.op (some 139) (.fadr (.t 7) 1), .op (some 140) (.load1 (.t 139)), .op (some 141) (.mov (.t 11)), .op (some 142) (.bin .sub (.t 141) (.k (.int .i64 1))), .op (some 143) (.bin .eql (.t 140) (.t 142))] (.t 143),
        .op (some 145) (.mov (.t 144)),
        .andor 151 true 13 145 [.op (some 146) (.fadr (.t 7) 2), .op (some 147) (.load1 (.t 146)), .op (some 148) (.mov (.t 1)), .op (some 149) (.bin .sub (.t 148) (.k (.int .i64 1))), .op (some 150) (.bin .eql (.t 147) (.t 149))] (.t 150),
        .op (some 152) (.mov (.t 151)),
        .andor 156 true 20 152 [.op (some 153) (.fadr (.t 7) 3), .op (some 154) (.load1 (.t 153)), .op (some 155) (.bin .eql (.t 154) (.k (.int .i64 0)))] (.t 155),
        .op (some 157) (.mov (.t 156)),
        .andor 162 true 25 157 [.op (some 158) (.fadr (.t 7) 4), .op (some 159) (.loadN 3 (.t 158)), .op (some 160) (.build [.int .i64 0, .int .i64 0, .str []] []), .op (some 161) (.eqs false [0, 0, 2] (.t 159) (.t 160))] (.t 161),
        .op (some 4) (.mov (.t 132)),
        .op (some 5) (.mov (.t 136)),
        .op (some 6) (.mov (.t 162))])
      (.keep [4, 5, 6] (.ret)))))))))
      (.skip))))))))))))))
 (.keep [] (.seq (.ops [.op (some 4) (.mov (.k (.int .i64 0))),
   .op (some 5) (.mov (.k (.int .i64 0))),
   .op (some 6) (.mov (.k (.bool false)))])
 (.keep [4, 5, 6] (.ret))))))))))
theorem k_c_l10Walk_fits : fitsF Tryz.prog 51 ⟨163, k_c_l10Walk, [.t 4, .t 5, .t 6]⟩ = true := by kernel_rfl
theorem c_l10Walk {e : GExpr} {f : Nat} {i : Int} (hn : -1 ≤ i) (hi : i + 1 < f) (hf : f ≤ 1000) (hl : i < e.Nodes.length) (hw : e.Nodes.length ≤ 1048576) (hv : ∀ x ∈ e.Nodes, x.V.T.length ≤ 1048576) : Con Tryz.prog noMv 51 [e.av, int i] [] (fun r h => r = .tup [int (walkF e.Nodes f i).1, int (walkF e.Nodes f i).2.1, bool (walkF e.Nodes f i).2.2] ∧ h = []) := by
 induction f generalizing i with
 | zero => exact absurd hi (by omega)
 | succ f ih =>
  refine con_of2 k_c_l10Walk_fits rfl fun C hP hmv => ?_
  unfold k_c_l10Walk
  refine cx_seq (cx_ops ?_)
  refine ax_e (e_box rfl rfl (by decide) rfl rfl rfl) ?_
  refine ax_q (q_mov rfl) ?_
  refine ax_q (q_mov rfl) ?_
  refine ax_q (q_mov rfl) ?_
  refine ax_nil (cx_keep rfl rfl (cx_seq (cx_seq (cx_ops ?_))))
  refine ax_q (q_mov rfl) ?_
  refine ax_q (q_ibin rfl rfl rfl) ?_
  refine ax_nil (cx_keep rfl rfl ?_)
  refine cx_cond rfl (fun h0 => ?_) (fun h0 => ?_)
  ·
   have h0 := dT h0
   refine cx_seq (cx_ops ?_)
   refine ax_q (q_mov rfl) ?_
   refine ax_q (q_mov rfl) ?_
   refine ax_q (q_mov rfl) ?_
   refine ax_nil (cx_keep rfl rfl ?_)
   refine cx_ret (ret0 rfl rfl ?_)
   exact ⟨by rw [walkF_neg h0]; rfl, rfl⟩
  ·
   have h0 := dF h0
   obtain ⟨j, rfl⟩ : ∃ j : Nat, i = (j : Int) := ⟨i.toNat, by omega⟩
   have hj : j < e.Nodes.length := by omega
   have hvj := hv _ (List.getElem_mem hj)
   have wb := @walkF_b e.Nodes f ((j : Int) - 1)
   have wc := @walkF_b e.Nodes f ((walkF e.Nodes f ((j : Int) - 1)).1 - 1)
   have hm := mxI_b (n := f) (a := (walkF e.Nodes f ((walkF e.Nodes f ((j : Int) - 1)).1 - 1)).2.1) (b := (walkF e.Nodes f ((j : Int) - 1)).2.1) ⟨wc.2.2.1, wc.2.2.2⟩ ⟨wb.2.2.1, wb.2.2.2⟩
   refine cx_skip ?_
   refine cx_keep rfl rfl (cx_seq (cx_ops ?_))
   refine ax_q (q_fadr_ptr rfl) ?_
   refine ax_q (q_load1_ptr rfl rfl rfl) ?_
   refine ax_q (q_mov rfl) ?_
   refine ax_q (q_ix rfl rfl (mapAt hj)) ?_
   first | refine ax_q (q_ldN rfl rfl rfl) ?_ | refine ax_q (q_loadN_ip rfl (Nat.le_refl _)) ?_
   refine ax_e (e_alloc (by decide) rfl rfl) ?_
   refine ax_e (e_st rfl rfl rfl rfl rfl rfl rfl) ?_
   refine ax_nil (cx_keep rfl rfl (cx_seq (cx_block (cx_seq (cx_ops ?_)))))
   refine ax_q (q_fadr_ptr rfl) ?_
   refine ax_q (q_load1_ptr rfl rfl rfl) ?_
   refine ax_q (q_ibin rfl rfl rfl) ?_
   refine ax_q (q_mov rfl) ?_
   refine ax_nil (cx_keep rfl rfl ?_)
   refine cx_cond rfl (fun h1 => ?_) (fun h1 => ?_)
   ·
    have h1 := dT h1
    refine cx_seq (cx_ops ?_)
    refine ax_q (q_mov rfl) ?_
    refine ax_q (q_fadr_ptr rfl) ?_
    refine ax_q (q_load1_ptr rfl rfl rfl) ?_
    refine ax_q (q_ibin rfl rfl rfl) ?_
    refine ax_q (q_mov rfl) ?_
    apply ax_and rfl rfl
    ·
     intro g
     have g := dT g
     refine ax_q (q_fadr_ptr rfl) ?_
     refine ax_q (q_load1_ptr rfl rfl rfl) ?_
     refine ax_q (q_ibin rfl rfl rfl) ?_
     exact ax_nil ⟨rfl, by repeat constructor⟩
    refine ax_q (q_mov rfl) ?_
    apply ax_and rfl rfl
    ·
     intro g
     have g := (fun h => And.intro (dT (and_T h).1) (dT (and_T h).2)) g
     refine ax_q (q_fadr_ptr rfl) ?_
     refine ax_q (q_load1_ptr rfl rfl rfl) ?_
     refine ax_q (q_ibin rfl rfl rfl) ?_
     exact ax_nil ⟨rfl, by repeat constructor⟩
    refine ax_q (q_mov rfl) ?_
    apply ax_and rfl rfl
    ·
     intro g
     have g := (fun h => And.intro ((fun h => And.intro (dT (and_T h).1) (dT (and_T h).2)) (and_T h).1) (dT (and_T h).2)) g
     refine ax_q (q_fadr_ptr rfl) ?_
     refine ax_q (q_ldN rfl rfl rfl) ?_
     refine ax_call rfl (vc_pure0 (c_sValueOK (v := e.Nodes[j].V) ?_) hP rfl rfl ?_)
     ·
      assumption
     exact ax_nil ⟨rfl, by repeat constructor⟩
    refine ax_q (q_mov rfl) ?_
    refine ax_q (q_mov rfl) ?_
    refine ax_q (q_mov rfl) ?_
    refine ax_nil (cx_keep rfl rfl ?_)
    refine cx_ret (ret0 rfl rfl ?_)
    exact ⟨by rw [walkF_at hj, nodeW_1 h1]; rfl, rfl⟩
   ·
    have h1 := dF h1
    refine cx_seq (cx_ops ?_)
    refine ax_q (q_fadr_ptr rfl) ?_
    refine ax_q (q_load1_ptr rfl rfl rfl) ?_
    refine ax_q (q_ibin rfl rfl rfl) ?_
    refine ax_q (q_mov rfl) ?_
    refine ax_nil (cx_keep rfl rfl ?_)
    refine cx_cond rfl (fun h2 => ?_) (fun h2 => ?_)
    ·
     have h2 := dT h2
     refine cx_seq (cx_draw ?_)
     refine ax_q (q_mov rfl) ?_
     refine ax_q (q_fadr_ptr rfl) ?_
     refine ax_q (q_load1_ptr rfl rfl rfl) ?_
     refine ax_q (q_ibin rfl rfl rfl) ?_
     refine ax_q (q_mov rfl) ?_
     apply ax_and rfl rfl
     ·
      intro g
      have g := dT g
      refine ax_q (q_fadr_ptr rfl) ?_
      refine ax_q (q_load1_ptr rfl rfl rfl) ?_
      refine ax_q (q_ibin rfl rfl rfl) ?_
      exact ax_nil ⟨rfl, by repeat constructor⟩
     refine ax_q (q_mov rfl) ?_
     apply ax_and rfl rfl
     ·
      intro g
      have g := (fun h => And.intro (dT (and_T h).1) (dT (and_T h).2)) g
      refine ax_q (q_fadr_ptr rfl) ?_
      refine ax_q (q_load1_ptr rfl rfl rfl) ?_
      refine ax_callq rfl (c_l01In  ) hP (lal_id _ rfl) rfl ?_
      exact ax_nil ⟨rfl, by repeat constructor⟩
     refine ax_q (q_mov rfl) ?_
     apply ax_and rfl rfl
     ·
      intro g
      have g := (fun h => And.intro ((fun h => And.intro (dT (and_T h).1) (dT (and_T h).2)) (and_T h).1) (id (and_T h).2)) g
      refine ax_q (q_fadr_ptr rfl) ?_
      refine ax_q (q_ldN rfl rfl rfl) ?_
      refine ax_q (q_build rfl) ?_
      first | refine ax_q (GValue.q_eqs rfl rfl) ?_ | refine ax_q (q_eqs rfl rfl rfl) ?_
      exact ax_nil ⟨rfl, by repeat constructor⟩
     refine ax_q (q_mov rfl) ?_
     refine ax_q (q_mov rfl) ?_
     refine ax_q (q_mov rfl) ?_
     refine ax_nil (cx_keep rfl rfl ?_)
     refine cx_ret (ret0 rfl rfl ?_)
     exact ⟨by rw [walkF_at hj, nodeW_2 h1 h2]; rfl, rfl⟩
    ·
     have h2 := dF h2
     refine cx_seq (cx_ops ?_)
     refine ax_q (q_fadr_ptr rfl) ?_
     refine ax_q (q_load1_ptr rfl rfl rfl) ?_
     refine ax_call rfl (vc_pure0 (c_l01In  ) hP rfl rfl ?_)
     refine ax_q (q_mov rfl) ?_
     refine ax_nil (cx_keep rfl rfl ?_)
     refine cx_cond rfl (fun h3 => ?_) (fun h3 => ?_)
     ·
      skip
      refine cx_seq (cx_ops ?_)
      refine ax_q (q_ldN rfl rfl rfl) ?_
      refine ax_q (q_mov rfl) ?_
      refine ax_q (q_sub rfl rfl (by omega)) ?_
      refine ax_call rfl (vc_pure0 (ih (i := (j : Int) - 1) ?_ ?_ ?_ ?_) hP rfl rfl ?_)
      ·
       first | assumption | omega
      ·
       first | assumption | omega
      ·
       first | assumption | omega
      ·
       first | assumption | omega
      refine ax_q (q_mov rfl) ?_
      refine ax_q (q_ext rfl rfl) ?_
      refine ax_q (q_ext rfl rfl) ?_
      refine ax_q (q_ext rfl rfl) ?_
      refine ax_q (q_mov rfl) ?_
      refine ax_q (q_mov rfl) ?_
      refine ax_q (q_mov rfl) ?_
      refine ax_nil (cx_keep rfl rfl (cx_seq (cx_draw ?_)))
      refine ax_q (q_mov rfl) ?_
      refine ax_q (q_mov rfl) ?_
      refine ax_q (q_add rfl rfl (by omega)) ?_
      refine ax_q (q_mov rfl) ?_
      refine ax_q (q_mov rfl) ?_
      apply ax_and rfl rfl
      ·
       intro g
       refine ax_q (q_fadr_ptr rfl) ?_
       refine ax_q (q_load1_ptr rfl rfl rfl) ?_
       refine ax_q (q_mov rfl) ?_
       refine ax_q (q_sub rfl rfl (by omega)) ?_
       refine ax_q (q_ibin rfl rfl rfl) ?_
       exact ax_nil ⟨rfl, by repeat constructor⟩
      refine ax_q (q_mov rfl) ?_
      apply ax_and rfl rfl
      ·
       intro g
       have g := (fun h => And.intro (id (and_T h).1) (dT (and_T h).2)) g
       refine ax_q (q_fadr_ptr rfl) ?_
       refine ax_q (q_load1_ptr rfl rfl rfl) ?_
       refine ax_q (q_ibin rfl rfl rfl) ?_
       exact ax_nil ⟨rfl, by repeat constructor⟩
      refine ax_q (q_mov rfl) ?_
      apply ax_and rfl rfl
      ·
       intro g
       have g := (fun h => And.intro ((fun h => And.intro (id (and_T h).1) (dT (and_T h).2)) (and_T h).1) (dT (and_T h).2)) g
       refine ax_q (q_fadr_ptr rfl) ?_
       refine ax_q (q_load1_ptr rfl rfl rfl) ?_
       refine ax_q (q_ibin rfl rfl rfl) ?_
       exact ax_nil ⟨rfl, by repeat constructor⟩
      refine ax_q (q_mov rfl) ?_
      apply ax_and rfl rfl
      ·
       intro g
       have g := (fun h => And.intro ((fun h => And.intro ((fun h => And.intro (id (and_T h).1) (dT (and_T h).2)) (and_T h).1) (dT (and_T h).2)) (and_T h).1) (dT (and_T h).2)) g
       refine ax_q (q_fadr_ptr rfl) ?_
       refine ax_q (q_ldN rfl rfl rfl) ?_
       refine ax_q (q_build rfl) ?_
       first | refine ax_q (GValue.q_eqs rfl rfl) ?_ | refine ax_q (q_eqs rfl rfl rfl) ?_
       exact ax_nil ⟨rfl, by repeat constructor⟩
      refine ax_q (q_mov rfl) ?_
      refine ax_q (q_mov rfl) ?_
      refine ax_q (q_mov rfl) ?_
      refine ax_nil (cx_keep rfl rfl ?_)
      refine cx_ret (ret0 rfl rfl ?_)
      exact ⟨by rw [walkF_at hj, nodeW_3 h1 h2 h3]; rfl, rfl⟩
     ·
      skip
      refine cx_seq (cx_ops ?_)
      refine ax_q (q_fadr_ptr rfl) ?_
      refine ax_q (q_load1_ptr rfl rfl rfl) ?_
      refine ax_call rfl (vc_pure0 (c_l01In  ) hP rfl rfl ?_)
      refine ax_q (q_mov rfl) ?_
      refine ax_nil (cx_keep rfl rfl ?_)
      refine cx_cond rfl (fun h4 => ?_) (fun h4 => ?_)
      ·
       skip
       refine cx_seq (cx_ops ?_)
       refine ax_q (q_ldN rfl rfl rfl) ?_
       refine ax_q (q_mov rfl) ?_
       refine ax_q (q_sub rfl rfl (by omega)) ?_
       refine ax_call rfl (vc_pure0 (ih (i := (j : Int) - 1) ?_ ?_ ?_ ?_) hP rfl rfl ?_)
       ·
        first | assumption | omega
       ·
        first | assumption | omega
       ·
        first | assumption | omega
       ·
        first | assumption | omega
       refine ax_q (q_mov rfl) ?_
       refine ax_q (q_ext rfl rfl) ?_
       refine ax_q (q_ext rfl rfl) ?_
       refine ax_q (q_ext rfl rfl) ?_
       refine ax_q (q_mov rfl) ?_
       refine ax_q (q_mov rfl) ?_
       refine ax_q (q_mov rfl) ?_
       refine ax_nil (cx_keep rfl rfl (cx_seq (cx_seq (cx_ops ?_))))
       refine ax_q (q_mov rfl) ?_
       refine ax_q (q_not rfl) ?_
       refine ax_nil (cx_keep rfl rfl ?_)
       refine cx_cond rfl (fun h5 => ?_) (fun h5 => ?_)
       ·
        have h5 := bT h5
        refine cx_seq (cx_ops ?_)
        refine ax_q (q_mov rfl) ?_
        refine ax_q (q_mov rfl) ?_
        refine ax_q (q_mov rfl) ?_
        refine ax_nil (cx_keep rfl rfl ?_)
        refine cx_ret (ret0 rfl rfl ?_)
        exact ⟨by rw [walkF_at hj, nodeW_4 h1 h2 h3 h4 h5]; rfl, rfl⟩
       ·
        have h5 := bF h5
        refine cx_skip ?_
        refine cx_keep rfl rfl (cx_seq (cx_ops ?_))
        refine ax_q (q_ldN rfl rfl rfl) ?_
        refine ax_q (q_mov rfl) ?_
        refine ax_q (q_sub rfl rfl (by omega)) ?_
        refine ax_call rfl (vc_pure0 (ih (i := (walkF e.Nodes f ((j : Int) - 1)).1 - 1) ?_ ?_ ?_ ?_) hP rfl rfl ?_)
        ·
         first | assumption | omega
        ·
         first | assumption | omega
        ·
         first | assumption | omega
        ·
         first | assumption | omega
        refine ax_q (q_mov rfl) ?_
        refine ax_q (q_ext rfl rfl) ?_
        refine ax_q (q_ext rfl rfl) ?_
        refine ax_q (q_ext rfl rfl) ?_
        refine ax_q (q_mov rfl) ?_
        refine ax_q (q_mov rfl) ?_
        refine ax_q (q_mov rfl) ?_
        refine ax_nil (cx_keep rfl rfl (cx_seq (cx_draw ?_)))
        refine ax_q (q_mov rfl) ?_
        refine ax_q (q_mov rfl) ?_
        refine ax_q (q_mov rfl) ?_
        refine ax_qe (r' := int (mxI (walkF e.Nodes f ((walkF e.Nodes f ((j : Int) - 1)).1 - 1)).2.1 (walkF e.Nodes f ((j : Int) - 1)).2.1)) (q_mx rfl rfl) (rfl) ?_
        refine ax_q (q_add rfl rfl (by omega)) ?_
        refine ax_q (q_mov rfl) ?_
        refine ax_q (q_mov rfl) ?_
        apply ax_and rfl rfl
        ·
         intro g
         refine ax_q (q_fadr_ptr rfl) ?_
         refine ax_q (q_load1_ptr rfl rfl rfl) ?_
         refine ax_q (q_mov rfl) ?_
         refine ax_q (q_sub rfl rfl (by omega)) ?_
         refine ax_q (q_ibin rfl rfl rfl) ?_
         exact ax_nil ⟨rfl, by repeat constructor⟩
        refine ax_q (q_mov rfl) ?_
        apply ax_and rfl rfl
        ·
         intro g
         have g := (fun h => And.intro (id (and_T h).1) (dT (and_T h).2)) g
         refine ax_q (q_fadr_ptr rfl) ?_
         refine ax_q (q_load1_ptr rfl rfl rfl) ?_
         refine ax_q (q_mov rfl) ?_
         refine ax_q (q_sub rfl rfl (by omega)) ?_
         refine ax_q (q_ibin rfl rfl rfl) ?_
         exact ax_nil ⟨rfl, by repeat constructor⟩
        refine ax_q (q_mov rfl) ?_
        apply ax_and rfl rfl
        ·
         intro g
         have g := (fun h => And.intro ((fun h => And.intro (id (and_T h).1) (dT (and_T h).2)) (and_T h).1) (dT (and_T h).2)) g
         refine ax_q (q_fadr_ptr rfl) ?_
         refine ax_q (q_load1_ptr rfl rfl rfl) ?_
         refine ax_q (q_ibin rfl rfl rfl) ?_
         exact ax_nil ⟨rfl, by repeat constructor⟩
        refine ax_q (q_mov rfl) ?_
        apply ax_and rfl rfl
        ·
         intro g
         have g := (fun h => And.intro ((fun h => And.intro ((fun h => And.intro (id (and_T h).1) (dT (and_T h).2)) (and_T h).1) (dT (and_T h).2)) (and_T h).1) (dT (and_T h).2)) g
         refine ax_q (q_fadr_ptr rfl) ?_
         refine ax_q (q_ldN rfl rfl rfl) ?_
         refine ax_q (q_build rfl) ?_
         first | refine ax_q (GValue.q_eqs rfl rfl) ?_ | refine ax_q (q_eqs rfl rfl rfl) ?_
         exact ax_nil ⟨rfl, by repeat constructor⟩
        refine ax_q (q_mov rfl) ?_
        refine ax_q (q_mov rfl) ?_
        refine ax_q (q_mov rfl) ?_
        refine ax_nil (cx_keep rfl rfl ?_)
        refine cx_ret (ret0 rfl rfl ?_)
        exact ⟨by rw [walkF_at hj, nodeW_5 h1 h2 h3 h4 h5]; rfl, rfl⟩
      ·
       skip
       refine cx_skip ?_
       refine cx_keep rfl rfl (cx_seq (cx_ops ?_))
       refine ax_q (q_mov rfl) ?_
       refine ax_q (q_mov rfl) ?_
       refine ax_q (q_mov rfl) ?_
       refine ax_nil (cx_keep rfl rfl ?_)
       refine cx_ret (ret0 rfl rfl ?_)
       exact ⟨by rw [walkF_at hj, nodeW_6 h1 h2 h3 h4]; rfl, rfl⟩


/- loop.example/g00332/spec.ExprOK -/
def k_c_sExprOK : XCode :=
 .seq (.ops [.op (some 1) (.box (.t 0)),
   .op (some 2) (.mov (.k (.bool false)))])
 (.keep [1] (.seq (.seq (.ops [.op (some 6) (.fadr (.t 1) 0),
   .op (some 7) (.load1 (.t 6)),
   .op (some 8) (.lenS (.t 7)),
   .call (some 9) 50 [.t 8, .k (.int .i64 1), .k (.int .i64 40)],
   .op (some 10) (.not (.t 9))])
  (.keep [1, 10] (.cond (.t 10)
  (.seq (.ops [.op (some 2) (.mov (.k (.bool false)))])
   (.keep [2] (.ret)))
  (.skip))))
 (.keep [1] (.seq (.ops [.op (some 12) (.loadN 1 (.t 1)),
   .op (some 13) (.fadr (.t 1) 0),
   .op (some 14) (.load1 (.t 13)),
   .op (some 15) (.lenS (.t 14)),
   .op (some 16) (.bin .sub (.t 15) (.k (.int .i64 1))),
   .call (some 17) 51 [.t 12, .t 16],
   .op (some 11) (.mov (.t 17)),
   .op (some 18) (.ext (.t 11) 0),
   .op (some 19) (.ext (.t 11) 1),
   .op (some 20) (.ext (.t 11) 2),
   .op (some 3) (.mov (.t 18)),
   .op (some 4) (.mov (.t 19)),
   .op (some 5) (.mov (.t 20))])
 (.keep [3, 4, 5] (.seq (.ops [.op (some 21) (.mov (.t 5)),
   .op (some 22) (.mov (.t 21)),
   .andor 25 true 1 22 [.op (some 23) (.mov (.t 3)), .op (some 24) (.bin .eql (.t 23) (.k (.int .i64 0)))] (.t 24),
   .op (some 26) (.mov (.t 25)),
   .andor 29 true 5 26 [.op (some 27) (.mov (.t 4)), .op (some 28) (.bin .leq (.t 27) (.k (.int .i64 12)))] (.t 28),
   .op (some 2) (.mov (.t 29))])
 (.keep [2] (.ret))))))))
theorem k_c_sExprOK_fits : fitsF Tryz.prog 26 ⟨30, k_c_sExprOK, [.t 2]⟩ = true := by kernel_rfl
theorem c_sExprOK {e : GExpr} (hw : e.Nodes.length ≤ 1048576) (hv : ∀ x ∈ e.Nodes, x.V.T.length ≤ 1048576) : Con Tryz.prog noMv 26 [e.av] [] (fun r h => r = bool (exprOK e) ∧ h = []) := by
 refine con_of2 k_c_sExprOK_fits rfl fun C hP hmv => ?_
 unfold k_c_sExprOK
 refine cx_seq (cx_ops ?_)
 refine ax_e (e_box rfl rfl (by decide) rfl rfl rfl) ?_
 refine ax_q (q_mov rfl) ?_
 refine ax_nil (cx_keep rfl rfl (cx_seq (cx_seq (cx_ops ?_))))
 refine ax_q (q_fadr_ptr rfl) ?_
 refine ax_q (q_load1_ptr rfl rfl rfl) ?_
 refine ax_q (q_lenS_map rfl) ?_
 refine ax_call rfl (vc_pure0 (c_l01In  ) hP rfl rfl ?_)
 refine ax_q (q_not rfl) ?_
 refine ax_nil (cx_keep rfl rfl ?_)
 refine cx_cond rfl (fun h0 => ?_) (fun h0 => ?_)
 ·
  have h0 := bT h0
  refine cx_seq (cx_ops ?_)
  refine ax_q (q_mov rfl) ?_
  refine ax_nil (cx_keep rfl rfl ?_)
  refine cx_ret (ret0 rfl rfl ?_)
  exact ⟨by rw [exprOK_0 h0]; rfl, rfl⟩
 ·
  have h0 := bF h0
  have hn := inR_iff.1 h0
  refine cx_skip ?_
  refine cx_keep rfl rfl (cx_seq (cx_ops ?_))
  refine ax_q (q_ldN rfl rfl rfl) ?_
  refine ax_q (q_fadr_ptr rfl) ?_
  refine ax_q (q_load1_ptr rfl rfl rfl) ?_
  refine ax_q (q_lenS_map rfl) ?_
  refine ax_q (q_sub rfl rfl (by omega)) ?_
  refine ax_call rfl (vc_pure0 (c_l10Walk (f := e.Nodes.length + 1) ?_ ?_ ?_ ?_ ?_ ?_) hP rfl rfl ?_)
  ·
   first | assumption | omega
  ·
   first | assumption | omega
  ·
   first | assumption | omega
  ·
   first | assumption | omega
  ·
   assumption
  ·
   assumption
  refine ax_q (q_mov rfl) ?_
  refine ax_q (q_ext rfl rfl) ?_
  refine ax_q (q_ext rfl rfl) ?_
  refine ax_q (q_ext rfl rfl) ?_
  refine ax_q (q_mov rfl) ?_
  refine ax_q (q_mov rfl) ?_
  refine ax_q (q_mov rfl) ?_
  refine ax_nil (cx_keep rfl rfl (cx_seq (cx_ops ?_)))
  refine ax_q (q_mov rfl) ?_
  refine ax_q (q_mov rfl) ?_
  apply ax_and rfl rfl
  ·
   intro g
   refine ax_q (q_mov rfl) ?_
   refine ax_q (q_ibin rfl rfl rfl) ?_
   exact ax_nil ⟨rfl, by repeat constructor⟩
  refine ax_q (q_mov rfl) ?_
  apply ax_and rfl rfl
  ·
   intro g
   have g := (fun h => And.intro (id (and_T h).1) (dT (and_T h).2)) g
   refine ax_q (q_mov rfl) ?_
   refine ax_q (q_ibin rfl rfl rfl) ?_
   exact ax_nil ⟨rfl, by repeat constructor⟩
  refine ax_q (q_mov rfl) ?_
  refine ax_nil (cx_keep rfl rfl ?_)
  refine cx_ret (ret0 rfl rfl ?_)
  exact ⟨by rw [exprOK_1 h0]; rfl, rfl⟩


/- loop.example/g00332/spec.l12None -/
def k_c_l12None : XCode :=
 .seq (.ops [.op (some 1) (.box (.t 0)),
   .op (some 2) (.mov (.k (.bool false)))])
 (.keep [1] (.seq (.ops [.op (some 3) (.fadr (.t 1) 0),
   .op (some 4) (.load1 (.t 3)),
   .op (some 5) (.lenS (.t 4)),
   .op (some 6) (.bin .eql (.t 5) (.k (.int .i64 0))),
   .op (some 2) (.mov (.t 6))])
 (.keep [2] (.ret))))
theorem k_c_l12None_fits : fitsF Tryz.prog 75 ⟨7, k_c_l12None, [.t 2]⟩ = true := by kernel_rfl
theorem c_l12None {e : GExpr} : Con Tryz.prog noMv 75 [e.av] [] (fun r h => r = bool (noneE e) ∧ h = []) := by
 refine con_of2 k_c_l12None_fits rfl fun C hP hmv => ?_
 unfold k_c_l12None
 refine cx_seq (cx_ops ?_)
 refine ax_e (e_box rfl rfl (by decide) rfl rfl rfl) ?_
 refine ax_q (q_mov rfl) ?_
 refine ax_nil (cx_keep rfl rfl (cx_seq (cx_ops ?_)))
 refine ax_q (q_fadr_ptr rfl) ?_
 refine ax_q (q_load1_ptr rfl rfl rfl) ?_
 refine ax_q (q_lenS_map rfl) ?_
 refine ax_q (q_ibin rfl rfl rfl) ?_
 refine ax_q (q_mov rfl) ?_
 refine ax_nil (cx_keep rfl rfl ?_)
 refine cx_ret (ret0 rfl rfl ?_)
 exact ⟨rfl, rfl⟩


/- loop.example/g00332/spec.l07Row -/
def k_c_l07Row : XCode :=
 .seq (.ops [.op (some 1) (.box (.t 0)),
   .op (some 2) (.mov (.k (.bool false)))])
 (.keep [1] (.seq (.ops [.op (some 3) (.fadr (.t 1) 0),
   .op (some 4) (.load1 (.t 3)),
   .call (some 5) 50 [.t 4, .k (.int .i64 0), .k (.int .i64 1000)],
   .op (some 6) (.mov (.t 5)),
   .andor 10 true 3 6 [.op (some 7) (.fadr (.t 1) 1), .op (some 8) (.loadN 3 (.t 7)), .call (some 9) 86 [.t 8]] (.t 9),
   .op (some 11) (.mov (.t 10)),
   .andor 15 true 8 11 [.op (some 12) (.fadr (.t 1) 4), .op (some 13) (.loadN 3 (.t 12)), .call (some 14) 86 [.t 13]] (.t 14),
   .op (some 16) (.mov (.t 15)),
   .andor 21 true 13 16 [.op (some 17) (.fadr (.t 1) 1), .op (some 18) (.fadr (.t 17) 0), .op (some 19) (.load1 (.t 18)), .op (some 20) (.bin .neq (.t 19) (.k (.int .i64 2)))] (.t 20),
   .op (some 22) (.mov (.t 21)),
   .andor 27 true 19 22 [.op (some 23) (.fadr (.t 1) 4), .op (some 24) (.fadr (.t 23) 0), .op (some 25) (.load1 (.t 24)), .op (some 26) (.bin .neq (.t 25) (.k (.int .i64 1)))] (.t 26),
   .op (some 2) (.mov (.t 27))])
 (.keep [2] (.ret))))
theorem k_c_l07Row_fits : fitsF Tryz.prog 76 ⟨28, k_c_l07Row, [.t 2]⟩ = true := by kernel_rfl
theorem c_l07Row {a : GRow} (hv : a.N.T.length ≤ 1048576) (hw : a.Name.T.length ≤ 1048576) : Con Tryz.prog noMv 76 [a.av] [] (fun r h => r = bool (rowOK a) ∧ h = []) := by
 refine con_of2 k_c_l07Row_fits rfl fun C hP hmv => ?_
 unfold k_c_l07Row
 refine cx_seq (cx_ops ?_)
 refine ax_e (e_box rfl rfl (by decide) rfl rfl rfl) ?_
 refine ax_q (q_mov rfl) ?_
 refine ax_nil (cx_keep rfl rfl (cx_seq (cx_ops ?_)))
 refine ax_q (q_fadr_ptr rfl) ?_
 refine ax_q (q_load1_ptr rfl rfl rfl) ?_
 refine ax_call rfl (vc_pure0 (c_l01In  ) hP rfl rfl ?_)
 refine ax_q (q_mov rfl) ?_
 apply ax_and rfl rfl
 ·
  intro g
  refine ax_q (q_fadr_ptr rfl) ?_
  refine ax_q (q_ldN rfl rfl rfl) ?_
  refine ax_call rfl (vc_pure0 (c_sValueOK (v := a.N) ?_) hP rfl rfl ?_)
  ·
   assumption
  exact ax_nil ⟨rfl, by repeat constructor⟩
 refine ax_q (q_mov rfl) ?_
 apply ax_and rfl rfl
 ·
  intro g
  have g := (fun h => And.intro (id (and_T h).1) (id (and_T h).2)) g
  refine ax_q (q_fadr_ptr rfl) ?_
  refine ax_q (q_ldN rfl rfl rfl) ?_
  refine ax_call rfl (vc_pure0 (c_sValueOK (v := a.Name) ?_) hP rfl rfl ?_)
  ·
   assumption
  exact ax_nil ⟨rfl, by repeat constructor⟩
 refine ax_q (q_mov rfl) ?_
 apply ax_and rfl rfl
 ·
  intro g
  have g := (fun h => And.intro ((fun h => And.intro (id (and_T h).1) (id (and_T h).2)) (and_T h).1) (id (and_T h).2)) g
  refine ax_q (q_fadr_ptr rfl) ?_
  refine ax_q (q_fadr_ptr rfl) ?_
  refine ax_q (q_load1_ptr rfl rfl rfl) ?_
  refine ax_q (q_ibin rfl rfl rfl) ?_
  exact ax_nil ⟨rfl, by repeat constructor⟩
 refine ax_q (q_mov rfl) ?_
 apply ax_and rfl rfl
 ·
  intro g
  have g := (fun h => And.intro ((fun h => And.intro ((fun h => And.intro (id (and_T h).1) (id (and_T h).2)) (and_T h).1) (id (and_T h).2)) (and_T h).1) (nT (and_T h).2)) g
  refine ax_q (q_fadr_ptr rfl) ?_
  refine ax_q (q_fadr_ptr rfl) ?_
  refine ax_q (q_load1_ptr rfl rfl rfl) ?_
  refine ax_q (q_ibin rfl rfl rfl) ?_
  exact ax_nil ⟨rfl, by repeat constructor⟩
 refine ax_q (q_mov rfl) ?_
 refine ax_nil (cx_keep rfl rfl ?_)
 refine cx_ret (ret0 rfl rfl ?_)
 exact ⟨rfl, rfl⟩


/- loop.example/g00332/spec.StmtOK -/
def k_c_sStmtOK : XCode :=
 .seq (.ops [.op (some 1) (.box (.t 0)),
   .op (some 2) (.mov (.k (.bool false)))])
 (.keep [1] (.seq (.seq (.ops [.op (some 3) (.fadr (.t 1) 0),
   .op (some 4) (.load1 (.t 3)),
   .call (some 5) 50 [.t 4, .k (.int .i64 1), .k (.int .i64 4)],
   .op (some 6) (.not (.t 5)),
   .op (some 7) (.mov (.t 6)),
   .andor 12 false 4 7 [.op (some 8) (.fadr (.t 1) 1), .op (some 9) (.load1 (.t 8)), .call (some 10) 50 [.t 9, .k (.int .i64 1), .k (.int .i64 3)], .op (some 11) (.not (.t 10))] (.t 11),
   .op (some 13) (.mov (.t 12)),
   .andor 29 false 10 13 [.op (some 14) (.fadr (.t 1) 11), .op (some 15) (.loadN 1 (.t 14)), .call (some 16) 75 [.t 15], .op (some 17) (.not (.t 16)), .op (some 18) (.mov (.t 17)), .andor 28 true 15 18 [.op (some 19) (.fadr (.t 1) 0), .op (some 20) (.load1 (.t 19)), .op (some 21) (.bin .eql (.t 20) (.k (.int .i64 2))), .op (some 22) (.mov (.t 21)), .andor 27 false 19 22 [.op (some 23) (.fadr (.t 1) 11), .op (some 24) (.loadN 1 (.t 23)), .call (some 25) 26 [.t 24], .op (some 26) (.not (.t 25))] (.t 26)] (.t 27)] (.t 28)])
  (.keep [1, 29] (.cond (.t 29)
  (.seq (.ops [.op (some 2) (.mov (.k (.bool false)))])
   (.keep [2] (.ret)))
  (.skip))))
 (.keep [1] (.seq (.seq (.ops [.op (some 30) (.fadr (.t 1) 0),
   .op (some 31) (.load1 (.t 30)),
   .op (some 32) (.bin .neq (.t 31) (.k (.int .i64 2))),
   .op (some 33) (.mov (.t 32)),
   .andor 38 true 3 33 [.op (some 34) (.fadr (.t 1) 2), .op (some 35) (.loadN 7 (.t 34)), .op (some 36) (.build [.int .i64 0, .int .i64 0, .int .i64 0, .str [], .int .i64 0, .int .i64 0, .str []] []), .op (some 37) (.eqs true [0, 0, 0, 2, 0, 0, 2] (.t 35) (.t 36))] (.t 37),
   .op (some 39) (.mov (.t 38)),
   .andor 49 false 9 39 [.op (some 40) (.fadr (.t 1) 0), .op (some 41) (.load1 (.t 40)), .op (some 42) (.bin .eql (.t 41) (.k (.int .i64 2))), .op (some 43) (.mov (.t 42)), .andor 48 true 13 43 [.op (some 44) (.fadr (.t 1) 2), .op (some 45) (.loadN 7 (.t 44)), .call (some 46) 76 [.t 45], .op (some 47) (.not (.t 46))] (.t 47)] (.t 48)])
  (.keep [1, 49] (.cond (.t 49)
  (.seq (.ops [.op (some 2) (.mov (.k (.bool false)))])
   (.keep [2] (.ret)))
  (.skip))))
 (.keep [1] (.seq (.seq (.ops [.op (some 50) (.fadr (.t 1) 0),
   .op (some 51) (.load1 (.t 50)),
   .op (some 52) (.bin .eql (.t 51) (.k (.int .i64 3)))])
  (.keep [1, 52] (.cond (.t 52)
  (.seq (.ops [.op (some 53) (.fadr (.t 1) 9),
    .op (some 54) (.load1 (.t 53)),
    .call (some 55) 50 [.t 54, .k (.int .i64 1), .k (.int .i64 2)],
    .op (some 56) (.not (.t 55)),
    .op (some 57) (.mov (.t 56)),
    .andor 62 false 4 57 [.op (some 58) (.fadr (.t 1) 10), .op (some 59) (.loadN 1 (.t 58)), .call (some 60) 26 [.t 59], .op (some 61) (.not (.t 60))] (.t 61)])
   (.keep [1, 62] (.cond (.t 62)
   (.seq (.ops [.op (some 2) (.mov (.k (.bool false)))])
    (.keep [2] (.ret)))
   (.skip))))
  (.seq (.ops [.op (some 63) (.fadr (.t 1) 9),
    .op (some 64) (.load1 (.t 63)),
    .op (some 65) (.bin .neq (.t 64) (.k (.int .i64 0))),
    .op (some 66) (.mov (.t 65)),
    .andor 71 false 3 66 [.op (some 67) (.fadr (.t 1) 10), .op (some 68) (.loadN 1 (.t 67)), .call (some 69) 75 [.t 68], .op (some 70) (.not (.t 69))] (.t 70)])
   (.keep [1, 71] (.cond (.t 71)
   (.seq (.ops [.op (some 2) (.mov (.k (.bool false)))])
    (.keep [2] (.ret)))
   (.skip)))))))
 (.keep [1] (.seq (.seq (.ops [.op (some 72) (.fadr (.t 1) 0),
   .op (some 73) (.load1 (.t 72)),
   .op (some 74) (.bin .neq (.t 73) (.k (.int .i64 1)))])
  (.keep [1, 74] (.cond (.t 74)
  (.seq (.ops [.op (some 75) (.fadr (.t 1) 12),
    .op (some 76) (.load1 (.t 75)),
    .op (some 77) (.bin .eql (.t 76) (.k (.int .i64 0))),
    .op (some 78) (.mov (.t 77)),
    .andor 82 true 3 78 [.op (some 79) (.fadr (.t 1) 13), .op (some 80) (.load1 (.t 79)), .op (some 81) (.not (.t 80))] (.t 81),
    .op (some 2) (.mov (.t 82))])
   (.keep [2] (.ret)))
  (.skip))))
 (.keep [1] (.seq (.ops [.op (some 83) (.fadr (.t 1) 12),
   .op (some 84) (.load1 (.t 83)),
   .call (some 85) 50 [.t 84, .k (.int .i64 0), .k (.int .i64 2)],
   .op (some 2) (.mov (.t 85))])
 (.keep [2] (.ret))))))))))))
theorem k_c_sStmtOK_fits : fitsF Tryz.prog 39 ⟨86, k_c_sStmtOK, [.t 2]⟩ = true := by kernel_rfl
theorem c_sStmtOK {s : GStmt} (hs0 : s.Set.Nodes.length ≤ 1048576) (hs1 : ∀ x ∈ s.Set.Nodes, x.V.T.length ≤ 1048576) (hw0 : s.Where.Nodes.length ≤ 1048576) (hw1 : ∀ x ∈ s.Where.Nodes, x.V.T.length ≤ 1048576) (hr0 : s.Row.N.T.length ≤ 1048576) (hr1 : s.Row.Name.T.length ≤ 1048576) : Con Tryz.prog noMv 39 [s.av] [] (fun r h => r = bool (stmtOK s) ∧ h = []) := by
 refine con_of2 k_c_sStmtOK_fits rfl fun C hP hmv => ?_
 unfold k_c_sStmtOK
 refine cx_seq (cx_ops ?_)
 refine ax_e (e_box rfl rfl (by decide) rfl rfl rfl) ?_
 refine ax_q (q_mov rfl) ?_
 refine ax_nil (cx_keep rfl rfl (cx_seq (cx_seq (cx_ops ?_))))
 refine ax_q (q_fadr_ptr rfl) ?_
 refine ax_q (q_load1_ptr rfl rfl rfl) ?_
 refine ax_call rfl (vc_pure0 (c_l01In  ) hP rfl rfl ?_)
 refine ax_q (q_not rfl) ?_
 refine ax_q (q_mov rfl) ?_
 apply ax_or rfl rfl
 ·
  intro g
  have g := bF g
  refine ax_q (q_fadr_ptr rfl) ?_
  refine ax_q (q_load1_ptr rfl rfl rfl) ?_
  refine ax_call rfl (vc_pure0 (c_l01In  ) hP rfl rfl ?_)
  refine ax_q (q_not rfl) ?_
  exact ax_nil ⟨rfl, by repeat constructor⟩
 refine ax_q (q_mov rfl) ?_
 apply ax_or rfl rfl
 ·
  intro g
  have g := (fun h => And.intro (bF (or_F h).1) (bF (or_F h).2)) g
  refine ax_q (q_fadr_ptr rfl) ?_
  refine ax_q (q_ldN rfl rfl rfl) ?_
  refine ax_call rfl (vc_pure0 (c_l12None (e := s.Where) ) hP rfl rfl ?_)
  refine ax_q (q_not rfl) ?_
  refine ax_q (q_mov rfl) ?_
  apply ax_and rfl rfl
  ·
   intro g
   have g := bT g
   refine ax_q (q_fadr_ptr rfl) ?_
   refine ax_q (q_load1_ptr rfl rfl rfl) ?_
   refine ax_q (q_ibin rfl rfl rfl) ?_
   refine ax_q (q_mov rfl) ?_
   apply ax_or rfl rfl
   ·
    intro g
    have g := dF g
    refine ax_q (q_fadr_ptr rfl) ?_
    refine ax_q (q_ldN rfl rfl rfl) ?_
    refine ax_call rfl (vc_pure0 (c_sExprOK (e := s.Where) ?_ ?_) hP rfl rfl ?_)
    ·
     assumption
    ·
     assumption
    refine ax_q (q_not rfl) ?_
    exact ax_nil ⟨rfl, by repeat constructor⟩
   exact ax_nil ⟨rfl, by repeat constructor⟩
  exact ax_nil ⟨rfl, by repeat constructor⟩
 refine ax_nil (cx_keep rfl rfl ?_)
 refine cx_cond rfl (fun h0 => ?_) (fun h0 => ?_)
 ·
  have h0 : sBad0 s = true := h0
  refine cx_seq (cx_ops ?_)
  refine ax_q (q_mov rfl) ?_
  refine ax_nil (cx_keep rfl rfl ?_)
  refine cx_ret (ret0 rfl rfl ?_)
  exact ⟨by unfold stmtOK; rw [h0]; rfl, rfl⟩
 ·
  have h0 : sBad0 s = false := h0
  refine cx_skip ?_
  refine cx_keep rfl rfl (cx_seq (cx_seq (cx_ops ?_)))
  refine ax_q (q_fadr_ptr rfl) ?_
  refine ax_q (q_load1_ptr rfl rfl rfl) ?_
  refine ax_q (q_ibin rfl rfl rfl) ?_
  refine ax_q (q_mov rfl) ?_
  apply ax_and rfl rfl
  ·
   intro g
   have g := nT g
   refine ax_q (q_fadr_ptr rfl) ?_
   refine ax_q (q_ldN rfl rfl rfl) ?_
   refine ax_q (q_build rfl) ?_
   first | refine ax_q (GRow.q_eqs rfl rfl) ?_ | refine ax_q (q_eqs rfl rfl rfl) ?_
   exact ax_nil ⟨rfl, by repeat constructor⟩
  refine ax_q (q_mov rfl) ?_
  apply ax_or rfl rfl
  ·
   intro g
   have g := (fun h => (and_F h).imp nF bF) g
   refine ax_q (q_fadr_ptr rfl) ?_
   refine ax_q (q_load1_ptr rfl rfl rfl) ?_
   refine ax_q (q_ibin rfl rfl rfl) ?_
   refine ax_q (q_mov rfl) ?_
   apply ax_and rfl rfl
   ·
    intro g
    have g := dT g
    refine ax_q (q_fadr_ptr rfl) ?_
    refine ax_q (q_ldN rfl rfl rfl) ?_
    refine ax_call rfl (vc_pure0 (c_l07Row (a := s.Row) ?_ ?_) hP rfl rfl ?_)
    ·
     assumption
    ·
     assumption
    refine ax_q (q_not rfl) ?_
    exact ax_nil ⟨rfl, by repeat constructor⟩
   exact ax_nil ⟨rfl, by repeat constructor⟩
  refine ax_nil (cx_keep rfl rfl ?_)
  refine cx_cond rfl (fun h1 => ?_) (fun h1 => ?_)
  ·
   have h1 : sBad1 s = true := h1
   refine cx_seq (cx_ops ?_)
   refine ax_q (q_mov rfl) ?_
   refine ax_nil (cx_keep rfl rfl ?_)
   refine cx_ret (ret0 rfl rfl ?_)
   exact ⟨by unfold stmtOK; rw [h0, h1]; rfl, rfl⟩
  ·
   have h1 : sBad1 s = false := h1
   refine cx_skip ?_
   refine cx_keep rfl rfl (cx_seq (cx_seq (cx_ops ?_)))
   refine ax_q (q_fadr_ptr rfl) ?_
   refine ax_q (q_load1_ptr rfl rfl rfl) ?_
   refine ax_q (q_ibin rfl rfl rfl) ?_
   refine ax_nil (cx_keep rfl rfl ?_)
   refine cx_cond rfl (fun h2 => ?_) (fun h2 => ?_)
   ·
    have h2 := dT h2
    refine cx_seq (cx_ops ?_)
    refine ax_q (q_fadr_ptr rfl) ?_
    refine ax_q (q_load1_ptr rfl rfl rfl) ?_
    refine ax_call rfl (vc_pure0 (c_l01In  ) hP rfl rfl ?_)
    refine ax_q (q_not rfl) ?_
    refine ax_q (q_mov rfl) ?_
    apply ax_or rfl rfl
    ·
     intro g
     have g := bF g
     refine ax_q (q_fadr_ptr rfl) ?_
     refine ax_q (q_ldN rfl rfl rfl) ?_
     refine ax_call rfl (vc_pure0 (c_sExprOK (e := s.Set) ?_ ?_) hP rfl rfl ?_)
     ·
      assumption
     ·
      assumption
     refine ax_q (q_not rfl) ?_
     exact ax_nil ⟨rfl, by repeat constructor⟩
    refine ax_nil (cx_keep rfl rfl ?_)
    refine cx_cond rfl (fun h3 => ?_) (fun h3 => ?_)
    ·
     have h3 : sBad3 s = true := h3
     refine cx_seq (cx_ops ?_)
     refine ax_q (q_mov rfl) ?_
     refine ax_nil (cx_keep rfl rfl ?_)
     refine cx_ret (ret0 rfl rfl ?_)
     exact ⟨by unfold stmtOK; rw [h0, h1, decide_eq_true h2, h3]; rfl, rfl⟩
    ·
     have h3 : sBad3 s = false := h3
     refine cx_skip ?_
     refine cx_keep rfl rfl (cx_seq (cx_seq (cx_ops ?_)))
     refine ax_q (q_fadr_ptr rfl) ?_
     refine ax_q (q_load1_ptr rfl rfl rfl) ?_
     refine ax_q (q_ibin rfl rfl rfl) ?_
     refine ax_nil (cx_keep rfl rfl ?_)
     refine cx_cond rfl (fun h5 => ?_) (fun h5 => ?_)
     ·
      have h5 := nT h5
      refine cx_seq (cx_ops ?_)
      refine ax_q (q_fadr_ptr rfl) ?_
      refine ax_q (q_load1_ptr rfl rfl rfl) ?_
      refine ax_q (q_ibin rfl rfl rfl) ?_
      refine ax_q (q_mov rfl) ?_
      apply ax_and rfl rfl
      ·
       intro g
       have g := dT g
       refine ax_q (q_fadr_ptr rfl) ?_
       refine ax_q (q_load1_ptr rfl rfl rfl) ?_
       refine ax_q (q_not rfl) ?_
       exact ax_nil ⟨rfl, by repeat constructor⟩
      refine ax_q (q_mov rfl) ?_
      refine ax_nil (cx_keep rfl rfl ?_)
      refine cx_ret (ret0 rfl rfl ?_)
      have e : stmtOK s = sTail s := by
       unfold stmtOK; rw [h0, h1]
       (rw [decide_eq_true h2, h3]; rfl)
      exact ⟨by rw [e]; unfold sTail; rw [decide_eq_false h5]; rfl, rfl⟩
     ·
      have h5 := nF h5
      refine cx_skip ?_
      refine cx_keep rfl rfl (cx_seq (cx_ops ?_))
      refine ax_q (q_fadr_ptr rfl) ?_
      refine ax_q (q_load1_ptr rfl rfl rfl) ?_
      refine ax_call rfl (vc_pure0 (c_l01In  ) hP rfl rfl ?_)
      refine ax_q (q_mov rfl) ?_
      refine ax_nil (cx_keep rfl rfl ?_)
      refine cx_ret (ret0 rfl rfl ?_)
      have e : stmtOK s = sTail s := by
       unfold stmtOK; rw [h0, h1]
       (rw [decide_eq_true h2, h3]; rfl)
      exact ⟨by rw [e]; unfold sTail; rw [decide_eq_true h5]; rfl, rfl⟩
   ·
    have h2 := dF h2
    refine cx_seq (cx_ops ?_)
    refine ax_q (q_fadr_ptr rfl) ?_
    refine ax_q (q_load1_ptr rfl rfl rfl) ?_
    refine ax_q (q_ibin rfl rfl rfl) ?_
    refine ax_q (q_mov rfl) ?_
    apply ax_or rfl rfl
    ·
     intro g
     have g := nF g
     refine ax_q (q_fadr_ptr rfl) ?_
     refine ax_q (q_ldN rfl rfl rfl) ?_
     refine ax_call rfl (vc_pure0 (c_l12None (e := s.Set) ) hP rfl rfl ?_)
     refine ax_q (q_not rfl) ?_
     exact ax_nil ⟨rfl, by repeat constructor⟩
    refine ax_nil (cx_keep rfl rfl ?_)
    refine cx_cond rfl (fun h4 => ?_) (fun h4 => ?_)
    ·
     have h4 : sBad4 s = true := h4
     refine cx_seq (cx_ops ?_)
     refine ax_q (q_mov rfl) ?_
     refine ax_nil (cx_keep rfl rfl ?_)
     refine cx_ret (ret0 rfl rfl ?_)
     exact ⟨by unfold stmtOK; rw [h0, h1, decide_eq_false h2, h4]; rfl, rfl⟩
    ·
     have h4 : sBad4 s = false := h4
     refine cx_skip ?_
     refine cx_keep rfl rfl (cx_seq (cx_seq (cx_ops ?_)))
     refine ax_q (q_fadr_ptr rfl) ?_
     refine ax_q (q_load1_ptr rfl rfl rfl) ?_
     refine ax_q (q_ibin rfl rfl rfl) ?_
     refine ax_nil (cx_keep rfl rfl ?_)
     refine cx_cond rfl (fun h5 => ?_) (fun h5 => ?_)
     ·
      have h5 := nT h5
      refine cx_seq (cx_ops ?_)
      refine ax_q (q_fadr_ptr rfl) ?_
      refine ax_q (q_load1_ptr rfl rfl rfl) ?_
      refine ax_q (q_ibin rfl rfl rfl) ?_
      refine ax_q (q_mov rfl) ?_
      apply ax_and rfl rfl
      ·
       intro g
       have g := dT g
       refine ax_q (q_fadr_ptr rfl) ?_
       refine ax_q (q_load1_ptr rfl rfl rfl) ?_
       refine ax_q (q_not rfl) ?_
       exact ax_nil ⟨rfl, by repeat constructor⟩
      refine ax_q (q_mov rfl) ?_
      refine ax_nil (cx_keep rfl rfl ?_)
      refine cx_ret (ret0 rfl rfl ?_)
      have e : stmtOK s = sTail s := by
       unfold stmtOK; rw [h0, h1]
       first | (rw [decide_eq_true h2, h3]; rfl) | (rw [decide_eq_false h2, h4]; rfl)
      exact ⟨by rw [e]; unfold sTail; rw [decide_eq_false h5]; rfl, rfl⟩
     ·
      have h5 := nF h5
      refine cx_skip ?_
      refine cx_keep rfl rfl (cx_seq (cx_ops ?_))
      refine ax_q (q_fadr_ptr rfl) ?_
      refine ax_q (q_load1_ptr rfl rfl rfl) ?_
      refine ax_call rfl (vc_pure0 (c_l01In  ) hP rfl rfl ?_)
      refine ax_q (q_mov rfl) ?_
      refine ax_nil (cx_keep rfl rfl ?_)
      refine cx_ret (ret0 rfl rfl ?_)
      have e : stmtOK s = sTail s := by
       unfold stmtOK; rw [h0, h1]
       first | (rw [decide_eq_true h2, h3]; rfl) | (rw [decide_eq_false h2, h4]; rfl)
      exact ⟨by rw [e]; unfold sTail; rw [decide_eq_true h5]; rfl, rfl⟩


/- loop.example/g00332/spec.l00Digits -/
def k_c_l00Digits : XCode :=
 .seq (.ops [.op (some 2) (.mov (.k (.str [])))])
 (.keep [0] (.seq (.seq (.ops [.op (some 3) (.mov (.t 0)),
   .op (some 4) (.bin .eql (.t 3) (.k (.int .i64 (-9223372036854775808))))])
  (.keep [0, 4] (.cond (.t 4)
  (.seq (.ops [.op (some 2) (.mov (.k (.str [45, 57, 50, 50, 51, 51, 55, 50, 48, 51, 54, 56, 53, 52, 55, 55, 53, 56, 48, 56])))])
   (.keep [2] (.ret)))
  (.skip))))
 (.keep [0] (.seq (.seq (.ops [.op (some 5) (.mov (.t 0)),
   .op (some 6) (.bin .lss (.t 5) (.k (.int .i64 0)))])
  (.keep [0, 6] (.cond (.t 6)
  (.seq (.ops [.op (some 7) (.mov (.t 0)),
    .op (some 8) (.neg (.t 7)),
    .call (some 9) 77 [.t 8],
    .op (some 10) (.bin .add (.k (.str [45])) (.t 9)),
    .op (some 2) (.mov (.t 10))])
   (.keep [2] (.ret)))
  (.skip))))
 (.keep [0] (.seq (.seq (.ops [.op (some 11) (.mov (.t 0)),
   .op (some 12) (.bin .lss (.t 11) (.k (.int .i64 10)))])
  (.keep [0, 12] (.cond (.t 12)
  (.seq (.ops [.op (some 13) (.mov (.t 0)),
    .op (some 14) (.bin .add (.k (.int .i64 48)) (.t 13)),
    .op (some 15) (.conv .u8 (.t 14)),
    .op (some 16) (.bslice 1 [.t 15]),
    .op (some 17) (.b2s (.t 16)),
    .op (some 2) (.mov (.t 17))])
   (.keep [2] (.ret)))
  (.skip))))
 (.keep [0] (.seq (.drawE [[], [0], [0, 1], [], [3], [3, 4], [3, 4, 5], [3, 4, 5, 6], [3, 4, 5, 6, 7], [0, 1, 2, 3, 4, 5, 6, 7, 8], [0, 1, 2, 3, 4, 5, 6, 7, 8, 9]] [.op (some 18) (.mov (.t 0)),
   .op (some 19) (.bin .quo (.t 18) (.k (.int .i64 10))),
   .call (some 20) 77 [.t 19],
   .op (some 21) (.mov (.t 0)),
   .op (some 22) (.bin .rem (.t 21) (.k (.int .i64 10))),
   .op (some 23) (.bin .add (.k (.int .i64 48)) (.t 22)),
   .op (some 24) (.conv .u8 (.t 23)),
   .op (some 25) (.bslice 1 [.t 24]),
   .op (some 26) (.b2s (.t 25))]
  [.op (some 27) (.bin .add (.t 20) (.t 26)),
   .op (some 2) (.mov (.t 27))])
 (.keep [2] (.ret))))))))))
theorem k_c_l00Digits_fits : fitsF Tryz.prog 77 ⟨28, k_c_l00Digits, [.t 2]⟩ = true := by kernel_rfl
theorem c_l00Digits {f : Nat} {n : Int} (hf : dgM f n) : Con Tryz.prog noMv 77 [int n] [] (fun r h => r = str (Lib.itoa n) ∧ h = []) := by
 induction f generalizing n with
 | zero => exact absurd hf.1 (by decide)
 | succ f ih =>
  refine con_of2 k_c_l00Digits_fits rfl fun C hP hmv => ?_
  unfold k_c_l00Digits
  have hb := dgM_b hf
  have hfl := hf.2.1
  refine cx_seq (cx_ops ?_)
  refine ax_q (q_mov rfl) ?_
  refine ax_nil (cx_keep rfl rfl (cx_seq (cx_seq (cx_ops ?_))))
  refine ax_q (q_mov rfl) ?_
  refine ax_q (q_ibin rfl rfl rfl) ?_
  refine ax_nil (cx_keep rfl rfl ?_)
  refine cx_cond rfl (fun h0 => ?_) (fun h0 => ?_)
  ·
   have h0 := dT h0
   exfalso; omega
  ·
   have h0 := dF h0
   refine cx_skip ?_
   refine cx_keep rfl rfl (cx_seq (cx_seq (cx_ops ?_)))
   refine ax_q (q_mov rfl) ?_
   refine ax_q (q_ibin rfl rfl rfl) ?_
   refine ax_nil (cx_keep rfl rfl ?_)
   refine cx_cond rfl (fun h1 => ?_) (fun h1 => ?_)
   ·
    have h1 := dT h1
    have hln := itoa_len (dgM_neg hf h1)
    refine cx_seq (cx_ops ?_)
    refine ax_q (q_mov rfl) ?_
    refine ax_q (q_negI rfl (by omega)) ?_
    refine ax_call rfl (vc_pure0 (ih  ?_) hP rfl rfl ?_)
    ·
     exact dgM_neg hf h1
    refine ax_qe (r' := str (45 :: Lib.itoa (-n))) (q_sbin_add rfl rfl (by simp; omega)) (rfl) ?_
    refine ax_q (q_mov rfl) ?_
    refine ax_nil (cx_keep rfl rfl ?_)
    refine cx_ret (ret0 rfl rfl ?_)
    exact ⟨by rw [itoa_neg h1]; rfl, rfl⟩
   ·
    have h1 := dF h1
    refine cx_skip ?_
    refine cx_keep rfl rfl (cx_seq (cx_seq (cx_ops ?_)))
    refine ax_q (q_mov rfl) ?_
    refine ax_q (q_ibin rfl rfl rfl) ?_
    refine ax_nil (cx_keep rfl rfl ?_)
    refine cx_cond rfl (fun h2 => ?_) (fun h2 => ?_)
    ·
     have h2 := dT h2
     refine cx_seq (cx_ops ?_)
     refine ax_q (q_mov rfl) ?_
     refine ax_qe (r' := int ((48 + n.toNat : Nat) : Int)) (q_ibin rfl rfl rfl) (by rw [wi (by omega) (by omega)]; exact congrArg AM.int (by omega)) ?_
     refine ax_qe (r' := .d (.int .u8 ((UInt8.ofNat (48 + n.toNat)).toNat : Int))) (q_conv rfl) (by rw [byteConv (by omega)]) ?_
     refine ax_e (e_bslice rfl (by decide) rfl rfl) ?_
     refine ax_q (q_b2s (bs := [UInt8.ofNat (48 + n.toNat)]) rfl (src_osl rfl (by simp)) (by simp [byteRow]) ⟨_, _, _, _, .inl rfl⟩) ?_
     refine ax_q (q_mov rfl) ?_
     refine ax_nil (cx_keep rfl rfl ?_)
     refine cx_ret (ret0 rfl rfl ?_)
     exact ⟨by rw [itoa_one (by omega) h2]; rfl, rfl⟩
    ·
     have h2 := dF h2
     have hdv := dgM_div hf h2
     have hln := itoa_len hdv
     refine cx_skip ?_
     refine cx_keep rfl rfl (cx_seq ?_)
     refine cx_drawL 0 18 (fun _ => false) (fun _ => true) [] ([]) [[0], [18], [19], [0], [21], [22], [23], [24], [25]] [[], [], [], [], [], [], [], [], []] rfl ?_
     first | refine ⟨⟨18, _, []⟩, .inl ⟨rfl, rfl, rfl, locl_of (loc_q (q_mov rfl))⟩, ?_⟩
     first | refine ⟨_, .inr ⟨rfl, _, rfl, .inr ⟨rfl, rfl, .inl rfl, rfl, rfl⟩, loc_qe (r' := int (n / 10)) (q_idiv rfl rfl rfl (by decide)) (by rw [Int.tdiv_eq_ediv_of_nonneg (by omega), wi (by omega) (by omega)])⟩, ?_⟩
     refine ⟨_, .inr ⟨rfl, _, rfl, .inr ⟨rfl, rfl, .inl rfl, rfl, rfl⟩, loc_call (fun i => 20 + 200 * i) false rfl (ih  (by first | assumption | omega | (simp; done) | (simp; omega))) hP (.inr ⟨rfl, rfl, rfl⟩) rfl rfl (fun h => by cases h)⟩, ?_⟩
     first | refine ⟨_, .inr ⟨rfl, _, rfl, .inr ⟨rfl, rfl, .inr rfl, rfl, rfl⟩, loc_q (q_mov rfl)⟩, ?_⟩
     first | refine ⟨_, .inr ⟨rfl, _, rfl, .inr ⟨rfl, rfl, .inr rfl, rfl, rfl⟩, loc_qe (r' := int ((n % 10).toNat : Nat)) (q_idiv rfl rfl rfl (by decide)) (by rw [Int.tmod_eq_emod_of_nonneg (by omega)]; exact congrArg AM.int (by omega))⟩, ?_⟩
     first | refine ⟨_, .inr ⟨rfl, _, rfl, .inr ⟨rfl, rfl, .inr rfl, rfl, rfl⟩, loc_qe (r' := int ((48 + (n % 10).toNat : Nat) : Int)) (q_ibin rfl rfl rfl) (by rw [wi (by omega) (by omega)]; exact congrArg AM.int (by omega))⟩, ?_⟩
     first | refine ⟨_, .inr ⟨rfl, _, rfl, .inr ⟨rfl, rfl, .inr rfl, rfl, rfl⟩, loc_qe (r' := .d (.int .u8 ((UInt8.ofNat (48 + (n % 10).toNat)).toNat : Int))) (q_conv rfl) (by rw [byteConv (by omega)])⟩, ?_⟩
     first | refine ⟨_, .inr ⟨rfl, _, rfl, .inr ⟨rfl, rfl, .inr rfl, rfl, rfl⟩, loc_bslice rfl⟩, ?_⟩
     first | refine ⟨_, .inr ⟨rfl, _, rfl, .inr ⟨rfl, rfl, .inr rfl, rfl, rfl⟩, loc_q (q_b2s (bs := [UInt8.ofNat (48 + (n % 10).toNat)]) rfl (src_osl rfl (by simp)) (by simp [byteRow]) ⟨_, _, _, _, .inl rfl⟩)⟩, ?_⟩
     refine ⟨rfl, ?_⟩
     refine ax_qe (r' := str (Lib.itoa (n / 10) ++ [UInt8.ofNat (48 + (n % 10).toNat)])) (q_sbin_add rfl rfl (by simp; omega)) (rfl) ?_
     refine ax_q (q_mov rfl) ?_
     refine ax_nil (cx_keep rfl rfl ?_)
     refine cx_ret (ret0 rfl rfl ?_)
     exact ⟨by rw [itoa_more h2]; rfl, rfl⟩


/- loop.example/g00332/spec.l01Text -/
def k_c_l01Text : XCode :=
 .seq (.ops [.op (some 1) (.box (.t 0)),
   .op (some 2) (.mov (.k (.str [])))])
 (.keep [1] (.seq (.seq (.ops [.op (some 3) (.fadr (.t 1) 0),
   .op (some 4) (.load1 (.t 3))])
  (.keep [1, 4] (.block 0 (.seq (.ops [.op (some 6) (.bin .eql (.t 4) (.k (.int .i64 0))),
    .op (some 5) (.mov (.t 6))])
  (.keep [1, 4, 5] (.cond (.t 5)
   (.seq (.ops [.op (some 2) (.mov (.k (.str [110, 117, 108, 108])))])
   (.keep [2] (.ret)))
   (.seq (.ops [.op (some 8) (.bin .eql (.t 4) (.k (.int .i64 1))),
     .op (some 7) (.mov (.t 8))])
   (.keep [1, 7] (.cond (.t 7)
    (.seq (.ops [.op (some 9) (.fadr (.t 1) 1),
      .op (some 10) (.load1 (.t 9)),
      .call (some 11) 77 [.t 10],
      .op (some 2) (.mov (.t 11))])
    (.keep [2] (.ret)))
    (.skip))))))))))
 (.keep [1] (.seq (.ops [.op (some 12) (.fadr (.t 1) 2),
   .op (some 13) (.load1 (.t 12)),
   .op (some 14) (.bin .add (.k (.str [39])) (.t 13)),
   .op (some 15) (.bin .add (.t 14) (.k (.str [39]))),
   .op (some 2) (.mov (.t 15))])
 (.keep [2] (.ret))))))
theorem k_c_l01Text_fits : fitsF Tryz.prog 52 ⟨16, k_c_l01Text, [.t 2]⟩ = true := by kernel_rfl
theorem c_l01Text {v : GValue} (hv : valueOK v = true) : Con Tryz.prog noMv 52 [v.av] [] (fun r h => r = str (vtextF v) ∧ h = []) := by
 refine con_of2 k_c_l01Text_fits rfl fun C hP hmv => ?_
 unfold k_c_l01Text
 have htl := vOK_t hv
 refine cx_seq (cx_ops ?_)
 refine ax_e (e_box rfl rfl (by decide) rfl rfl rfl) ?_
 refine ax_q (q_mov rfl) ?_
 refine ax_nil (cx_keep rfl rfl (cx_seq (cx_seq (cx_ops ?_))))
 refine ax_q (q_fadr_ptr rfl) ?_
 refine ax_q (q_load1_ptr rfl rfl rfl) ?_
 refine ax_nil (cx_keep rfl rfl (cx_block (cx_seq (cx_ops ?_))))
 refine ax_q (q_ibin rfl rfl rfl) ?_
 refine ax_q (q_mov rfl) ?_
 refine ax_nil (cx_keep rfl rfl ?_)
 refine cx_cond rfl (fun h0 => ?_) (fun h0 => ?_)
 ·
  have h0 := dT h0
  refine cx_seq (cx_ops ?_)
  refine ax_q (q_mov rfl) ?_
  refine ax_nil (cx_keep rfl rfl ?_)
  refine cx_ret (ret0 rfl rfl ?_)
  exact ⟨by rw [vtext_0 h0]; rfl, rfl⟩
 ·
  have h0 := dF h0
  refine cx_seq (cx_ops ?_)
  refine ax_q (q_ibin rfl rfl rfl) ?_
  refine ax_q (q_mov rfl) ?_
  refine ax_nil (cx_keep rfl rfl ?_)
  refine cx_cond rfl (fun h1 => ?_) (fun h1 => ?_)
  ·
   have h1 := dT h1
   have hvn := vOK_n hv h1
   refine cx_seq (cx_ops ?_)
   refine ax_q (q_fadr_ptr rfl) ?_
   refine ax_q (q_load1_ptr rfl rfl rfl) ?_
   refine ax_call rfl (vc_pure0 (c_l00Digits (f := 11) (n := v.N) ?_) hP rfl rfl ?_)
   ·
    exact dgM_small hvn
   refine ax_q (q_mov rfl) ?_
   refine ax_nil (cx_keep rfl rfl ?_)
   refine cx_ret (ret0 rfl rfl ?_)
   exact ⟨by rw [vtext_1 h1]; rfl, rfl⟩
  ·
   have h1 := dF h1
   refine cx_skip ?_
   refine cx_keep rfl rfl (cx_seq (cx_ops ?_))
   refine ax_q (q_fadr_ptr rfl) ?_
   refine ax_q (q_load1_ptr rfl rfl rfl) ?_
   refine ax_qe (r' := str (39 :: v.T)) (q_sbin_add rfl rfl (by simp; omega)) (rfl) ?_
   refine ax_qe (r' := str ((39 :: v.T) ++ [39])) (q_sbin_add rfl rfl (by simp; omega)) (rfl) ?_
   refine ax_q (q_mov rfl) ?_
   refine ax_nil (cx_keep rfl rfl ?_)
   refine cx_ret (ret0 rfl rfl ?_)
   exact ⟨by rw [vtext_2 h0 h1]; rfl, rfl⟩


/- loop.example/g00332/spec.l10Columns -/
def k_c_l10Columns : XCode :=
 .seq (.ops [.op (some 0) (.mov (.k (.nils 1)))])
 (.keep [] (.seq (.ops [.op (some 1) (.bslice 1 [.k (.str [105, 100]), .k (.str [110]), .k (.str [110, 97, 109, 101])]),
   .op (some 0) (.mov (.t 1))])
 (.keep [0] (.ret))))
theorem k_c_l10Columns_fits : fitsF Tryz.prog 53 ⟨2, k_c_l10Columns, [.t 0]⟩ = true := by kernel_rfl
theorem c_l10Columns  : Con Tryz.prog noMv 53 [] [] (fun r h => r = .osl 0 1 0 3 ∧ h = [(0, .rows 1 (colsL.map strRow))]) := by
 refine con_of2 k_c_l10Columns_fits rfl fun C hP hmv => ?_
 unfold k_c_l10Columns
 refine cx_seq (cx_ops ?_)
 refine ax_q (q_mov rfl) ?_
 refine ax_nil (cx_keep rfl rfl (cx_seq (cx_ops ?_)))
 refine ax_e (e_bslice rfl (by decide) rfl rfl) ?_
 refine ax_q (q_mov rfl) ?_
 refine ax_nil (cx_keep rfl rfl ?_)
 refine cx_ret (retN (fun _ => 0) [1] rfl rfl rfl rfl rfl ?_)
 exact ⟨rfl, rfl⟩


/- loop.example/g00332/spec.l10Sign -/
def k_c_l10Sign : XCode :=
 .seq (.ops [.op (some 2) (.mov (.k (.str [])))])
 (.keep [0] (.seq (.ops [.op (some 3) (.bslice 1 [.k (.str []), .k (.str []), .k (.str []), .k (.str []), .k (.str []), .k (.str []), .k (.str [43]), .k (.str [45]), .k (.str [42]), .k (.str [47]), .k (.str [61]), .k (.str [60]), .k (.str [97, 110, 100]), .k (.str [111, 114])]),
   .op (some 4) (.mov (.t 0)),
   .op (some 5) (.iadr 1 (.t 3) (.t 4)),
   .op (some 6) (.load1 (.t 5)),
   .op (some 2) (.mov (.t 6))])
 (.keep [2] (.ret))))
theorem k_c_l10Sign_fits : fitsF Tryz.prog 54 ⟨7, k_c_l10Sign, [.t 2]⟩ = true := by kernel_rfl
theorem c_l10Sign {op : Int} (ho : 6 ≤ op ∧ op ≤ 13) : Con Tryz.prog noMv 54 [int op] [] (fun r h => r = str (sgnT op) ∧ h = []) := by
 refine con_of2 k_c_l10Sign_fits rfl fun C hP hmv => ?_
 unfold k_c_l10Sign
 refine cx_seq (cx_ops ?_)
 refine ax_q (q_mov rfl) ?_
 refine ax_nil (cx_keep rfl rfl (cx_seq (cx_ops ?_)))
 refine ax_e (e_bslice rfl (by decide) rfl rfl) ?_
 refine ax_q (q_mov rfl) ?_
 refine ax_q (q_ixoI rfl rfl (by omega) (by show _ < (14 : Nat); omega)) ?_
 refine ax_q (q_load1_rptr rfl rfl (sgn14_at ho) rfl) ?_
 refine ax_q (q_mov rfl) ?_
 refine ax_nil (cx_keep rfl rfl ?_)
 refine cx_ret (ret0 rfl rfl ?_)
 exact ⟨rfl, rfl⟩


/- loop.example/g00332/spec.l10Text -/
def k_c_l10Text : XCode :=
 .seq (.ops [.op (some 2) (.box (.t 0)),
   .op (some 4) (.mov (.k (.str [])))])
 (.keep [1, 2] (.seq (.ops [.op (some 6) (.fadr (.t 2) 0),
   .op (some 7) (.load1 (.t 6)),
   .op (some 8) (.mov (.t 1)),
   .op (some 9) (.iadr 7 (.t 7) (.t 8)),
   .op (some 10) (.loadN 7 (.t 9)),
   .op (some 5) (.alloc [.int .i64 0, .int .i64 0, .int .i64 0, .int .i64 0, .int .i64 0, .int .i64 0, .str []]),
   .op none (.store 7 (.t 5) (.t 10))])
 (.keep [2, 5] (.seq (.seq (.ops [.op (some 11) (.fadr (.t 5) 0),
   .op (some 12) (.load1 (.t 11))])
  (.keep [2, 5, 12] (.block 0 (.seq (.ops [.op (some 14) (.bin .eql (.t 12) (.k (.int .i64 1))),
    .op (some 13) (.mov (.t 14))])
  (.keep [2, 5, 12, 13] (.cond (.t 13)
   (.seq (.ops [.op (some 15) (.fadr (.t 5) 4),
     .op (some 16) (.loadN 3 (.t 15)),
     .call (some 17) 52 [.t 16],
     .op (some 4) (.mov (.t 17))])
   (.keep [4] (.ret)))
   (.seq (.ops [.op (some 19) (.bin .eql (.t 12) (.k (.int .i64 2))),
     .op (some 18) (.mov (.t 19))])
   (.keep [2, 5, 12, 18] (.cond (.t 18)
    (.seq (.drawE [[], [], [1], [0, 1, 2], [0, 1, 2, 3], [0, 1, 2, 3, 4]] [.call (some 20) 53 [],
      .op (some 21) (.fadr (.t 5) 3),
      .op (some 22) (.load1 (.t 21))]
     [.op (some 23) (.iadr 1 (.t 20) (.t 22)),
      .op (some 24) (.load1 (.t 23)),
      .op (some 4) (.mov (.t 24))])
    (.keep [4] (.ret)))
    (.seq (.ops [.op (some 26) (.bin .eql (.t 12) (.k (.int .i64 3))),
      .op (some 25) (.mov (.t 26))])
    (.keep [2, 5, 12, 25] (.cond (.t 25)
     (.seq (.ops [.op (some 27) (.loadN 1 (.t 2)),
       .op (some 28) (.fadr (.t 5) 1),
       .op (some 29) (.load1 (.t 28)),
       .call (some 30) 27 [.t 27, .t 29],
       .op (some 31) (.bin .add (.k (.str [40, 110, 111, 116, 32])) (.t 30)),
       .op (some 32) (.bin .add (.t 31) (.k (.str [41]))),
       .op (some 4) (.mov (.t 32))])
     (.keep [4] (.ret)))
     (.seq (.ops [.op (some 34) (.bin .eql (.t 12) (.k (.int .i64 4))),
       .op (some 33) (.mov (.t 34))])
     (.keep [2, 5, 12, 33] (.cond (.t 33)
      (.seq (.ops [.op (some 35) (.loadN 1 (.t 2)),
        .op (some 36) (.fadr (.t 5) 1),
        .op (some 37) (.load1 (.t 36)),
        .call (some 38) 27 [.t 35, .t 37],
        .op (some 39) (.bin .add (.k (.str [40])) (.t 38)),
        .op (some 40) (.bin .add (.t 39) (.k (.str [32, 105, 115, 32, 110, 117, 108, 108, 41]))),
        .op (some 4) (.mov (.t 40))])
      (.keep [4] (.ret)))
      (.seq (.ops [.op (some 42) (.bin .eql (.t 12) (.k (.int .i64 5))),
        .op (some 41) (.mov (.t 42))])
      (.keep [2, 5, 41] (.cond (.t 41)
       (.seq (.ops [.op (some 43) (.loadN 1 (.t 2)),
         .op (some 44) (.fadr (.t 5) 1),
         .op (some 45) (.load1 (.t 44)),
         .call (some 46) 27 [.t 43, .t 45],
         .op (some 47) (.bin .add (.k (.str [40, 45, 32, 40])) (.t 46)),
         .op (some 48) (.bin .add (.t 47) (.k (.str [41, 41]))),
         .op (some 4) (.mov (.t 48))])
       (.keep [4] (.ret)))
       (.skip)))))))))))))))))))
 (.keep [2, 5] (.seq (.draw [.op (some 49) (.loadN 1 (.t 2)),
   .op (some 50) (.fadr (.t 5) 1),
   .op (some 51) (.load1 (.t 50)),
   .call (some 52) 27 [.t 49, .t 51],
   .op (some 53) (.bin .add (.k (.str [40])) (.t 52)),
   .op (some 54) (.bin .add (.t 53) (.k (.str [32]))),
   .op (some 55) (.fadr (.t 5) 0),
   .op (some 56) (.load1 (.t 55)),
   .call (some 57) 54 [.t 56],
   .op (some 58) (.bin .add (.t 54) (.t 57)),
   .op (some 59) (.bin .add (.t 58) (.k (.str [32]))),
   .op (some 60) (.loadN 1 (.t 2)),
   .op (some 61) (.fadr (.t 5) 2),
   .op (some 62) (.load1 (.t 61)),
   .call (some 63) 27 [.t 60, .t 62],
   .op (some 64) (.bin .add (.t 59) (.t 63)),
   .op (some 65) (.bin .add (.t 64) (.k (.str [41]))),
   .op (some 4) (.mov (.t 65))])
 (.keep [4] (.ret))))))))
theorem k_c_l10Text_fits : fitsF Tryz.prog 27 ⟨66, k_c_l10Text, [.t 4]⟩ = true := by kernel_rfl
set_option maxHeartbeats 4000000 in
theorem c_l10Text {e : GExpr} {f : Nat} {i : Int} (hw : e.Nodes.length ≤ 1048576) (hi : 0 ≤ i) (hf : i < f) (hl : i < e.Nodes.length) (ht : (T e.Nodes i).2.2 = true) (hfm : f ≤ 41) : Con Tryz.prog noMv 27 [e.av, int i] [] (fun r h => r = str (etF e.Nodes f i) ∧ h = []) := by
 induction f generalizing i with
 | zero => exact absurd hf (by omega)
 | succ f ih =>
  refine con_of2 k_c_l10Text_fits rfl fun C hP hmv => ?_
  unfold k_c_l10Text
  obtain ⟨j, rfl⟩ : ∃ j : Nat, i = (j : Int) := ⟨i.toNat, by omega⟩
  have hj : j < e.Nodes.length := by omega
  have hTV := T_V hj ht
  refine cx_seq (cx_ops ?_)
  refine ax_e (e_box rfl rfl (by decide) rfl rfl rfl) ?_
  refine ax_q (q_mov rfl) ?_
  refine ax_nil (cx_keep rfl rfl (cx_seq (cx_ops ?_)))
  refine ax_q (q_fadr_ptr rfl) ?_
  refine ax_q (q_load1_ptr rfl rfl rfl) ?_
  refine ax_q (q_mov rfl) ?_
  refine ax_q (q_ix rfl rfl (mapAt hj)) ?_
  first | refine ax_q (q_ldN rfl rfl rfl) ?_ | refine ax_q (q_loadN_ip rfl (Nat.le_refl _)) ?_
  refine ax_e (e_alloc (by decide) rfl rfl) ?_
  refine ax_e (e_st rfl rfl rfl rfl rfl rfl rfl) ?_
  refine ax_nil (cx_keep rfl rfl (cx_seq (cx_seq (cx_ops ?_))))
  refine ax_q (q_fadr_ptr rfl) ?_
  refine ax_q (q_load1_ptr rfl rfl rfl) ?_
  refine ax_nil (cx_keep rfl rfl (cx_block (cx_seq (cx_ops ?_))))
  refine ax_q (q_ibin rfl rfl rfl) ?_
  refine ax_q (q_mov rfl) ?_
  refine ax_nil (cx_keep rfl rfl ?_)
  refine cx_cond rfl (fun h0 => ?_) (fun h0 => ?_)
  ·
   have h0 := dT h0
   have hv0 := T_1 hj ht h0
   refine cx_seq (cx_ops ?_)
   refine ax_q (q_fadr_ptr rfl) ?_
   refine ax_q (q_ldN rfl rfl rfl) ?_
   refine ax_call rfl (vc_pure0 (c_l01Text (v := e.Nodes[j].V) ?_) hP rfl rfl ?_)
   ·
    assumption
   refine ax_q (q_mov rfl) ?_
   refine ax_nil (cx_keep rfl rfl ?_)
   refine cx_ret (ret0 rfl rfl ?_)
   exact ⟨by rw [etF_1 hj h0]; rfl, rfl⟩
  ·
   have h0 := dF h0
   refine cx_seq (cx_ops ?_)
   refine ax_q (q_ibin rfl rfl rfl) ?_
   refine ax_q (q_mov rfl) ?_
   refine ax_nil (cx_keep rfl rfl ?_)
   refine cx_cond rfl (fun h1 => ?_) (fun h1 => ?_)
   ·
    have h1 := dT h1
    have hc := hTV.2 h1
    refine cx_seq ?_
    refine cx_drawL 1 21 (fun _ => false) (fun _ => true) [] ([]) [[], [5], [21]] [[], [], []] rfl ?_
    refine ⟨_, .inr ⟨rfl, _, rfl, .inr ⟨rfl, rfl, .inr rfl, rfl, rfl⟩, loc_call (fun i => 20 + 200 * i) false rfl (c_l10Columns  ) hP (.inr ⟨rfl, rfl, rfl⟩) rfl rfl (fun h => by cases h)⟩, ?_⟩
    first | refine ⟨⟨21, _, []⟩, .inl ⟨rfl, rfl, rfl, locl_of (loc_q (q_fadr_ptr rfl))⟩, ?_⟩
    first | refine ⟨_, .inr ⟨rfl, _, rfl, .inr ⟨rfl, rfl, .inl rfl, rfl, rfl⟩, loc_q (q_load1_ptr rfl rfl rfl)⟩, ?_⟩
    refine ⟨rfl, ?_⟩
    refine ax_q (q_ixoI rfl rfl (by omega) (by omega)) ?_
    refine ax_q (q_load1_rptr rfl rfl (cols_at hc) rfl) ?_
    refine ax_q (q_mov rfl) ?_
    refine ax_nil (cx_keep rfl rfl ?_)
    refine cx_ret (ret0 rfl rfl ?_)
    exact ⟨by rw [etF_2 hj h1]; rfl, rfl⟩
   ·
    have h1 := dF h1
    obtain ⟨⟨hA0, hA1, hAt, hAs⟩, hB⟩ := T_kids hj ht h0 h1
    have hla := etF_le (f := f) hA0 (by omega) (by omega) hAt (by omega)
    refine cx_seq (cx_ops ?_)
    refine ax_q (q_ibin rfl rfl rfl) ?_
    refine ax_q (q_mov rfl) ?_
    refine ax_nil (cx_keep rfl rfl ?_)
    refine cx_cond rfl (fun h2 => ?_) (fun h2 => ?_)
    ·
     have h2 := dT h2
     refine cx_seq (cx_ops ?_)
     refine ax_q (q_ldN rfl rfl rfl) ?_
     refine ax_q (q_fadr_ptr rfl) ?_
     refine ax_q (q_load1_ptr rfl rfl rfl) ?_
     refine ax_call rfl (vc_pure0 (ih (i := e.Nodes[j].A) ?_ ?_ ?_ ?_ ?_) hP rfl rfl ?_)
     ·
      assumption
     ·
      first | assumption | omega
     ·
      first | assumption | omega
     ·
      assumption
     ·
      first | assumption | omega
     refine ax_qe (r' := str ([40, 110, 111, 116, 32] ++ etF e.Nodes f e.Nodes[j].A)) (q_sbin_add rfl rfl (by simp; omega)) (rfl) ?_
     refine ax_qe (r' := str (([40, 110, 111, 116, 32] ++ etF e.Nodes f e.Nodes[j].A) ++ [41])) (q_sbin_add rfl rfl (by simp; omega)) (rfl) ?_
     refine ax_q (q_mov rfl) ?_
     refine ax_nil (cx_keep rfl rfl ?_)
     refine cx_ret (ret0 rfl rfl ?_)
     exact ⟨by rw [etF_3 hj h2]; rfl, rfl⟩
    ·
     have h2 := dF h2
     refine cx_seq (cx_ops ?_)
     refine ax_q (q_ibin rfl rfl rfl) ?_
     refine ax_q (q_mov rfl) ?_
     refine ax_nil (cx_keep rfl rfl ?_)
     refine cx_cond rfl (fun h3 => ?_) (fun h3 => ?_)
     ·
      have h3 := dT h3
      refine cx_seq (cx_ops ?_)
      refine ax_q (q_ldN rfl rfl rfl) ?_
      refine ax_q (q_fadr_ptr rfl) ?_
      refine ax_q (q_load1_ptr rfl rfl rfl) ?_
      refine ax_call rfl (vc_pure0 (ih (i := e.Nodes[j].A) ?_ ?_ ?_ ?_ ?_) hP rfl rfl ?_)
      ·
       assumption
      ·
       first | assumption | omega
      ·
       first | assumption | omega
      ·
       assumption
      ·
       first | assumption | omega
      refine ax_qe (r' := str ([40] ++ etF e.Nodes f e.Nodes[j].A)) (q_sbin_add rfl rfl (by simp; omega)) (rfl) ?_
      refine ax_qe (r' := str (([40] ++ etF e.Nodes f e.Nodes[j].A) ++ [32, 105, 115, 32, 110, 117, 108, 108, 41])) (q_sbin_add rfl rfl (by simp; omega)) (rfl) ?_
      refine ax_q (q_mov rfl) ?_
      refine ax_nil (cx_keep rfl rfl ?_)
      refine cx_ret (ret0 rfl rfl ?_)
      exact ⟨by rw [etF_4 hj h3]; rfl, rfl⟩
     ·
      have h3 := dF h3
      refine cx_seq (cx_ops ?_)
      refine ax_q (q_ibin rfl rfl rfl) ?_
      refine ax_q (q_mov rfl) ?_
      refine ax_nil (cx_keep rfl rfl ?_)
      refine cx_cond rfl (fun h4 => ?_) (fun h4 => ?_)
      ·
       have h4 := dT h4
       refine cx_seq (cx_ops ?_)
       refine ax_q (q_ldN rfl rfl rfl) ?_
       refine ax_q (q_fadr_ptr rfl) ?_
       refine ax_q (q_load1_ptr rfl rfl rfl) ?_
       refine ax_call rfl (vc_pure0 (ih (i := e.Nodes[j].A) ?_ ?_ ?_ ?_ ?_) hP rfl rfl ?_)
       ·
        assumption
       ·
        first | assumption | omega
       ·
        first | assumption | omega
       ·
        assumption
       ·
        first | assumption | omega
       refine ax_qe (r' := str ([40, 45, 32, 40] ++ etF e.Nodes f e.Nodes[j].A)) (q_sbin_add rfl rfl (by simp; omega)) (rfl) ?_
       refine ax_qe (r' := str (([40, 45, 32, 40] ++ etF e.Nodes f e.Nodes[j].A) ++ [41, 41])) (q_sbin_add rfl rfl (by simp; omega)) (rfl) ?_
       refine ax_q (q_mov rfl) ?_
       refine ax_nil (cx_keep rfl rfl ?_)
       refine cx_ret (ret0 rfl rfl ?_)
       exact ⟨by rw [etF_5 hj h4]; rfl, rfl⟩
      ·
       have h4 := dF h4
              
       have ho := op_un hj ht h0 h1 h2 h3 h4
       obtain ⟨hB0, hB1, hBt, hBs⟩ := hB (by omega)
       have hlb := etF_le (f := f) hB0 (by omega) (by omega) hBt (by omega)
       have hls := sgnT_len ho
       refine cx_skip ?_
       refine cx_keep rfl rfl (cx_seq (cx_draw ?_))
       refine ax_q (q_ldN rfl rfl rfl) ?_
       refine ax_q (q_fadr_ptr rfl) ?_
       refine ax_q (q_load1_ptr rfl rfl rfl) ?_
       refine ax_callq rfl (ih (i := e.Nodes[j].A) ?_ ?_ ?_ ?_ ?_) hP (lal_id _ rfl) rfl ?_
       ·
        assumption
       ·
        first | assumption | omega
       ·
        first | assumption | omega
       ·
        assumption
       ·
        first | assumption | omega
       refine ax_qe (r' := str ([40] ++ etF e.Nodes f e.Nodes[j].A)) (q_sbin_add rfl rfl (by simp; omega)) (rfl) ?_
       refine ax_qe (r' := str (([40] ++ etF e.Nodes f e.Nodes[j].A) ++ [32])) (q_sbin_add rfl rfl (by simp; omega)) (rfl) ?_
       refine ax_q (q_fadr_ptr rfl) ?_
       refine ax_q (q_load1_ptr rfl rfl rfl) ?_
       refine ax_callq rfl (c_l10Sign (op := e.Nodes[j].Op) ?_) hP (lal_id _ rfl) rfl ?_
       ·
        assumption
       refine ax_qe (r' := str ((([40] ++ etF e.Nodes f e.Nodes[j].A) ++ [32]) ++ sgnT e.Nodes[j].Op)) (q_sbin_add rfl rfl (by simp; omega)) (rfl) ?_
       refine ax_qe (r' := str (((([40] ++ etF e.Nodes f e.Nodes[j].A) ++ [32]) ++ sgnT e.Nodes[j].Op) ++ [32])) (q_sbin_add rfl rfl (by simp; omega)) (rfl) ?_
       refine ax_q (q_ldN rfl rfl rfl) ?_
       refine ax_q (q_fadr_ptr rfl) ?_
       refine ax_q (q_load1_ptr rfl rfl rfl) ?_
       refine ax_callq rfl (ih (i := e.Nodes[j].B) ?_ ?_ ?_ ?_ ?_) hP (lal_id _ rfl) rfl ?_
       ·
        assumption
       ·
        first | assumption | omega
       ·
        first | assumption | omega
       ·
        assumption
       ·
        first | assumption | omega
       refine ax_qe (r' := str ((((([40] ++ etF e.Nodes f e.Nodes[j].A) ++ [32]) ++ sgnT e.Nodes[j].Op) ++ [32]) ++ etF e.Nodes f e.Nodes[j].B)) (q_sbin_add rfl rfl (by simp; omega)) (rfl) ?_
       refine ax_qe (r' := str (((((([40] ++ etF e.Nodes f e.Nodes[j].A) ++ [32]) ++ sgnT e.Nodes[j].Op) ++ [32]) ++ etF e.Nodes f e.Nodes[j].B) ++ [41])) (q_sbin_add rfl rfl (by simp; omega)) (rfl) ?_
       refine ax_q (q_mov rfl) ?_
       refine ax_nil (cx_keep rfl rfl ?_)
       refine cx_ret (ret0 rfl rfl ?_)
       exact ⟨by rw [etF_6 hj h0 h1 h2 h3 h4]; rfl, rfl⟩


/- loop.example/g00332/spec.l12Text -/
def k_c_l12Text : XCode :=
 .seq (.ops [.op (some 1) (.box (.t 0)),
   .op (some 2) (.mov (.k (.str [])))])
 (.keep [1] (.seq (.drawE [[], [], [1], [0, 1, 2], [0, 1, 2, 3], [0, 1, 2, 3, 4], [], [6], [6, 7], [0, 1, 2, 3, 4, 5, 6, 7, 8], [0, 1, 2, 3, 4, 5, 6, 7, 8, 9]] [.op (some 4) (.bslice 1 [.k (.str []), .k (.str [115, 101, 108, 101, 99, 116]), .k (.str [105, 110, 115, 101, 114, 116]), .k (.str [117, 112, 100, 97, 116, 101]), .k (.str [100, 101, 108, 101, 116, 101])]),
   .op (some 5) (.fadr (.t 1) 0),
   .op (some 6) (.load1 (.t 5)),
   .op (some 7) (.iadr 1 (.t 4) (.t 6)),
   .op (some 8) (.load1 (.t 7)),
   .op (some 9) (.bin .add (.t 8) (.k (.str [32]))),
   .op (some 10) (.fadr (.t 1) 1),
   .op (some 11) (.load1 (.t 10)),
   .call (some 12) 77 [.t 11]]
  [.op (some 13) (.bin .add (.t 9) (.t 12)),
   .op (some 3) (.mov (.t 13))])
 (.keep [1, 3] (.seq (.seq (.ops [.op (some 14) (.fadr (.t 1) 0),
   .op (some 15) (.load1 (.t 14)),
   .op (some 16) (.bin .eql (.t 15) (.k (.int .i64 2)))])
  (.keep [1, 3, 16] (.cond (.t 16)
  (.draw [.op (some 17) (.mov (.t 3)),
    .op (some 18) (.fadr (.t 1) 2),
    .op (some 19) (.fadr (.t 18) 0),
    .op (some 20) (.load1 (.t 19)),
    .call (some 21) 77 [.t 20],
    .op (some 22) (.bin .add (.k (.str [32])) (.t 21)),
    .op (some 23) (.bin .add (.t 22) (.k (.str [32]))),
    .op (some 24) (.fadr (.t 1) 2),
    .op (some 25) (.fadr (.t 24) 1),
    .op (some 26) (.loadN 3 (.t 25)),
    .call (some 27) 52 [.t 26],
    .op (some 28) (.bin .add (.t 23) (.t 27)),
    .op (some 29) (.bin .add (.t 28) (.k (.str [32]))),
    .op (some 30) (.fadr (.t 1) 2),
    .op (some 31) (.fadr (.t 30) 4),
    .op (some 32) (.loadN 3 (.t 31)),
    .call (some 33) 52 [.t 32],
    .op (some 34) (.bin .add (.t 29) (.t 33)),
    .op (some 35) (.bin .add (.t 17) (.t 34)),
    .op (some 3) (.mov (.t 35))])
  (.skip))))
 (.keep [1, 3] (.seq (.seq (.ops [.op (some 36) (.fadr (.t 1) 0),
   .op (some 37) (.load1 (.t 36)),
   .op (some 38) (.bin .eql (.t 37) (.k (.int .i64 3)))])
  (.keep [1, 3, 38] (.cond (.t 38)
  (.drawE [[], [], [], [2], [1, 2, 3], [1, 2, 3, 4], [1, 2, 3, 4, 5], [1, 2, 3, 4, 5, 6], [], [8], [], [10], [10, 11], [10, 11, 12], [10, 11, 12, 13], [1, 8, 9, 10, 11, 12, 13, 14], [1, 2, 3, 4, 5, 6, 7, 8, 9, 10, 11, 12, 13, 14, 15], [0, 1, 2, 3, 4, 5, 6, 7, 8, 9, 10, 11, 12, 13, 14, 15, 16], [0, 1, 2, 3, 4, 5, 6, 7, 8, 9, 10, 11, 12, 13, 14, 15, 16, 17]] [.op (some 39) (.mov (.t 3)),
    .call (some 40) 53 [],
    .op (some 41) (.fadr (.t 1) 9),
    .op (some 42) (.load1 (.t 41)),
    .op (some 43) (.iadr 1 (.t 40) (.t 42)),
    .op (some 44) (.load1 (.t 43)),
    .op (some 45) (.bin .add (.k (.str [32, 115, 101, 116, 32])) (.t 44)),
    .op (some 46) (.bin .add (.t 45) (.k (.str [32, 61, 32]))),
    .op (some 47) (.fadr (.t 1) 10),
    .op (some 48) (.loadN 1 (.t 47)),
    .op (some 49) (.fadr (.t 1) 10),
    .op (some 50) (.fadr (.t 49) 0),
    .op (some 51) (.load1 (.t 50)),
    .op (some 52) (.lenS (.t 51)),
    .op (some 53) (.bin .sub (.t 52) (.k (.int .i64 1))),
    .call (some 54) 27 [.t 48, .t 53],
    .op (some 55) (.bin .add (.t 46) (.t 54))]
   [.op (some 56) (.bin .add (.t 39) (.t 55)),
    .op (some 3) (.mov (.t 56))])
  (.skip))))
 (.keep [1, 3] (.seq (.seq (.ops [.op (some 57) (.fadr (.t 1) 11),
   .op (some 58) (.loadN 1 (.t 57)),
   .call (some 59) 75 [.t 58],
   .op (some 60) (.not (.t 59))])
  (.keep [1, 3, 60] (.cond (.t 60)
  (.ops [.op (some 61) (.mov (.t 3)),
    .op (some 62) (.fadr (.t 1) 11),
    .op (some 63) (.loadN 1 (.t 62)),
    .op (some 64) (.fadr (.t 1) 11),
    .op (some 65) (.fadr (.t 64) 0),
    .op (some 66) (.load1 (.t 65)),
    .op (some 67) (.lenS (.t 66)),
    .op (some 68) (.bin .sub (.t 67) (.k (.int .i64 1))),
    .call (some 69) 27 [.t 63, .t 68],
    .op (some 70) (.bin .add (.k (.str [32, 119, 104, 101, 114, 101, 32])) (.t 69)),
    .op (some 71) (.bin .add (.t 61) (.t 70)),
    .op (some 3) (.mov (.t 71))])
  (.skip))))
 (.keep [1, 3] (.seq (.seq (.ops [.op (some 72) (.fadr (.t 1) 0),
   .op (some 73) (.load1 (.t 72)),
   .op (some 74) (.bin .eql (.t 73) (.k (.int .i64 1))),
   .op (some 75) (.mov (.t 74)),
   .andor 83 true 3 75 [.op (some 76) (.fadr (.t 1) 12), .op (some 77) (.load1 (.t 76)), .op (some 78) (.bin .gtr (.t 77) (.k (.int .i64 0))), .op (some 79) (.mov (.t 78)), .andor 82 false 7 79 [.op (some 80) (.fadr (.t 1) 13), .op (some 81) (.load1 (.t 80))] (.t 81)] (.t 82)])
  (.keep [1, 3, 83] (.cond (.t 83)
  (.seq (.drawE [[], [], [], [2], [1, 2, 3], [1, 2, 3, 4], [1, 2, 3, 4, 5], [0, 1, 2, 3, 4, 5, 6], [0, 1, 2, 3, 4, 5, 6, 7]] [.op (some 84) (.mov (.t 3)),
    .call (some 85) 53 [],
    .op (some 86) (.fadr (.t 1) 12),
    .op (some 87) (.load1 (.t 86)),
    .op (some 88) (.iadr 1 (.t 85) (.t 87)),
    .op (some 89) (.load1 (.t 88)),
    .op (some 90) (.bin .add (.k (.str [32, 111, 114, 100, 101, 114, 32])) (.t 89))]
    [.op (some 91) (.bin .add (.t 84) (.t 90)),
    .op (some 3) (.mov (.t 91))])
   (.keep [1, 3] (.seq (.ops [.op (some 92) (.fadr (.t 1) 13),
    .op (some 93) (.load1 (.t 92))])
   (.keep [3, 93] (.cond (.t 93)
   (.ops [.op (some 94) (.mov (.t 3)),
     .op (some 95) (.bin .add (.t 94) (.k (.str [32, 100, 101, 115, 99]))),
     .op (some 3) (.mov (.t 95))])
   (.skip))))))
  (.skip))))
 (.keep [3] (.seq (.ops [.op (some 96) (.mov (.t 3)),
   .op (some 2) (.mov (.t 96))])
 (.keep [2] (.ret))))))))))))))
theorem k_c_l12Text_fits : fitsF Tryz.prog 40 ⟨97, k_c_l12Text, [.t 2]⟩ = true := by kernel_rfl
set_option maxHeartbeats 8000000 in
theorem c_l12Text {s : GStmt} (hs : stmtOK s = true) : Con Tryz.prog noMv 40 [s.av] [] (fun r h => r = str (stT s) ∧ h = []) := by
 refine con_of2 k_c_l12Text_fits rfl fun C hP hmv => ?_
 unfold k_c_l12Text
 obtain ⟨hk, htb, hwh, hk2, hk3, hor, hk1, hzr, hnn⟩ := stOK_p hs
 have hlt := itoa_len (dgM_small (n := s.Table) (by omega))
 have hlo := colT_len hor
 have hls := selT_len hk
 have hdt : dgM 11 s.Table := dgM_small (by omega)
 refine cx_seq (cx_ops ?_)
 refine ax_e (e_box rfl rfl (by decide) rfl rfl rfl) ?_
 refine ax_q (q_mov rfl) ?_
 refine ax_nil (cx_keep rfl rfl (cx_seq ?_))
 refine cx_drawL 1 5 (fun _ => false) (fun _ => true) [] ([]) [[], [1], [5], [4, 6], [7], [8], [1], [10], [11]] [[], [], [], [], [], [], [], [], []] rfl ?_
 first | refine ⟨_, .inr ⟨rfl, _, rfl, .inr ⟨rfl, rfl, .inr rfl, rfl, rfl⟩, loc_bslice rfl⟩, ?_⟩
 first | refine ⟨⟨5, _, []⟩, .inl ⟨rfl, rfl, rfl, locl_of (loc_q (q_fadr_ptr rfl))⟩, ?_⟩
 first | refine ⟨_, .inr ⟨rfl, _, rfl, .inr ⟨rfl, rfl, .inl rfl, rfl, rfl⟩, loc_q (q_load1_ptr rfl rfl rfl)⟩, ?_⟩
 first | refine ⟨_, .inr ⟨rfl, _, rfl, .inr ⟨rfl, rfl, .inl rfl, rfl, rfl⟩, loc_q (q_ixoI rfl rfl (by omega) (by show _ < (5 : Nat); omega))⟩, ?_⟩
 first | refine ⟨_, .inr ⟨rfl, _, rfl, .inr ⟨rfl, rfl, .inl rfl, rfl, rfl⟩, loc_q (q_load1_rptr rfl rfl (selT_at hk) rfl)⟩, ?_⟩
 first | refine ⟨_, .inr ⟨rfl, _, rfl, .inr ⟨rfl, rfl, .inl rfl, rfl, rfl⟩, loc_q (q_sbin_add rfl rfl (by simp only [List.length_append, List.length_cons, List.length_nil]; omega))⟩, ?_⟩
 first | refine ⟨_, .inr ⟨rfl, _, rfl, .inr ⟨rfl, rfl, .inr rfl, rfl, rfl⟩, loc_q (q_fadr_ptr rfl)⟩, ?_⟩
 first | refine ⟨_, .inr ⟨rfl, _, rfl, .inr ⟨rfl, rfl, .inr rfl, rfl, rfl⟩, loc_q (q_load1_ptr rfl rfl rfl)⟩, ?_⟩
 refine ⟨_, .inr ⟨rfl, _, rfl, .inr ⟨rfl, rfl, .inr rfl, rfl, rfl⟩, loc_call (fun i => 12 + 200 * i) false rfl (c_l00Digits (f := 11) (n := s.Table) (by first | assumption | omega | (simp; done) | (simp; omega))) hP (.inr ⟨rfl, rfl, rfl⟩) rfl rfl (fun h => by cases h)⟩, ?_⟩
 refine ⟨rfl, ?_⟩
 refine ax_q (q_sbin_add rfl rfl (by simp only [List.length_append, List.length_cons, List.length_nil]; omega)) ?_
 refine ax_q (q_mov rfl) ?_
 refine ax_nil (cx_keep rfl rfl (cx_seq (cx_seq (cx_ops ?_))))
 refine ax_q (q_fadr_ptr rfl) ?_
 refine ax_q (q_load1_ptr rfl rfl rfl) ?_
 refine ax_q (q_ibin rfl rfl rfl) ?_
 refine ax_nil (cx_keep rfl rfl ?_)
 refine cx_cond rfl (fun h0 => ?_) (fun h0 => ?_)
 ·
  have h0 := dT h0
  obtain ⟨hro, _⟩ := hk2 h0
  obtain ⟨hr1, hr2, hr3⟩ := rowOK_p hro
  have hdi : dgM 11 s.Row.Id := dgM_small (by omega)
  have hli := itoa_len hdi
  have t2 := vtext_le hr2
  have t3 := vtext_le hr3
  have eb := fun a => sxB_t (a := a) h0
  refine cx_draw ?_
  refine ax_q (q_mov rfl) ?_
  refine ax_q (q_fadr_ptr rfl) ?_
  refine ax_q (q_fadr_ptr rfl) ?_
  refine ax_q (q_load1_ptr rfl rfl rfl) ?_
  refine ax_callq rfl (c_l00Digits (f := 11) (n := s.Row.Id) ?_) hP (lal_id _ rfl) rfl ?_
  ·
   exact dgM_small (by omega)
  refine ax_q (q_sbin_add rfl rfl (by simp only [List.length_append, List.length_cons, List.length_nil]; omega)) ?_
  refine ax_q (q_sbin_add rfl rfl (by simp only [List.length_append, List.length_cons, List.length_nil]; omega)) ?_
  refine ax_q (q_fadr_ptr rfl) ?_
  refine ax_q (q_fadr_ptr rfl) ?_
  refine ax_q (q_ldN rfl rfl rfl) ?_
  refine ax_callq rfl (c_l01Text (v := s.Row.N) ?_) hP (lal_id _ rfl) rfl ?_
  ·
   assumption
  refine ax_q (q_sbin_add rfl rfl (by simp only [List.length_append, List.length_cons, List.length_nil]; omega)) ?_
  refine ax_q (q_sbin_add rfl rfl (by simp only [List.length_append, List.length_cons, List.length_nil]; omega)) ?_
  refine ax_q (q_fadr_ptr rfl) ?_
  refine ax_q (q_fadr_ptr rfl) ?_
  refine ax_q (q_ldN rfl rfl rfl) ?_
  refine ax_callq rfl (c_l01Text (v := s.Row.Name) ?_) hP (lal_id _ rfl) rfl ?_
  ·
   assumption
  refine ax_q (q_sbin_add rfl rfl (by simp only [List.length_append, List.length_cons, List.length_nil]; omega)) ?_
  refine ax_q (q_sbin_add rfl rfl (by simp only [List.length_append, List.length_cons, List.length_nil]; omega)) ?_
  refine ax_q (q_mov rfl) ?_
  refine ax_nil (cx_keep rfl rfl (cx_seq (cx_seq (cx_ops ?_))))
  refine ax_q (q_fadr_ptr rfl) ?_
  refine ax_q (q_load1_ptr rfl rfl rfl) ?_
  refine ax_q (q_ibin rfl rfl rfl) ?_
  refine ax_nil (cx_keep rfl rfl ?_)
  refine cx_cond rfl (fun h1 => ?_) (fun h1 => ?_)
  ·
   have h1 := dT h1
   obtain ⟨hcs, hse⟩ := hk3 h1
   have hsl : (etF s.Set.Nodes (s.Set.Nodes.length + 1) ((s.Set.Nodes.length : Int) - 1)).length ≤ 100000000000000 := exT_le hse
   have hsl2 := exT_le hse
   obtain ⟨hy0, hy1, hy2, hy3, _⟩ := comp_hyps hse
   have hn41 := exprOK_n hse
   have hcl := colT_len (c := s.Column) (by omega)
   have ec := fun a => sxC_t (a := a) h1
   refine cx_drawL 0 39 (fun _ => false) (fun _ => true) [] ([]) [[3], [], [1], [41], [40, 42], [43], [44], [45], [1], [47], [1], [49], [50], [51], [52], [48, 53], [46, 54]] [[], [], [], [], [], [], [], [], [], [], [], [], [], [], [], [], []] rfl ?_
   first | refine ⟨⟨39, _, []⟩, .inl ⟨rfl, rfl, rfl, locl_of (loc_q (q_mov rfl))⟩, ?_⟩
   refine ⟨_, .inr ⟨rfl, _, rfl, .inr ⟨rfl, rfl, .inr rfl, rfl, rfl⟩, loc_call (fun i => 40 + 200 * i) false rfl (c_l10Columns  ) hP (.inr ⟨rfl, rfl, rfl⟩) rfl rfl (fun h => by cases h)⟩, ?_⟩
   first | refine ⟨_, .inr ⟨rfl, _, rfl, .inr ⟨rfl, rfl, .inr rfl, rfl, rfl⟩, loc_q (q_fadr_ptr rfl)⟩, ?_⟩
   first | refine ⟨_, .inr ⟨rfl, _, rfl, .inr ⟨rfl, rfl, .inr rfl, rfl, rfl⟩, loc_q (q_load1_ptr rfl rfl rfl)⟩, ?_⟩
   first | refine ⟨_, .inr ⟨rfl, _, rfl, .inr ⟨rfl, rfl, .inr rfl, rfl, rfl⟩, loc_q (q_ixoI rfl rfl (by omega) (by omega))⟩, ?_⟩
   first | refine ⟨_, .inr ⟨rfl, _, rfl, .inr ⟨rfl, rfl, .inr rfl, rfl, rfl⟩, loc_q (q_load1_rptr rfl rfl (cols_at (by omega)) rfl)⟩, ?_⟩
   first | refine ⟨_, .inr ⟨rfl, _, rfl, .inr ⟨rfl, rfl, .inr rfl, rfl, rfl⟩, loc_q (q_sbin_add rfl rfl (by simp only [List.length_append, List.length_cons, List.length_nil]; omega))⟩, ?_⟩
   first | refine ⟨_, .inr ⟨rfl, _, rfl, .inr ⟨rfl, rfl, .inr rfl, rfl, rfl⟩, loc_q (q_sbin_add rfl rfl (by simp only [List.length_append, List.length_cons, List.length_nil]; omega))⟩, ?_⟩
   first | refine ⟨_, .inr ⟨rfl, _, rfl, .inr ⟨rfl, rfl, .inr rfl, rfl, rfl⟩, loc_q (q_fadr_ptr rfl)⟩, ?_⟩
   first | refine ⟨_, .inr ⟨rfl, _, rfl, .inr ⟨rfl, rfl, .inr rfl, rfl, rfl⟩, loc_q (q_ldN rfl rfl rfl)⟩, ?_⟩
   first | refine ⟨_, .inr ⟨rfl, _, rfl, .inr ⟨rfl, rfl, .inr rfl, rfl, rfl⟩, loc_q (q_fadr_ptr rfl)⟩, ?_⟩
   first | refine ⟨_, .inr ⟨rfl, _, rfl, .inr ⟨rfl, rfl, .inr rfl, rfl, rfl⟩, loc_q (q_fadr_ptr rfl)⟩, ?_⟩
   first | refine ⟨_, .inr ⟨rfl, _, rfl, .inr ⟨rfl, rfl, .inr rfl, rfl, rfl⟩, loc_q (q_load1_ptr rfl rfl rfl)⟩, ?_⟩
   refine ⟨_, .inr ⟨rfl, _, rfl, .inr ⟨rfl, rfl, .inr rfl, rfl, rfl⟩, loc_q (q_lenS_map rfl)⟩, ?_⟩
   first | refine ⟨_, .inr ⟨rfl, _, rfl, .inr ⟨rfl, rfl, .inr rfl, rfl, rfl⟩, loc_q (q_sub rfl rfl (by omega))⟩, ?_⟩
   refine ⟨_, .inr ⟨rfl, _, rfl, .inr ⟨rfl, rfl, .inr rfl, rfl, rfl⟩, loc_call (fun i => 54 + 200 * i) false rfl (c_l10Text (e := s.Set) (f := s.Set.Nodes.length + 1) (by first | assumption | omega | (simp; done) | (simp; omega)) (by first | assumption | omega | (simp; done) | (simp; omega)) (by first | assumption | omega | (simp; done) | (simp; omega)) (by first | assumption | omega | (simp; done) | (simp; omega)) (by first | assumption | omega | (simp; done) | (simp; omega)) (by first | assumption | omega | (simp; done) | (simp; omega))) hP (.inr ⟨rfl, rfl, rfl⟩) rfl rfl (fun h => by cases h)⟩, ?_⟩
   first | refine ⟨_, .inr ⟨rfl, _, rfl, .inr ⟨rfl, rfl, .inr rfl, rfl, rfl⟩, loc_q (q_sbin_add rfl rfl (by simp only [List.length_append, List.length_cons, List.length_nil]; omega))⟩, ?_⟩
   refine ⟨rfl, ?_⟩
   refine ax_q (q_sbin_add rfl rfl (by simp only [List.length_append, List.length_cons, List.length_nil]; omega)) ?_
   refine ax_q (q_mov rfl) ?_
   refine ax_nil (cx_keep rfl rfl (cx_seq (cx_seq (cx_ops ?_))))
   refine ax_q (q_fadr_ptr rfl) ?_
   refine ax_q (q_ldN rfl rfl rfl) ?_
   refine ax_call rfl (vc_pure0 (c_l12None  ) hP rfl rfl ?_)
   refine ax_q (q_not rfl) ?_
   refine ax_nil (cx_keep rfl rfl ?_)
   refine cx_cond rfl (fun h2 => ?_) (fun h2 => ?_)
   ·
    have h2 := bT h2
    have hwe := hwh h2
    have hwl : (etF s.Where.Nodes (s.Where.Nodes.length + 1) ((s.Where.Nodes.length : Int) - 1)).length ≤ 100000000000000 := exT_le hwe
    have hwl2 := exT_le hwe
    obtain ⟨hz0, hz1, hz2, hz3, _⟩ := comp_hyps hwe
    have hn40 := exprOK_n hwe
    have ew := fun a => sxW_t (a := a) h2
    refine cx_ops ?_
    refine ax_q (q_mov rfl) ?_
    refine ax_q (q_fadr_ptr rfl) ?_
    refine ax_q (q_ldN rfl rfl rfl) ?_
    refine ax_q (q_fadr_ptr rfl) ?_
    refine ax_q (q_fadr_ptr rfl) ?_
    refine ax_q (q_load1_ptr rfl rfl rfl) ?_
    refine ax_q (q_lenS_map rfl) ?_
    refine ax_q (q_sub rfl rfl (by omega)) ?_
    refine ax_call rfl (vc_pure0 (c_l10Text (e := s.Where) (f := s.Where.Nodes.length + 1) ?_ ?_ ?_ ?_ ?_ ?_) hP rfl rfl ?_)
    ·
     first | assumption | omega
    ·
     assumption
    ·
     assumption
    ·
     assumption
    ·
     assumption
    ·
     first | assumption | omega
    refine ax_q (q_sbin_add rfl rfl (by simp only [List.length_append, List.length_cons, List.length_nil]; omega)) ?_
    refine ax_q (q_sbin_add rfl rfl (by simp only [List.length_append, List.length_cons, List.length_nil]; omega)) ?_
    refine ax_q (q_mov rfl) ?_
    refine ax_nil (cx_keep rfl rfl (cx_seq (cx_seq (cx_ops ?_))))
    refine ax_q (q_fadr_ptr rfl) ?_
    refine ax_q (q_load1_ptr rfl rfl rfl) ?_
    refine ax_q (q_ibin rfl rfl rfl) ?_
    refine ax_q (q_mov rfl) ?_
    apply ax_and rfl rfl
    ·
     intro g
     have g := dT g
     refine ax_q (q_fadr_ptr rfl) ?_
     refine ax_q (q_load1_ptr rfl rfl rfl) ?_
     refine ax_q (q_ibin rfl rfl rfl) ?_
     refine ax_q (q_mov rfl) ?_
     apply ax_or rfl rfl
     ·
      intro g
      have g := dF g
      refine ax_q (q_fadr_ptr rfl) ?_
      refine ax_q (q_load1_ptr rfl rfl rfl) ?_
      exact ax_nil ⟨rfl, by repeat constructor⟩
     exact ax_nil ⟨rfl, by repeat constructor⟩
    refine ax_nil (cx_keep rfl rfl ?_)
    refine cx_cond rfl (fun h3 => ?_) (fun h3 => ?_)
    ·
     have h3 := (fun h => And.intro (dT (and_T h).1) ((fun h => (or_T h).imp dT id) (and_T h).2)) h3
     have eo := fun a => sxO_t (a := a) (h3.2.imp (fun h => by omega) id)
     refine cx_seq ?_
     refine cx_drawL 0 84 (fun _ => false) (fun _ => true) [] ([]) [[3], [], [1], [86], [85, 87], [88], [89]] [[], [], [], [], [], [], []] rfl ?_
     first | refine ⟨⟨84, _, []⟩, .inl ⟨rfl, rfl, rfl, locl_of (loc_q (q_mov rfl))⟩, ?_⟩
     refine ⟨_, .inr ⟨rfl, _, rfl, .inr ⟨rfl, rfl, .inr rfl, rfl, rfl⟩, loc_call (fun i => 85 + 200 * i) false rfl (c_l10Columns  ) hP (.inr ⟨rfl, rfl, rfl⟩) rfl rfl (fun h => by cases h)⟩, ?_⟩
     first | refine ⟨_, .inr ⟨rfl, _, rfl, .inr ⟨rfl, rfl, .inr rfl, rfl, rfl⟩, loc_q (q_fadr_ptr rfl)⟩, ?_⟩
     first | refine ⟨_, .inr ⟨rfl, _, rfl, .inr ⟨rfl, rfl, .inr rfl, rfl, rfl⟩, loc_q (q_load1_ptr rfl rfl rfl)⟩, ?_⟩
     first | refine ⟨_, .inr ⟨rfl, _, rfl, .inr ⟨rfl, rfl, .inr rfl, rfl, rfl⟩, loc_q (q_ixoI rfl rfl (by omega) (by omega))⟩, ?_⟩
     first | refine ⟨_, .inr ⟨rfl, _, rfl, .inr ⟨rfl, rfl, .inr rfl, rfl, rfl⟩, loc_q (q_load1_rptr rfl rfl (cols_at (by omega)) rfl)⟩, ?_⟩
     first | refine ⟨_, .inr ⟨rfl, _, rfl, .inr ⟨rfl, rfl, .inr rfl, rfl, rfl⟩, loc_q (q_sbin_add rfl rfl (by simp only [List.length_append, List.length_cons, List.length_nil]; omega))⟩, ?_⟩
     refine ⟨rfl, ?_⟩
     refine ax_q (q_sbin_add rfl rfl (by simp only [List.length_append, List.length_cons, List.length_nil]; omega)) ?_
     refine ax_q (q_mov rfl) ?_
     refine ax_nil (cx_keep rfl rfl (cx_seq (cx_ops ?_)))
     refine ax_q (q_fadr_ptr rfl) ?_
     refine ax_q (q_load1_ptr rfl rfl rfl) ?_
     refine ax_nil (cx_keep rfl rfl ?_)
     refine cx_cond rfl (fun h4 => ?_) (fun h4 => ?_)
     ·
      skip
      have ed := fun a => sxD_t (a := a) h4
      refine cx_ops ?_
      refine ax_q (q_mov rfl) ?_
      refine ax_q (q_sbin_add rfl rfl (by simp only [List.length_append, List.length_cons, List.length_nil]; omega)) ?_
      refine ax_q (q_mov rfl) ?_
      refine ax_nil (cx_keep rfl rfl (cx_seq (cx_ops ?_)))
      refine ax_q (q_mov rfl) ?_
      refine ax_q (q_mov rfl) ?_
      refine ax_nil (cx_keep rfl rfl ?_)
      refine cx_ret (ret0 rfl rfl ?_)
      exact ⟨by unfold stT sxA; rw [eb, ec, ew, eo, ed]; rfl, rfl⟩
     ·
      skip
      have ed := fun a => sxD_f (a := a) h4
      refine cx_skip ?_
      refine cx_keep rfl rfl (cx_seq (cx_ops ?_))
      refine ax_q (q_mov rfl) ?_
      refine ax_q (q_mov rfl) ?_
      refine ax_nil (cx_keep rfl rfl ?_)
      refine cx_ret (ret0 rfl rfl ?_)
      exact ⟨by unfold stT sxA; rw [eb, ec, ew, eo, ed]; rfl, rfl⟩
    ·
     have h3 := (fun h => (and_F h).imp dF (fun h => And.intro (dF (or_F h).1) (id (or_F h).2))) h3
     have eo := fun a => sxO_f (a := a) (so_f hk1 hor h3)
     have ed := fun a => sxD_f (a := a) (so_f hk1 hor h3).2
     refine cx_skip ?_
     refine cx_keep rfl rfl (cx_seq (cx_ops ?_))
     refine ax_q (q_mov rfl) ?_
     refine ax_q (q_mov rfl) ?_
     refine ax_nil (cx_keep rfl rfl ?_)
     refine cx_ret (ret0 rfl rfl ?_)
     exact ⟨by unfold stT sxA; rw [eb, ec, ew, eo, ed]; rfl, rfl⟩
   ·
    have h2 := bF h2
    have ew := fun a => sxW_f (a := a) h2
    refine cx_skip ?_
    refine cx_keep rfl rfl (cx_seq (cx_seq (cx_ops ?_)))
    refine ax_q (q_fadr_ptr rfl) ?_
    refine ax_q (q_load1_ptr rfl rfl rfl) ?_
    refine ax_q (q_ibin rfl rfl rfl) ?_
    refine ax_q (q_mov rfl) ?_
    apply ax_and rfl rfl
    ·
     intro g
     have g := dT g
     refine ax_q (q_fadr_ptr rfl) ?_
     refine ax_q (q_load1_ptr rfl rfl rfl) ?_
     refine ax_q (q_ibin rfl rfl rfl) ?_
     refine ax_q (q_mov rfl) ?_
     apply ax_or rfl rfl
     ·
      intro g
      have g := dF g
      refine ax_q (q_fadr_ptr rfl) ?_
      refine ax_q (q_load1_ptr rfl rfl rfl) ?_
      exact ax_nil ⟨rfl, by repeat constructor⟩
     exact ax_nil ⟨rfl, by repeat constructor⟩
    refine ax_nil (cx_keep rfl rfl ?_)
    refine cx_cond rfl (fun h3 => ?_) (fun h3 => ?_)
    ·
     have h3 := (fun h => And.intro (dT (and_T h).1) ((fun h => (or_T h).imp dT id) (and_T h).2)) h3
     have eo := fun a => sxO_t (a := a) (h3.2.imp (fun h => by omega) id)
     refine cx_seq ?_
     refine cx_drawL 0 84 (fun _ => false) (fun _ => true) [] ([]) [[3], [], [1], [86], [85, 87], [88], [89]] [[], [], [], [], [], [], []] rfl ?_
     first | refine ⟨⟨84, _, []⟩, .inl ⟨rfl, rfl, rfl, locl_of (loc_q (q_mov rfl))⟩, ?_⟩
     refine ⟨_, .inr ⟨rfl, _, rfl, .inr ⟨rfl, rfl, .inr rfl, rfl, rfl⟩, loc_call (fun i => 85 + 200 * i) false rfl (c_l10Columns  ) hP (.inr ⟨rfl, rfl, rfl⟩) rfl rfl (fun h => by cases h)⟩, ?_⟩
     first | refine ⟨_, .inr ⟨rfl, _, rfl, .inr ⟨rfl, rfl, .inr rfl, rfl, rfl⟩, loc_q (q_fadr_ptr rfl)⟩, ?_⟩
     first | refine ⟨_, .inr ⟨rfl, _, rfl, .inr ⟨rfl, rfl, .inr rfl, rfl, rfl⟩, loc_q (q_load1_ptr rfl rfl rfl)⟩, ?_⟩
     first | refine ⟨_, .inr ⟨rfl, _, rfl, .inr ⟨rfl, rfl, .inr rfl, rfl, rfl⟩, loc_q (q_ixoI rfl rfl (by omega) (by omega))⟩, ?_⟩
     first | refine ⟨_, .inr ⟨rfl, _, rfl, .inr ⟨rfl, rfl, .inr rfl, rfl, rfl⟩, loc_q (q_load1_rptr rfl rfl (cols_at (by omega)) rfl)⟩, ?_⟩
     first | refine ⟨_, .inr ⟨rfl, _, rfl, .inr ⟨rfl, rfl, .inr rfl, rfl, rfl⟩, loc_q (q_sbin_add rfl rfl (by simp only [List.length_append, List.length_cons, List.length_nil]; omega))⟩, ?_⟩
     refine ⟨rfl, ?_⟩
     refine ax_q (q_sbin_add rfl rfl (by simp only [List.length_append, List.length_cons, List.length_nil]; omega)) ?_
     refine ax_q (q_mov rfl) ?_
     refine ax_nil (cx_keep rfl rfl (cx_seq (cx_ops ?_)))
     refine ax_q (q_fadr_ptr rfl) ?_
     refine ax_q (q_load1_ptr rfl rfl rfl) ?_
     refine ax_nil (cx_keep rfl rfl ?_)
     refine cx_cond rfl (fun h4 => ?_) (fun h4 => ?_)
     ·
      skip
      have ed := fun a => sxD_t (a := a) h4
      refine cx_ops ?_
      refine ax_q (q_mov rfl) ?_
      refine ax_q (q_sbin_add rfl rfl (by simp only [List.length_append, List.length_cons, List.length_nil]; omega)) ?_
      refine ax_q (q_mov rfl) ?_
      refine ax_nil (cx_keep rfl rfl (cx_seq (cx_ops ?_)))
      refine ax_q (q_mov rfl) ?_
      refine ax_q (q_mov rfl) ?_
      refine ax_nil (cx_keep rfl rfl ?_)
      refine cx_ret (ret0 rfl rfl ?_)
      exact ⟨by unfold stT sxA; rw [eb, ec, ew, eo, ed]; rfl, rfl⟩
     ·
      skip
      have ed := fun a => sxD_f (a := a) h4
      refine cx_skip ?_
      refine cx_keep rfl rfl (cx_seq (cx_ops ?_))
      refine ax_q (q_mov rfl) ?_
      refine ax_q (q_mov rfl) ?_
      refine ax_nil (cx_keep rfl rfl ?_)
      refine cx_ret (ret0 rfl rfl ?_)
      exact ⟨by unfold stT sxA; rw [eb, ec, ew, eo, ed]; rfl, rfl⟩
    ·
     have h3 := (fun h => (and_F h).imp dF (fun h => And.intro (dF (or_F h).1) (id (or_F h).2))) h3
     have eo := fun a => sxO_f (a := a) (so_f hk1 hor h3)
     have ed := fun a => sxD_f (a := a) (so_f hk1 hor h3).2
     refine cx_skip ?_
     refine cx_keep rfl rfl (cx_seq (cx_ops ?_))
     refine ax_q (q_mov rfl) ?_
     refine ax_q (q_mov rfl) ?_
     refine ax_nil (cx_keep rfl rfl ?_)
     refine cx_ret (ret0 rfl rfl ?_)
     exact ⟨by unfold stT sxA; rw [eb, ec, ew, eo, ed]; rfl, rfl⟩
  ·
   have h1 := dF h1
   have ec := fun a => sxC_f (a := a) h1
   refine cx_skip ?_
   refine cx_keep rfl rfl (cx_seq (cx_seq (cx_ops ?_)))
   refine ax_q (q_fadr_ptr rfl) ?_
   refine ax_q (q_ldN rfl rfl rfl) ?_
   refine ax_call rfl (vc_pure0 (c_l12None  ) hP rfl rfl ?_)
   refine ax_q (q_not rfl) ?_
   refine ax_nil (cx_keep rfl rfl ?_)
   refine cx_cond rfl (fun h2 => ?_) (fun h2 => ?_)
   ·
    have h2 := bT h2
    have hwe := hwh h2
    have hwl : (etF s.Where.Nodes (s.Where.Nodes.length + 1) ((s.Where.Nodes.length : Int) - 1)).length ≤ 100000000000000 := exT_le hwe
    have hwl2 := exT_le hwe
    obtain ⟨hz0, hz1, hz2, hz3, _⟩ := comp_hyps hwe
    have hn40 := exprOK_n hwe
    have ew := fun a => sxW_t (a := a) h2
    refine cx_ops ?_
    refine ax_q (q_mov rfl) ?_
    refine ax_q (q_fadr_ptr rfl) ?_
    refine ax_q (q_ldN rfl rfl rfl) ?_
    refine ax_q (q_fadr_ptr rfl) ?_
    refine ax_q (q_fadr_ptr rfl) ?_
    refine ax_q (q_load1_ptr rfl rfl rfl) ?_
    refine ax_q (q_lenS_map rfl) ?_
    refine ax_q (q_sub rfl rfl (by omega)) ?_
    refine ax_call rfl (vc_pure0 (c_l10Text (e := s.Where) (f := s.Where.Nodes.length + 1) ?_ ?_ ?_ ?_ ?_ ?_) hP rfl rfl ?_)
    ·
     first | assumption | omega
    ·
     assumption
    ·
     assumption
    ·
     assumption
    ·
     assumption
    ·
     first | assumption | omega
    refine ax_q (q_sbin_add rfl rfl (by simp only [List.length_append, List.length_cons, List.length_nil]; omega)) ?_
    refine ax_q (q_sbin_add rfl rfl (by simp only [List.length_append, List.length_cons, List.length_nil]; omega)) ?_
    refine ax_q (q_mov rfl) ?_
    refine ax_nil (cx_keep rfl rfl (cx_seq (cx_seq (cx_ops ?_))))
    refine ax_q (q_fadr_ptr rfl) ?_
    refine ax_q (q_load1_ptr rfl rfl rfl) ?_
    refine ax_q (q_ibin rfl rfl rfl) ?_
    refine ax_q (q_mov rfl) ?_
    apply ax_and rfl rfl
    ·
     intro g
     have g := dT g
     refine ax_q (q_fadr_ptr rfl) ?_
     refine ax_q (q_load1_ptr rfl rfl rfl) ?_
     refine ax_q (q_ibin rfl rfl rfl) ?_
     refine ax_q (q_mov rfl) ?_
     apply ax_or rfl rfl
     ·
      intro g
      have g := dF g
      refine ax_q (q_fadr_ptr rfl) ?_
      refine ax_q (q_load1_ptr rfl rfl rfl) ?_
      exact ax_nil ⟨rfl, by repeat constructor⟩
     exact ax_nil ⟨rfl, by repeat constructor⟩
    refine ax_nil (cx_keep rfl rfl ?_)
    refine cx_cond rfl (fun h3 => ?_) (fun h3 => ?_)
    ·
     have h3 := (fun h => And.intro (dT (and_T h).1) ((fun h => (or_T h).imp dT id) (and_T h).2)) h3
     have eo := fun a => sxO_t (a := a) (h3.2.imp (fun h => by omega) id)
     refine cx_seq ?_
     refine cx_drawL 0 84 (fun _ => false) (fun _ => true) [] ([]) [[3], [], [1], [86], [85, 87], [88], [89]] [[], [], [], [], [], [], []] rfl ?_
     first | refine ⟨⟨84, _, []⟩, .inl ⟨rfl, rfl, rfl, locl_of (loc_q (q_mov rfl))⟩, ?_⟩
     refine ⟨_, .inr ⟨rfl, _, rfl, .inr ⟨rfl, rfl, .inr rfl, rfl, rfl⟩, loc_call (fun i => 85 + 200 * i) false rfl (c_l10Columns  ) hP (.inr ⟨rfl, rfl, rfl⟩) rfl rfl (fun h => by cases h)⟩, ?_⟩
     first | refine ⟨_, .inr ⟨rfl, _, rfl, .inr ⟨rfl, rfl, .inr rfl, rfl, rfl⟩, loc_q (q_fadr_ptr rfl)⟩, ?_⟩
     first | refine ⟨_, .inr ⟨rfl, _, rfl, .inr ⟨rfl, rfl, .inr rfl, rfl, rfl⟩, loc_q (q_load1_ptr rfl rfl rfl)⟩, ?_⟩
     first | refine ⟨_, .inr ⟨rfl, _, rfl, .inr ⟨rfl, rfl, .inr rfl, rfl, rfl⟩, loc_q (q_ixoI rfl rfl (by omega) (by omega))⟩, ?_⟩
     first | refine ⟨_, .inr ⟨rfl, _, rfl, .inr ⟨rfl, rfl, .inr rfl, rfl, rfl⟩, loc_q (q_load1_rptr rfl rfl (cols_at (by omega)) rfl)⟩, ?_⟩
     first | refine ⟨_, .inr ⟨rfl, _, rfl, .inr ⟨rfl, rfl, .inr rfl, rfl, rfl⟩, loc_q (q_sbin_add rfl rfl (by simp only [List.length_append, List.length_cons, List.length_nil]; omega))⟩, ?_⟩
     refine ⟨rfl, ?_⟩
     refine ax_q (q_sbin_add rfl rfl (by simp only [List.length_append, List.length_cons, List.length_nil]; omega)) ?_
     refine ax_q (q_mov rfl) ?_
     refine ax_nil (cx_keep rfl rfl (cx_seq (cx_ops ?_)))
     refine ax_q (q_fadr_ptr rfl) ?_
     refine ax_q (q_load1_ptr rfl rfl rfl) ?_
     refine ax_nil (cx_keep rfl rfl ?_)
     refine cx_cond rfl (fun h4 => ?_) (fun h4 => ?_)
     ·
      skip
      have ed := fun a => sxD_t (a := a) h4
      refine cx_ops ?_
      refine ax_q (q_mov rfl) ?_
      refine ax_q (q_sbin_add rfl rfl (by simp only [List.length_append, List.length_cons, List.length_nil]; omega)) ?_
      refine ax_q (q_mov rfl) ?_
      refine ax_nil (cx_keep rfl rfl (cx_seq (cx_ops ?_)))
      refine ax_q (q_mov rfl) ?_
      refine ax_q (q_mov rfl) ?_
      refine ax_nil (cx_keep rfl rfl ?_)
      refine cx_ret (ret0 rfl rfl ?_)
      exact ⟨by unfold stT sxA; rw [eb, ec, ew, eo, ed]; rfl, rfl⟩
     ·
      skip
      have ed := fun a => sxD_f (a := a) h4
      refine cx_skip ?_
      refine cx_keep rfl rfl (cx_seq (cx_ops ?_))
      refine ax_q (q_mov rfl) ?_
      refine ax_q (q_mov rfl) ?_
      refine ax_nil (cx_keep rfl rfl ?_)
      refine cx_ret (ret0 rfl rfl ?_)
      exact ⟨by unfold stT sxA; rw [eb, ec, ew, eo, ed]; rfl, rfl⟩
    ·
     have h3 := (fun h => (and_F h).imp dF (fun h => And.intro (dF (or_F h).1) (id (or_F h).2))) h3
     have eo := fun a => sxO_f (a := a) (so_f hk1 hor h3)
     have ed := fun a => sxD_f (a := a) (so_f hk1 hor h3).2
     refine cx_skip ?_
     refine cx_keep rfl rfl (cx_seq (cx_ops ?_))
     refine ax_q (q_mov rfl) ?_
     refine ax_q (q_mov rfl) ?_
     refine ax_nil (cx_keep rfl rfl ?_)
     refine cx_ret (ret0 rfl rfl ?_)
     exact ⟨by unfold stT sxA; rw [eb, ec, ew, eo, ed]; rfl, rfl⟩
   ·
    have h2 := bF h2
    have ew := fun a => sxW_f (a := a) h2
    refine cx_skip ?_
    refine cx_keep rfl rfl (cx_seq (cx_seq (cx_ops ?_)))
    refine ax_q (q_fadr_ptr rfl) ?_
    refine ax_q (q_load1_ptr rfl rfl rfl) ?_
    refine ax_q (q_ibin rfl rfl rfl) ?_
    refine ax_q (q_mov rfl) ?_
    apply ax_and rfl rfl
    ·
     intro g
     have g := dT g
     refine ax_q (q_fadr_ptr rfl) ?_
     refine ax_q (q_load1_ptr rfl rfl rfl) ?_
     refine ax_q (q_ibin rfl rfl rfl) ?_
     refine ax_q (q_mov rfl) ?_
     apply ax_or rfl rfl
     ·
      intro g
      have g := dF g
      refine ax_q (q_fadr_ptr rfl) ?_
      refine ax_q (q_load1_ptr rfl rfl rfl) ?_
      exact ax_nil ⟨rfl, by repeat constructor⟩
     exact ax_nil ⟨rfl, by repeat constructor⟩
    refine ax_nil (cx_keep rfl rfl ?_)
    refine cx_cond rfl (fun h3 => ?_) (fun h3 => ?_)
    ·
     have h3 := (fun h => And.intro (dT (and_T h).1) ((fun h => (or_T h).imp dT id) (and_T h).2)) h3
     have eo := fun a => sxO_t (a := a) (h3.2.imp (fun h => by omega) id)
     refine cx_seq ?_
     refine cx_drawL 0 84 (fun _ => false) (fun _ => true) [] ([]) [[3], [], [1], [86], [85, 87], [88], [89]] [[], [], [], [], [], [], []] rfl ?_
     first | refine ⟨⟨84, _, []⟩, .inl ⟨rfl, rfl, rfl, locl_of (loc_q (q_mov rfl))⟩, ?_⟩
     refine ⟨_, .inr ⟨rfl, _, rfl, .inr ⟨rfl, rfl, .inr rfl, rfl, rfl⟩, loc_call (fun i => 85 + 200 * i) false rfl (c_l10Columns  ) hP (.inr ⟨rfl, rfl, rfl⟩) rfl rfl (fun h => by cases h)⟩, ?_⟩
     first | refine ⟨_, .inr ⟨rfl, _, rfl, .inr ⟨rfl, rfl, .inr rfl, rfl, rfl⟩, loc_q (q_fadr_ptr rfl)⟩, ?_⟩
     first | refine ⟨_, .inr ⟨rfl, _, rfl, .inr ⟨rfl, rfl, .inr rfl, rfl, rfl⟩, loc_q (q_load1_ptr rfl rfl rfl)⟩, ?_⟩
     first | refine ⟨_, .inr ⟨rfl, _, rfl, .inr ⟨rfl, rfl, .inr rfl, rfl, rfl⟩, loc_q (q_ixoI rfl rfl (by omega) (by omega))⟩, ?_⟩
     first | refine ⟨_, .inr ⟨rfl, _, rfl, .inr ⟨rfl, rfl, .inr rfl, rfl, rfl⟩, loc_q (q_load1_rptr rfl rfl (cols_at (by omega)) rfl)⟩, ?_⟩
     first | refine ⟨_, .inr ⟨rfl, _, rfl, .inr ⟨rfl, rfl, .inr rfl, rfl, rfl⟩, loc_q (q_sbin_add rfl rfl (by simp only [List.length_append, List.length_cons, List.length_nil]; omega))⟩, ?_⟩
     refine ⟨rfl, ?_⟩
     refine ax_q (q_sbin_add rfl rfl (by simp only [List.length_append, List.length_cons, List.length_nil]; omega)) ?_
     refine ax_q (q_mov rfl) ?_
     refine ax_nil (cx_keep rfl rfl (cx_seq (cx_ops ?_)))
     refine ax_q (q_fadr_ptr rfl) ?_
     refine ax_q (q_load1_ptr rfl rfl rfl) ?_
     refine ax_nil (cx_keep rfl rfl ?_)
     refine cx_cond rfl (fun h4 => ?_) (fun h4 => ?_)
     ·
      skip
      have ed := fun a => sxD_t (a := a) h4
      refine cx_ops ?_
      refine ax_q (q_mov rfl) ?_
      refine ax_q (q_sbin_add rfl rfl (by simp only [List.length_append, List.length_cons, List.length_nil]; omega)) ?_
      refine ax_q (q_mov rfl) ?_
      refine ax_nil (cx_keep rfl rfl (cx_seq (cx_ops ?_)))
      refine ax_q (q_mov rfl) ?_
      refine ax_q (q_mov rfl) ?_
      refine ax_nil (cx_keep rfl rfl ?_)
      refine cx_ret (ret0 rfl rfl ?_)
      exact ⟨by unfold stT sxA; rw [eb, ec, ew, eo, ed]; rfl, rfl⟩
     ·
      skip
      have ed := fun a => sxD_f (a := a) h4
      refine cx_skip ?_
      refine cx_keep rfl rfl (cx_seq (cx_ops ?_))
      refine ax_q (q_mov rfl) ?_
      refine ax_q (q_mov rfl) ?_
      refine ax_nil (cx_keep rfl rfl ?_)
      refine cx_ret (ret0 rfl rfl ?_)
      exact ⟨by unfold stT sxA; rw [eb, ec, ew, eo, ed]; rfl, rfl⟩
    ·
     have h3 := (fun h => (and_F h).imp dF (fun h => And.intro (dF (or_F h).1) (id (or_F h).2))) h3
     have eo := fun a => sxO_f (a := a) (so_f hk1 hor h3)
     have ed := fun a => sxD_f (a := a) (so_f hk1 hor h3).2
     refine cx_skip ?_
     refine cx_keep rfl rfl (cx_seq (cx_ops ?_))
     refine ax_q (q_mov rfl) ?_
     refine ax_q (q_mov rfl) ?_
     refine ax_nil (cx_keep rfl rfl ?_)
     refine cx_ret (ret0 rfl rfl ?_)
     exact ⟨by unfold stT sxA; rw [eb, ec, ew, eo, ed]; rfl, rfl⟩
 ·
  have h0 := dF h0
  have eb := fun a => sxB_f (a := a) h0
  refine cx_skip ?_
  refine cx_keep rfl rfl (cx_seq (cx_seq (cx_ops ?_)))
  refine ax_q (q_fadr_ptr rfl) ?_
  refine ax_q (q_load1_ptr rfl rfl rfl) ?_
  refine ax_q (q_ibin rfl rfl rfl) ?_
  refine ax_nil (cx_keep rfl rfl ?_)
  refine cx_cond rfl (fun h1 => ?_) (fun h1 => ?_)
  ·
   have h1 := dT h1
   obtain ⟨hcs, hse⟩ := hk3 h1
   have hsl : (etF s.Set.Nodes (s.Set.Nodes.length + 1) ((s.Set.Nodes.length : Int) - 1)).length ≤ 100000000000000 := exT_le hse
   have hsl2 := exT_le hse
   obtain ⟨hy0, hy1, hy2, hy3, _⟩ := comp_hyps hse
   have hn41 := exprOK_n hse
   have hcl := colT_len (c := s.Column) (by omega)
   have ec := fun a => sxC_t (a := a) h1
   refine cx_drawL 0 39 (fun _ => false) (fun _ => true) [] ([]) [[3], [], [1], [41], [40, 42], [43], [44], [45], [1], [47], [1], [49], [50], [51], [52], [48, 53], [46, 54]] [[], [], [], [], [], [], [], [], [], [], [], [], [], [], [], [], []] rfl ?_
   first | refine ⟨⟨39, _, []⟩, .inl ⟨rfl, rfl, rfl, locl_of (loc_q (q_mov rfl))⟩, ?_⟩
   refine ⟨_, .inr ⟨rfl, _, rfl, .inr ⟨rfl, rfl, .inr rfl, rfl, rfl⟩, loc_call (fun i => 40 + 200 * i) false rfl (c_l10Columns  ) hP (.inr ⟨rfl, rfl, rfl⟩) rfl rfl (fun h => by cases h)⟩, ?_⟩
   first | refine ⟨_, .inr ⟨rfl, _, rfl, .inr ⟨rfl, rfl, .inr rfl, rfl, rfl⟩, loc_q (q_fadr_ptr rfl)⟩, ?_⟩
   first | refine ⟨_, .inr ⟨rfl, _, rfl, .inr ⟨rfl, rfl, .inr rfl, rfl, rfl⟩, loc_q (q_load1_ptr rfl rfl rfl)⟩, ?_⟩
   first | refine ⟨_, .inr ⟨rfl, _, rfl, .inr ⟨rfl, rfl, .inr rfl, rfl, rfl⟩, loc_q (q_ixoI rfl rfl (by omega) (by omega))⟩, ?_⟩
   first | refine ⟨_, .inr ⟨rfl, _, rfl, .inr ⟨rfl, rfl, .inr rfl, rfl, rfl⟩, loc_q (q_load1_rptr rfl rfl (cols_at (by omega)) rfl)⟩, ?_⟩
   first | refine ⟨_, .inr ⟨rfl, _, rfl, .inr ⟨rfl, rfl, .inr rfl, rfl, rfl⟩, loc_q (q_sbin_add rfl rfl (by simp only [List.length_append, List.length_cons, List.length_nil]; omega))⟩, ?_⟩
   first | refine ⟨_, .inr ⟨rfl, _, rfl, .inr ⟨rfl, rfl, .inr rfl, rfl, rfl⟩, loc_q (q_sbin_add rfl rfl (by simp only [List.length_append, List.length_cons, List.length_nil]; omega))⟩, ?_⟩
   first | refine ⟨_, .inr ⟨rfl, _, rfl, .inr ⟨rfl, rfl, .inr rfl, rfl, rfl⟩, loc_q (q_fadr_ptr rfl)⟩, ?_⟩
   first | refine ⟨_, .inr ⟨rfl, _, rfl, .inr ⟨rfl, rfl, .inr rfl, rfl, rfl⟩, loc_q (q_ldN rfl rfl rfl)⟩, ?_⟩
   first | refine ⟨_, .inr ⟨rfl, _, rfl, .inr ⟨rfl, rfl, .inr rfl, rfl, rfl⟩, loc_q (q_fadr_ptr rfl)⟩, ?_⟩
   first | refine ⟨_, .inr ⟨rfl, _, rfl, .inr ⟨rfl, rfl, .inr rfl, rfl, rfl⟩, loc_q (q_fadr_ptr rfl)⟩, ?_⟩
   first | refine ⟨_, .inr ⟨rfl, _, rfl, .inr ⟨rfl, rfl, .inr rfl, rfl, rfl⟩, loc_q (q_load1_ptr rfl rfl rfl)⟩, ?_⟩
   refine ⟨_, .inr ⟨rfl, _, rfl, .inr ⟨rfl, rfl, .inr rfl, rfl, rfl⟩, loc_q (q_lenS_map rfl)⟩, ?_⟩
   first | refine ⟨_, .inr ⟨rfl, _, rfl, .inr ⟨rfl, rfl, .inr rfl, rfl, rfl⟩, loc_q (q_sub rfl rfl (by omega))⟩, ?_⟩
   refine ⟨_, .inr ⟨rfl, _, rfl, .inr ⟨rfl, rfl, .inr rfl, rfl, rfl⟩, loc_call (fun i => 54 + 200 * i) false rfl (c_l10Text (e := s.Set) (f := s.Set.Nodes.length + 1) (by first | assumption | omega | (simp; done) | (simp; omega)) (by first | assumption | omega | (simp; done) | (simp; omega)) (by first | assumption | omega | (simp; done) | (simp; omega)) (by first | assumption | omega | (simp; done) | (simp; omega)) (by first | assumption | omega | (simp; done) | (simp; omega)) (by first | assumption | omega | (simp; done) | (simp; omega))) hP (.inr ⟨rfl, rfl, rfl⟩) rfl rfl (fun h => by cases h)⟩, ?_⟩
   first | refine ⟨_, .inr ⟨rfl, _, rfl, .inr ⟨rfl, rfl, .inr rfl, rfl, rfl⟩, loc_q (q_sbin_add rfl rfl (by simp only [List.length_append, List.length_cons, List.length_nil]; omega))⟩, ?_⟩
   refine ⟨rfl, ?_⟩
   refine ax_q (q_sbin_add rfl rfl (by simp only [List.length_append, List.length_cons, List.length_nil]; omega)) ?_
   refine ax_q (q_mov rfl) ?_
   refine ax_nil (cx_keep rfl rfl (cx_seq (cx_seq (cx_ops ?_))))
   refine ax_q (q_fadr_ptr rfl) ?_
   refine ax_q (q_ldN rfl rfl rfl) ?_
   refine ax_call rfl (vc_pure0 (c_l12None  ) hP rfl rfl ?_)
   refine ax_q (q_not rfl) ?_
   refine ax_nil (cx_keep rfl rfl ?_)
   refine cx_cond rfl (fun h2 => ?_) (fun h2 => ?_)
   ·
    have h2 := bT h2
    have hwe := hwh h2
    have hwl : (etF s.Where.Nodes (s.Where.Nodes.length + 1) ((s.Where.Nodes.length : Int) - 1)).length ≤ 100000000000000 := exT_le hwe
    have hwl2 := exT_le hwe
    obtain ⟨hz0, hz1, hz2, hz3, _⟩ := comp_hyps hwe
    have hn40 := exprOK_n hwe
    have ew := fun a => sxW_t (a := a) h2
    refine cx_ops ?_
    refine ax_q (q_mov rfl) ?_
    refine ax_q (q_fadr_ptr rfl) ?_
    refine ax_q (q_ldN rfl rfl rfl) ?_
    refine ax_q (q_fadr_ptr rfl) ?_
    refine ax_q (q_fadr_ptr rfl) ?_
    refine ax_q (q_load1_ptr rfl rfl rfl) ?_
    refine ax_q (q_lenS_map rfl) ?_
    refine ax_q (q_sub rfl rfl (by omega)) ?_
    refine ax_call rfl (vc_pure0 (c_l10Text (e := s.Where) (f := s.Where.Nodes.length + 1) ?_ ?_ ?_ ?_ ?_ ?_) hP rfl rfl ?_)
    ·
     first | assumption | omega
    ·
     assumption
    ·
     assumption
    ·
     assumption
    ·
     assumption
    ·
     first | assumption | omega
    refine ax_q (q_sbin_add rfl rfl (by simp only [List.length_append, List.length_cons, List.length_nil]; omega)) ?_
    refine ax_q (q_sbin_add rfl rfl (by simp only [List.length_append, List.length_cons, List.length_nil]; omega)) ?_
    refine ax_q (q_mov rfl) ?_
    refine ax_nil (cx_keep rfl rfl (cx_seq (cx_seq (cx_ops ?_))))
    refine ax_q (q_fadr_ptr rfl) ?_
    refine ax_q (q_load1_ptr rfl rfl rfl) ?_
    refine ax_q (q_ibin rfl rfl rfl) ?_
    refine ax_q (q_mov rfl) ?_
    apply ax_and rfl rfl
    ·
     intro g
     have g := dT g
     refine ax_q (q_fadr_ptr rfl) ?_
     refine ax_q (q_load1_ptr rfl rfl rfl) ?_
     refine ax_q (q_ibin rfl rfl rfl) ?_
     refine ax_q (q_mov rfl) ?_
     apply ax_or rfl rfl
     ·
      intro g
      have g := dF g
      refine ax_q (q_fadr_ptr rfl) ?_
      refine ax_q (q_load1_ptr rfl rfl rfl) ?_
      exact ax_nil ⟨rfl, by repeat constructor⟩
     exact ax_nil ⟨rfl, by repeat constructor⟩
    refine ax_nil (cx_keep rfl rfl ?_)
    refine cx_cond rfl (fun h3 => ?_) (fun h3 => ?_)
    ·
     have h3 := (fun h => And.intro (dT (and_T h).1) ((fun h => (or_T h).imp dT id) (and_T h).2)) h3
     have eo := fun a => sxO_t (a := a) (h3.2.imp (fun h => by omega) id)
     refine cx_seq ?_
     refine cx_drawL 0 84 (fun _ => false) (fun _ => true) [] ([]) [[3], [], [1], [86], [85, 87], [88], [89]] [[], [], [], [], [], [], []] rfl ?_
     first | refine ⟨⟨84, _, []⟩, .inl ⟨rfl, rfl, rfl, locl_of (loc_q (q_mov rfl))⟩, ?_⟩
     refine ⟨_, .inr ⟨rfl, _, rfl, .inr ⟨rfl, rfl, .inr rfl, rfl, rfl⟩, loc_call (fun i => 85 + 200 * i) false rfl (c_l10Columns  ) hP (.inr ⟨rfl, rfl, rfl⟩) rfl rfl (fun h => by cases h)⟩, ?_⟩
     first | refine ⟨_, .inr ⟨rfl, _, rfl, .inr ⟨rfl, rfl, .inr rfl, rfl, rfl⟩, loc_q (q_fadr_ptr rfl)⟩, ?_⟩
     first | refine ⟨_, .inr ⟨rfl, _, rfl, .inr ⟨rfl, rfl, .inr rfl, rfl, rfl⟩, loc_q (q_load1_ptr rfl rfl rfl)⟩, ?_⟩
     first | refine ⟨_, .inr ⟨rfl, _, rfl, .inr ⟨rfl, rfl, .inr rfl, rfl, rfl⟩, loc_q (q_ixoI rfl rfl (by omega) (by omega))⟩, ?_⟩
     first | refine ⟨_, .inr ⟨rfl, _, rfl, .inr ⟨rfl, rfl, .inr rfl, rfl, rfl⟩, loc_q (q_load1_rptr rfl rfl (cols_at (by omega)) rfl)⟩, ?_⟩
     first | refine ⟨_, .inr ⟨rfl, _, rfl, .inr ⟨rfl, rfl, .inr rfl, rfl, rfl⟩, loc_q (q_sbin_add rfl rfl (by simp only [List.length_append, List.length_cons, List.length_nil]; omega))⟩, ?_⟩
     refine ⟨rfl, ?_⟩
     refine ax_q (q_sbin_add rfl rfl (by simp only [List.length_append, List.length_cons, List.length_nil]; omega)) ?_
     refine ax_q (q_mov rfl) ?_
     refine ax_nil (cx_keep rfl rfl (cx_seq (cx_ops ?_)))
     refine ax_q (q_fadr_ptr rfl) ?_
     refine ax_q (q_load1_ptr rfl rfl rfl) ?_
     refine ax_nil (cx_keep rfl rfl ?_)
     refine cx_cond rfl (fun h4 => ?_) (fun h4 => ?_)
     ·
      skip
      have ed := fun a => sxD_t (a := a) h4
      refine cx_ops ?_
      refine ax_q (q_mov rfl) ?_
      refine ax_q (q_sbin_add rfl rfl (by simp only [List.length_append, List.length_cons, List.length_nil]; omega)) ?_
      refine ax_q (q_mov rfl) ?_
      refine ax_nil (cx_keep rfl rfl (cx_seq (cx_ops ?_)))
      refine ax_q (q_mov rfl) ?_
      refine ax_q (q_mov rfl) ?_
      refine ax_nil (cx_keep rfl rfl ?_)
      refine cx_ret (ret0 rfl rfl ?_)
      exact ⟨by unfold stT sxA; rw [eb, ec, ew, eo, ed]; rfl, rfl⟩
     ·
      skip
      have ed := fun a => sxD_f (a := a) h4
      refine cx_skip ?_
      refine cx_keep rfl rfl (cx_seq (cx_ops ?_))
      refine ax_q (q_mov rfl) ?_
      refine ax_q (q_mov rfl) ?_
      refine ax_nil (cx_keep rfl rfl ?_)
      refine cx_ret (ret0 rfl rfl ?_)
      exact ⟨by unfold stT sxA; rw [eb, ec, ew, eo, ed]; rfl, rfl⟩
    ·
     have h3 := (fun h => (and_F h).imp dF (fun h => And.intro (dF (or_F h).1) (id (or_F h).2))) h3
     have eo := fun a => sxO_f (a := a) (so_f hk1 hor h3)
     have ed := fun a => sxD_f (a := a) (so_f hk1 hor h3).2
     refine cx_skip ?_
     refine cx_keep rfl rfl (cx_seq (cx_ops ?_))
     refine ax_q (q_mov rfl) ?_
     refine ax_q (q_mov rfl) ?_
     refine ax_nil (cx_keep rfl rfl ?_)
     refine cx_ret (ret0 rfl rfl ?_)
     exact ⟨by unfold stT sxA; rw [eb, ec, ew, eo, ed]; rfl, rfl⟩
   ·
    have h2 := bF h2
    have ew := fun a => sxW_f (a := a) h2
    refine cx_skip ?_
    refine cx_keep rfl rfl (cx_seq (cx_seq (cx_ops ?_)))
    refine ax_q (q_fadr_ptr rfl) ?_
    refine ax_q (q_load1_ptr rfl rfl rfl) ?_
    refine ax_q (q_ibin rfl rfl rfl) ?_
    refine ax_q (q_mov rfl) ?_
    apply ax_and rfl rfl
    ·
     intro g
     have g := dT g
     refine ax_q (q_fadr_ptr rfl) ?_
     refine ax_q (q_load1_ptr rfl rfl rfl) ?_
     refine ax_q (q_ibin rfl rfl rfl) ?_
     refine ax_q (q_mov rfl) ?_
     apply ax_or rfl rfl
     ·
      intro g
      have g := dF g
      refine ax_q (q_fadr_ptr rfl) ?_
      refine ax_q (q_load1_ptr rfl rfl rfl) ?_
      exact ax_nil ⟨rfl, by repeat constructor⟩
     exact ax_nil ⟨rfl, by repeat constructor⟩
    refine ax_nil (cx_keep rfl rfl ?_)
    refine cx_cond rfl (fun h3 => ?_) (fun h3 => ?_)
    ·
     have h3 := (fun h => And.intro (dT (and_T h).1) ((fun h => (or_T h).imp dT id) (and_T h).2)) h3
     have eo := fun a => sxO_t (a := a) (h3.2.imp (fun h => by omega) id)
     refine cx_seq ?_
     refine cx_drawL 0 84 (fun _ => false) (fun _ => true) [] ([]) [[3], [], [1], [86], [85, 87], [88], [89]] [[], [], [], [], [], [], []] rfl ?_
     first | refine ⟨⟨84, _, []⟩, .inl ⟨rfl, rfl, rfl, locl_of (loc_q (q_mov rfl))⟩, ?_⟩
     refine ⟨_, .inr ⟨rfl, _, rfl, .inr ⟨rfl, rfl, .inr rfl, rfl, rfl⟩, loc_call (fun i => 85 + 200 * i) false rfl (c_l10Columns  ) hP (.inr ⟨rfl, rfl, rfl⟩) rfl rfl (fun h => by cases h)⟩, ?_⟩
     first | refine ⟨_, .inr ⟨rfl, _, rfl, .inr ⟨rfl, rfl, .inr rfl, rfl, rfl⟩, loc_q (q_fadr_ptr rfl)⟩, ?_⟩
     first | refine ⟨_, .inr ⟨rfl, _, rfl, .inr ⟨rfl, rfl, .inr rfl, rfl, rfl⟩, loc_q (q_load1_ptr rfl rfl rfl)⟩, ?_⟩
     first | refine ⟨_, .inr ⟨rfl, _, rfl, .inr ⟨rfl, rfl, .inr rfl, rfl, rfl⟩, loc_q (q_ixoI rfl rfl (by omega) (by omega))⟩, ?_⟩
     first | refine ⟨_, .inr ⟨rfl, _, rfl, .inr ⟨rfl, rfl, .inr rfl, rfl, rfl⟩, loc_q (q_load1_rptr rfl rfl (cols_at (by omega)) rfl)⟩, ?_⟩
     first | refine ⟨_, .inr ⟨rfl, _, rfl, .inr ⟨rfl, rfl, .inr rfl, rfl, rfl⟩, loc_q (q_sbin_add rfl rfl (by simp only [List.length_append, List.length_cons, List.length_nil]; omega))⟩, ?_⟩
     refine ⟨rfl, ?_⟩
     refine ax_q (q_sbin_add rfl rfl (by simp only [List.length_append, List.length_cons, List.length_nil]; omega)) ?_
     refine ax_q (q_mov rfl) ?_
     refine ax_nil (cx_keep rfl rfl (cx_seq (cx_ops ?_)))
     refine ax_q (q_fadr_ptr rfl) ?_
     refine ax_q (q_load1_ptr rfl rfl rfl) ?_
     refine ax_nil (cx_keep rfl rfl ?_)
     refine cx_cond rfl (fun h4 => ?_) (fun h4 => ?_)
     ·
      skip
      have ed := fun a => sxD_t (a := a) h4
      refine cx_ops ?_
      refine ax_q (q_mov rfl) ?_
      refine ax_q (q_sbin_add rfl rfl (by simp only [List.length_append, List.length_cons, List.length_nil]; omega)) ?_
      refine ax_q (q_mov rfl) ?_
      refine ax_nil (cx_keep rfl rfl (cx_seq (cx_ops ?_)))
      refine ax_q (q_mov rfl) ?_
      refine ax_q (q_mov rfl) ?_
      refine ax_nil (cx_keep rfl rfl ?_)
      refine cx_ret (ret0 rfl rfl ?_)
      exact ⟨by unfold stT sxA; rw [eb, ec, ew, eo, ed]; rfl, rfl⟩
     ·
      skip
      have ed := fun a => sxD_f (a := a) h4
      refine cx_skip ?_
      refine cx_keep rfl rfl (cx_seq (cx_ops ?_))
      refine ax_q (q_mov rfl) ?_
      refine ax_q (q_mov rfl) ?_
      refine ax_nil (cx_keep rfl rfl ?_)
      refine cx_ret (ret0 rfl rfl ?_)
      exact ⟨by unfold stT sxA; rw [eb, ec, ew, eo, ed]; rfl, rfl⟩
    ·
     have h3 := (fun h => (and_F h).imp dF (fun h => And.intro (dF (or_F h).1) (id (or_F h).2))) h3
     have eo := fun a => sxO_f (a := a) (so_f hk1 hor h3)
     have ed := fun a => sxD_f (a := a) (so_f hk1 hor h3).2
     refine cx_skip ?_
     refine cx_keep rfl rfl (cx_seq (cx_ops ?_))
     refine ax_q (q_mov rfl) ?_
     refine ax_q (q_mov rfl) ?_
     refine ax_nil (cx_keep rfl rfl ?_)
     refine cx_ret (ret0 rfl rfl ?_)
     exact ⟨by unfold stT sxA; rw [eb, ec, ew, eo, ed]; rfl, rfl⟩
  ·
   have h1 := dF h1
   have ec := fun a => sxC_f (a := a) h1
   refine cx_skip ?_
   refine cx_keep rfl rfl (cx_seq (cx_seq (cx_ops ?_)))
   refine ax_q (q_fadr_ptr rfl) ?_
   refine ax_q (q_ldN rfl rfl rfl) ?_
   refine ax_call rfl (vc_pure0 (c_l12None  ) hP rfl rfl ?_)
   refine ax_q (q_not rfl) ?_
   refine ax_nil (cx_keep rfl rfl ?_)
   refine cx_cond rfl (fun h2 => ?_) (fun h2 => ?_)
   ·
    have h2 := bT h2
    have hwe := hwh h2
    have hwl : (etF s.Where.Nodes (s.Where.Nodes.length + 1) ((s.Where.Nodes.length : Int) - 1)).length ≤ 100000000000000 := exT_le hwe
    have hwl2 := exT_le hwe
    obtain ⟨hz0, hz1, hz2, hz3, _⟩ := comp_hyps hwe
    have hn40 := exprOK_n hwe
    have ew := fun a => sxW_t (a := a) h2
    refine cx_ops ?_
    refine ax_q (q_mov rfl) ?_
    refine ax_q (q_fadr_ptr rfl) ?_
    refine ax_q (q_ldN rfl rfl rfl) ?_
    refine ax_q (q_fadr_ptr rfl) ?_
    refine ax_q (q_fadr_ptr rfl) ?_
    refine ax_q (q_load1_ptr rfl rfl rfl) ?_
    refine ax_q (q_lenS_map rfl) ?_
    refine ax_q (q_sub rfl rfl (by omega)) ?_
    refine ax_call rfl (vc_pure0 (c_l10Text (e := s.Where) (f := s.Where.Nodes.length + 1) ?_ ?_ ?_ ?_ ?_ ?_) hP rfl rfl ?_)
    ·
     first | assumption | omega
    ·
     assumption
    ·
     assumption
    ·
     assumption
    ·
     assumption
    ·
     first | assumption | omega
    refine ax_q (q_sbin_add rfl rfl (by simp only [List.length_append, List.length_cons, List.length_nil]; omega)) ?_
    refine ax_q (q_sbin_add rfl rfl (by simp only [List.length_append, List.length_cons, List.length_nil]; omega)) ?_
    refine ax_q (q_mov rfl) ?_
    refine ax_nil (cx_keep rfl rfl (cx_seq (cx_seq (cx_ops ?_))))
    refine ax_q (q_fadr_ptr rfl) ?_
    refine ax_q (q_load1_ptr rfl rfl rfl) ?_
    refine ax_q (q_ibin rfl rfl rfl) ?_
    refine ax_q (q_mov rfl) ?_
    apply ax_and rfl rfl
    ·
     intro g
     have g := dT g
     refine ax_q (q_fadr_ptr rfl) ?_
     refine ax_q (q_load1_ptr rfl rfl rfl) ?_
     refine ax_q (q_ibin rfl rfl rfl) ?_
     refine ax_q (q_mov rfl) ?_
     apply ax_or rfl rfl
     ·
      intro g
      have g := dF g
      refine ax_q (q_fadr_ptr rfl) ?_
      refine ax_q (q_load1_ptr rfl rfl rfl) ?_
      exact ax_nil ⟨rfl, by repeat constructor⟩
     exact ax_nil ⟨rfl, by repeat constructor⟩
    refine ax_nil (cx_keep rfl rfl ?_)
    refine cx_cond rfl (fun h3 => ?_) (fun h3 => ?_)
    ·
     have h3 := (fun h => And.intro (dT (and_T h).1) ((fun h => (or_T h).imp dT id) (and_T h).2)) h3
     have eo := fun a => sxO_t (a := a) (h3.2.imp (fun h => by omega) id)
     refine cx_seq ?_
     refine cx_drawL 0 84 (fun _ => false) (fun _ => true) [] ([]) [[3], [], [1], [86], [85, 87], [88], [89]] [[], [], [], [], [], [], []] rfl ?_
     first | refine ⟨⟨84, _, []⟩, .inl ⟨rfl, rfl, rfl, locl_of (loc_q (q_mov rfl))⟩, ?_⟩
     refine ⟨_, .inr ⟨rfl, _, rfl, .inr ⟨rfl, rfl, .inr rfl, rfl, rfl⟩, loc_call (fun i => 85 + 200 * i) false rfl (c_l10Columns  ) hP (.inr ⟨rfl, rfl, rfl⟩) rfl rfl (fun h => by cases h)⟩, ?_⟩
     first | refine ⟨_, .inr ⟨rfl, _, rfl, .inr ⟨rfl, rfl, .inr rfl, rfl, rfl⟩, loc_q (q_fadr_ptr rfl)⟩, ?_⟩
     first | refine ⟨_, .inr ⟨rfl, _, rfl, .inr ⟨rfl, rfl, .inr rfl, rfl, rfl⟩, loc_q (q_load1_ptr rfl rfl rfl)⟩, ?_⟩
     first | refine ⟨_, .inr ⟨rfl, _, rfl, .inr ⟨rfl, rfl, .inr rfl, rfl, rfl⟩, loc_q (q_ixoI rfl rfl (by omega) (by omega))⟩, ?_⟩
     first | refine ⟨_, .inr ⟨rfl, _, rfl, .inr ⟨rfl, rfl, .inr rfl, rfl, rfl⟩, loc_q (q_load1_rptr rfl rfl (cols_at (by omega)) rfl)⟩, ?_⟩
     first | refine ⟨_, .inr ⟨rfl, _, rfl, .inr ⟨rfl, rfl, .inr rfl, rfl, rfl⟩, loc_q (q_sbin_add rfl rfl (by simp only [List.length_append, List.length_cons, List.length_nil]; omega))⟩, ?_⟩
     refine ⟨rfl, ?_⟩
     refine ax_q (q_sbin_add rfl rfl (by simp only [List.length_append, List.length_cons, List.length_nil]; omega)) ?_
     refine ax_q (q_mov rfl) ?_
     refine ax_nil (cx_keep rfl rfl (cx_seq (cx_ops ?_)))
     refine ax_q (q_fadr_ptr rfl) ?_
     refine ax_q (q_load1_ptr rfl rfl rfl) ?_
     refine ax_nil (cx_keep rfl rfl ?_)
     refine cx_cond rfl (fun h4 => ?_) (fun h4 => ?_)
     ·
      skip
      have ed := fun a => sxD_t (a := a) h4
      refine cx_ops ?_
      refine ax_q (q_mov rfl) ?_
      refine ax_q (q_sbin_add rfl rfl (by simp only [List.length_append, List.length_cons, List.length_nil]; omega)) ?_
      refine ax_q (q_mov rfl) ?_
      refine ax_nil (cx_keep rfl rfl (cx_seq (cx_ops ?_)))
      refine ax_q (q_mov rfl) ?_
      refine ax_q (q_mov rfl) ?_
      refine ax_nil (cx_keep rfl rfl ?_)
      refine cx_ret (ret0 rfl rfl ?_)
      exact ⟨by unfold stT sxA; rw [eb, ec, ew, eo, ed]; rfl, rfl⟩
     ·
      skip
      have ed := fun a => sxD_f (a := a) h4
      refine cx_skip ?_
      refine cx_keep rfl rfl (cx_seq (cx_ops ?_))
      refine ax_q (q_mov rfl) ?_
      refine ax_q (q_mov rfl) ?_
      refine ax_nil (cx_keep rfl rfl ?_)
      refine cx_ret (ret0 rfl rfl ?_)
      exact ⟨by unfold stT sxA; rw [eb, ec, ew, eo, ed]; rfl, rfl⟩
    ·
     have h3 := (fun h => (and_F h).imp dF (fun h => And.intro (dF (or_F h).1) (id (or_F h).2))) h3
     have eo := fun a => sxO_f (a := a) (so_f hk1 hor h3)
     have ed := fun a => sxD_f (a := a) (so_f hk1 hor h3).2
     refine cx_skip ?_
     refine cx_keep rfl rfl (cx_seq (cx_ops ?_))
     refine ax_q (q_mov rfl) ?_
     refine ax_q (q_mov rfl) ?_
     refine ax_nil (cx_keep rfl rfl ?_)
     refine cx_ret (ret0 rfl rfl ?_)
     exact ⟨by unfold stT sxA; rw [eb, ec, ew, eo, ed]; rfl, rfl⟩
   ·
    have h2 := bF h2
    have ew := fun a => sxW_f (a := a) h2
    refine cx_skip ?_
    refine cx_keep rfl rfl (cx_seq (cx_seq (cx_ops ?_)))
    refine ax_q (q_fadr_ptr rfl) ?_
    refine ax_q (q_load1_ptr rfl rfl rfl) ?_
    refine ax_q (q_ibin rfl rfl rfl) ?_
    refine ax_q (q_mov rfl) ?_
    apply ax_and rfl rfl
    ·
     intro g
     have g := dT g
     refine ax_q (q_fadr_ptr rfl) ?_
     refine ax_q (q_load1_ptr rfl rfl rfl) ?_
     refine ax_q (q_ibin rfl rfl rfl) ?_
     refine ax_q (q_mov rfl) ?_
     apply ax_or rfl rfl
     ·
      intro g
      have g := dF g
      refine ax_q (q_fadr_ptr rfl) ?_
      refine ax_q (q_load1_ptr rfl rfl rfl) ?_
      exact ax_nil ⟨rfl, by repeat constructor⟩
     exact ax_nil ⟨rfl, by repeat constructor⟩
    refine ax_nil (cx_keep rfl rfl ?_)
    refine cx_cond rfl (fun h3 => ?_) (fun h3 => ?_)
    ·
     have h3 := (fun h => And.intro (dT (and_T h).1) ((fun h => (or_T h).imp dT id) (and_T h).2)) h3
     have eo := fun a => sxO_t (a := a) (h3.2.imp (fun h => by omega) id)
     refine cx_seq ?_
     refine cx_drawL 0 84 (fun _ => false) (fun _ => true) [] ([]) [[3], [], [1], [86], [85, 87], [88], [89]] [[], [], [], [], [], [], []] rfl ?_
     first | refine ⟨⟨84, _, []⟩, .inl ⟨rfl, rfl, rfl, locl_of (loc_q (q_mov rfl))⟩, ?_⟩
     refine ⟨_, .inr ⟨rfl, _, rfl, .inr ⟨rfl, rfl, .inr rfl, rfl, rfl⟩, loc_call (fun i => 85 + 200 * i) false rfl (c_l10Columns  ) hP (.inr ⟨rfl, rfl, rfl⟩) rfl rfl (fun h => by cases h)⟩, ?_⟩
     first | refine ⟨_, .inr ⟨rfl, _, rfl, .inr ⟨rfl, rfl, .inr rfl, rfl, rfl⟩, loc_q (q_fadr_ptr rfl)⟩, ?_⟩
     first | refine ⟨_, .inr ⟨rfl, _, rfl, .inr ⟨rfl, rfl, .inr rfl, rfl, rfl⟩, loc_q (q_load1_ptr rfl rfl rfl)⟩, ?_⟩
     first | refine ⟨_, .inr ⟨rfl, _, rfl, .inr ⟨rfl, rfl, .inr rfl, rfl, rfl⟩, loc_q (q_ixoI rfl rfl (by omega) (by omega))⟩, ?_⟩
     first | refine ⟨_, .inr ⟨rfl, _, rfl, .inr ⟨rfl, rfl, .inr rfl, rfl, rfl⟩, loc_q (q_load1_rptr rfl rfl (cols_at (by omega)) rfl)⟩, ?_⟩
     first | refine ⟨_, .inr ⟨rfl, _, rfl, .inr ⟨rfl, rfl, .inr rfl, rfl, rfl⟩, loc_q (q_sbin_add rfl rfl (by simp only [List.length_append, List.length_cons, List.length_nil]; omega))⟩, ?_⟩
     refine ⟨rfl, ?_⟩
     refine ax_q (q_sbin_add rfl rfl (by simp only [List.length_append, List.length_cons, List.length_nil]; omega)) ?_
     refine ax_q (q_mov rfl) ?_
     refine ax_nil (cx_keep rfl rfl (cx_seq (cx_ops ?_)))
     refine ax_q (q_fadr_ptr rfl) ?_
     refine ax_q (q_load1_ptr rfl rfl rfl) ?_
     refine ax_nil (cx_keep rfl rfl ?_)
     refine cx_cond rfl (fun h4 => ?_) (fun h4 => ?_)
     ·
      skip
      have ed := fun a => sxD_t (a := a) h4
      refine cx_ops ?_
      refine ax_q (q_mov rfl) ?_
      refine ax_q (q_sbin_add rfl rfl (by simp only [List.length_append, List.length_cons, List.length_nil]; omega)) ?_
      refine ax_q (q_mov rfl) ?_
      refine ax_nil (cx_keep rfl rfl (cx_seq (cx_ops ?_)))
      refine ax_q (q_mov rfl) ?_
      refine ax_q (q_mov rfl) ?_
      refine ax_nil (cx_keep rfl rfl ?_)
      refine cx_ret (ret0 rfl rfl ?_)
      exact ⟨by unfold stT sxA; rw [eb, ec, ew, eo, ed]; rfl, rfl⟩
     ·
      skip
      have ed := fun a => sxD_f (a := a) h4
      refine cx_skip ?_
      refine cx_keep rfl rfl (cx_seq (cx_ops ?_))
      refine ax_q (q_mov rfl) ?_
      refine ax_q (q_mov rfl) ?_
      refine ax_nil (cx_keep rfl rfl ?_)
      refine cx_ret (ret0 rfl rfl ?_)
      exact ⟨by unfold stT sxA; rw [eb, ec, ew, eo, ed]; rfl, rfl⟩
    ·
     have h3 := (fun h => (and_F h).imp dF (fun h => And.intro (dF (or_F h).1) (id (or_F h).2))) h3
     have eo := fun a => sxO_f (a := a) (so_f hk1 hor h3)
     have ed := fun a => sxD_f (a := a) (so_f hk1 hor h3).2
     refine cx_skip ?_
     refine cx_keep rfl rfl (cx_seq (cx_ops ?_))
     refine ax_q (q_mov rfl) ?_
     refine ax_q (q_mov rfl) ?_
     refine ax_nil (cx_keep rfl rfl ?_)
     refine cx_ret (ret0 rfl rfl ?_)
     exact ⟨by unfold stT sxA; rw [eb, ec, ew, eo, ed]; rfl, rfl⟩


/- loop.example/g00332/spec.StmtText -/
def k_c_sStmtText : XCode :=
 .seq (.ops [.op (some 1) (.box (.t 0)),
   .op (some 2) (.mov (.k (.str []))),
   .op (some 3) (.mov (.k (.int .i64 0)))])
 (.keep [1] (.seq (.seq (.ops [.op (some 4) (.loadN 14 (.t 1)),
   .call (some 5) 39 [.t 4],
   .op (some 6) (.not (.t 5))])
  (.keep [1, 6] (.cond (.t 6)
  (.seq (.ops [.op (some 2) (.mov (.k (.str []))),
    .op (some 3) (.mov (.k (.int .i64 1)))])
   (.keep [2, 3] (.ret)))
  (.skip))))
 (.keep [1] (.seq (.ops [.op (some 7) (.loadN 14 (.t 1)),
   .call (some 8) 40 [.t 7],
   .op (some 2) (.mov (.t 8)),
   .op (some 3) (.mov (.k (.int .i64 0)))])
 (.keep [2, 3] (.ret))))))
theorem k_c_sStmtText_fits : fitsF Tryz.prog 19 ⟨9, k_c_sStmtText, [.t 2, .t 3]⟩ = true := by kernel_rfl
theorem c_sStmtText {s : GStmt} (hs0 : s.Set.Nodes.length ≤ 1048576) (hs1 : ∀ x ∈ s.Set.Nodes, x.V.T.length ≤ 1048576) (hw0 : s.Where.Nodes.length ≤ 1048576) (hw1 : ∀ x ∈ s.Where.Nodes, x.V.T.length ≤ 1048576) (hr0 : s.Row.N.T.length ≤ 1048576) (hr1 : s.Row.Name.T.length ≤ 1048576) : Con Tryz.prog noMv 19 [s.av] [] (fun r h => r = .tup [str (stTF s).1, int (stTF s).2] ∧ h = []) := by
 refine con_of2 k_c_sStmtText_fits rfl fun C hP hmv => ?_
 unfold k_c_sStmtText
 refine cx_seq (cx_ops ?_)
 refine ax_e (e_box rfl rfl (by decide) rfl rfl rfl) ?_
 refine ax_q (q_mov rfl) ?_
 refine ax_q (q_mov rfl) ?_
 refine ax_nil (cx_keep rfl rfl (cx_seq (cx_seq (cx_ops ?_))))
 refine ax_q (q_ldN rfl rfl rfl) ?_
 refine ax_call rfl (vc_pure0 (c_sStmtOK (s := s) ?_ ?_ ?_ ?_ ?_ ?_) hP rfl rfl ?_)
 ·
  assumption
 ·
  assumption
 ·
  assumption
 ·
  assumption
 ·
  assumption
 ·
  assumption
 refine ax_q (q_not rfl) ?_
 refine ax_nil (cx_keep rfl rfl ?_)
 refine cx_cond rfl (fun h0 => ?_) (fun h0 => ?_)
 ·
  have h0 := bT h0
  refine cx_seq (cx_ops ?_)
  refine ax_q (q_mov rfl) ?_
  refine ax_q (q_mov rfl) ?_
  refine ax_nil (cx_keep rfl rfl ?_)
  refine cx_ret (ret0 rfl rfl ?_)
  exact ⟨by rw [stT_f h0]; rfl, rfl⟩
 ·
  have h0 := bF h0
  refine cx_skip ?_
  refine cx_keep rfl rfl (cx_seq (cx_ops ?_))
  refine ax_q (q_ldN rfl rfl rfl) ?_
  refine ax_call rfl (vc_pure0 (c_l12Text (s := s) ?_) hP rfl rfl ?_)
  ·
   assumption
  refine ax_q (q_mov rfl) ?_
  refine ax_q (q_mov rfl) ?_
  refine ax_nil (cx_keep rfl rfl ?_)
  refine cx_ret (ret0 rfl rfl ?_)
  exact ⟨by rw [stT_t h0]; rfl, rfl⟩


/- slices.IndexFunc[[]string,string] -/
def k_c_IndexFunc_Str : XCode :=
 .seq (.ops [.op (some 4) (.mov (.k (.int .i64 0)))])
 (.keep [0, 1] (.seq (.seq (.ops [.op (some 6) (.mov (.t 0)),
   .op (some 7) (.lenS (.t 6)),
   .op (some 8) (.mov (.k (.int .i64 0)))])
  (.keep [0, 1, 7, 8] (.block 0 (.loop (.seq (.ops [.op (some 9) (.bin .lss (.t 8) (.t 7))])
   (.keep [0, 1, 7, 8, 9] (.seq (.cond (.t 9)
    (.skip)
    (.exit 0))
   (.keep [0, 1, 7, 8] (.seq (.block 1 (.seq (.ops [.op (some 10) (.mov (.t 8)),
     .op (some 5) (.mov (.t 10))])
    (.keep [0, 1, 5, 7, 8] (.seq (.ops [.op (some 11) (.mov (.t 1)),
     .op (some 12) (.mov (.t 0)),
     .op (some 13) (.mov (.t 5)),
     .op (some 14) (.iadr 1 (.t 12) (.t 13)),
     .op (some 15) (.load1 (.t 14)),
     .callv (some 16) (.t 11) [.t 15]])
    (.keep [0, 1, 5, 7, 8, 16] (.cond (.t 16)
    (.seq (.ops [.op (some 17) (.mov (.t 5)),
      .op (some 4) (.mov (.t 17))])
     (.keep [4] (.ret)))
    (.skip)))))))
   (.keep [0, 1, 7, 8] (.ops [.op (some 18) (.bin .add (.t 8) (.k (.int .i64 1))),
    .op (some 8) (.mov (.t 18))])))))))))))
 (.keep [] (.seq (.ops [.op (some 4) (.mov (.k (.int .i64 (-1))))])
 (.keep [4] (.ret))))))
theorem k_c_IndexFunc_Str_fits : fitsF Tryz.prog 89 ⟨19, k_c_IndexFunc_Str, [.t 4]⟩ = true := by kernel_rfl
theorem c_IndexFunc_Str {xs : List Str} {f : Nat} {ds : List D} (p : Str → Bool) (hw : xs.length ≤ 9223372036854775807) (hb : hasBody Tryz.prog f = true) (hf : ∀ s ∈ xs, Con Tryz.prog noMv f (str s :: ds.map AV.d) [] (fun r h => r = bool (p s) ∧ h = [])) : Con Tryz.prog noMv 89 [.d (.sl 1 (xs.map strRow)), .d (.fn (.func f) ds)] [] (fun r h => r = int (idxOf p xs 0) ∧ h = []) := by
 refine con_of2 k_c_IndexFunc_Str_fits rfl fun C hP hmv => ?_
 unfold k_c_IndexFunc_Str
 refine cx_seq (cx_ops ?_)
 refine ax_q (q_mov rfl) ?_
 refine ax_nil (cx_keep rfl rfl (cx_seq (cx_seq (cx_ops ?_))))
 refine ax_q (q_mov rfl) ?_
 refine ax_q (q_lenS_map rfl) ?_
 refine ax_q (q_mov rfl) ?_
 refine ax_nil (cx_keep rfl rfl (cx_block ?_))
 refine cx_loopU (fun n k => k ≤ xs.length ∧ n = xs.length - k ∧ ∀ i, i < k → ∀ x, xs[i]? = some x → p x = false) (fun k : Nat => [(8, int k)]) (fun _ => []) ⟨_, 0, ⟨by omega, rfl, fun i hi => by omega⟩, by repeat constructor⟩ ?_
 rintro n k ⟨hk, rfl, ht⟩
 refine cx_seq (cx_ops ?_)
 refine ax_q (q_ibin rfl rfl rfl) ?_
 refine ax_nil (cx_keep rfl rfl (cx_seq ?_))
 refine cx_cond rfl (fun h0 => ?_) (fun h0 => ?_)
 ·
  have h0 := dT h0
  have h0x : k < xs.length := by omega
  refine cx_skip ?_
  refine cx_keep rfl rfl (cx_seq (cx_block (cx_seq (cx_ops ?_))))
  refine ax_q (q_mov rfl) ?_
  refine ax_q (q_mov rfl) ?_
  refine ax_nil (cx_keep rfl rfl (cx_seq (cx_ops ?_)))
  refine ax_q (q_mov rfl) ?_
  refine ax_q (q_mov rfl) ?_
  refine ax_q (q_mov rfl) ?_
  refine ax_q (q_ix rfl rfl (mapAt h0x)) ?_
  first | refine ax_q (q_load1_ptr rfl rfl rfl) ?_ | refine ax_q (q_load1_ip rfl) ?_
  refine ax_callvD rfl (by rw [hP]; exact hb) rfl (vc_pure0 (hf _ (List.getElem_mem h0x)) hP (refs_cons rfl ds) rfl ?_)
  refine ax_nil (cx_keep rfl rfl ?_)
  refine cx_cond rfl (fun h1 => ?_) (fun h1 => ?_)
  ·
   skip
   refine cx_seq (cx_ops ?_)
   refine ax_q (q_mov rfl) ?_
   refine ax_q (q_mov rfl) ?_
   refine ax_nil (cx_keep rfl rfl ?_)
   refine cx_ret (ret0 rfl rfl ?_)
   exact ⟨by rw [idxOf_hit h0x ht h1]; rfl, rfl⟩
  ·
   skip
   refine cx_skip ?_
   refine cx_keep rfl rfl (cx_ops ?_)
   refine ax_qe (r' := int ((k + 1 : Nat) : Int)) (q_ibin rfl rfl rfl) (by rw [wi (by omega) (by omega)]; rfl) ?_
   refine ax_q (q_mov rfl) ?_
   refine ax_nil ?_
   exact ⟨_, k + 1, by omega, ⟨by omega, rfl, before_step h0x ht h1⟩, by repeat constructor⟩
 ·
  have h0 := dF h0
  have h0x : k = xs.length := by omega
  refine cx_exit rfl ?_
  refine cx_keep rfl rfl (cx_seq (cx_ops ?_))
  refine ax_q (q_mov rfl) ?_
  refine ax_nil (cx_keep rfl rfl ?_)
  refine cx_ret (ret0 rfl rfl ?_)
  exact ⟨by rw [idxOf_none (fun i hi => ht i (by omega))]; rfl, rfl⟩


/- slices.ContainsFunc[[]string,string] -/
def k_c_ContainsFunc_Str : XCode :=
 .seq (.ops [.op (some 4) (.mov (.k (.bool false)))])
 (.keep [0, 1] (.seq (.ops [.op (some 5) (.mov (.t 0)),
   .op (some 6) (.mov (.t 1)),
   .call (some 7) 89 [.t 5, .t 6],
   .op (some 8) (.bin .geq (.t 7) (.k (.int .i64 0))),
   .op (some 4) (.mov (.t 8))])
 (.keep [4] (.ret))))
theorem k_c_ContainsFunc_Str_fits : fitsF Tryz.prog 58 ⟨9, k_c_ContainsFunc_Str, [.t 4]⟩ = true := by kernel_rfl
theorem c_ContainsFunc_Str {xs : List Str} {f : Nat} {ds : List D} (p : Str → Bool) (hw : xs.length ≤ 9223372036854775807) (hb : hasBody Tryz.prog f = true) (hf : ∀ s ∈ xs, Con Tryz.prog noMv f (str s :: ds.map AV.d) [] (fun r h => r = bool (p s) ∧ h = [])) : Con Tryz.prog noMv 58 [.d (.sl 1 (xs.map strRow)), .d (.fn (.func f) ds)] [] (fun r h => r = bool (xs.any p) ∧ h = []) := by
 refine con_of2 k_c_ContainsFunc_Str_fits rfl fun C hP hmv => ?_
 unfold k_c_ContainsFunc_Str
 refine cx_seq (cx_ops ?_)
 refine ax_q (q_mov rfl) ?_
 refine ax_nil (cx_keep rfl rfl (cx_seq (cx_ops ?_)))
 refine ax_q (q_mov rfl) ?_
 refine ax_q (q_mov rfl) ?_
 refine ax_call rfl (vc_pure0 (c_IndexFunc_Str p hw hb hf) hP rfl rfl ?_)
 refine ax_qe (r' := bool (xs.any p)) (q_ibin rfl rfl rfl) (congrArg AM.bool any_idxOf) ?_
 refine ax_q (q_mov rfl) ?_
 refine ax_nil (cx_keep rfl rfl ?_)
 refine cx_ret (ret0 rfl rfl ?_)
 exact ⟨rfl, rfl⟩


/- loop.example/g00332/impl.isLong$1 -/
def k_c_isLong1 : XCode :=
 .seq (.ops [.op (some 2) (.mov (.k (.bool false)))])
 (.keep [0] (.seq (.ops [.op (some 3) (.mov (.t 0)),
   .op (some 4) (.lenT (.t 3)),
   .op (some 5) (.bin .gtr (.t 4) (.k (.int .i64 65536))),
   .op (some 2) (.mov (.t 5))])
 (.keep [2] (.ret))))
theorem k_c_isLong1_fits : fitsF Tryz.prog 59 ⟨6, k_c_isLong1, [.t 2]⟩ = true := by kernel_rfl
theorem c_isLong1 {t : Str} : Con Tryz.prog noMv 59 [str t] [] (fun r h => r = bool (decide ((t.length : Int) > 65536)) ∧ h = []) := by
 refine con_of2 k_c_isLong1_fits rfl fun C hP hmv => ?_
 unfold k_c_isLong1
 refine cx_seq (cx_ops ?_)
 refine ax_q (q_mov rfl) ?_
 refine ax_nil (cx_keep rfl rfl (cx_seq (cx_ops ?_)))
 refine ax_q (q_mov rfl) ?_
 refine ax_q (q_lenT rfl) ?_
 refine ax_q (q_ibin rfl rfl rfl) ?_
 refine ax_q (q_mov rfl) ?_
 refine ax_nil (cx_keep rfl rfl ?_)
 refine cx_ret (ret0 rfl rfl ?_)
 exact ⟨rfl, rfl⟩


/- loop.example/g00332/impl.isLong -/
def k_c_isLong : XCode :=
 .seq (.ops [.op (some 2) (.mov (.k (.bool false)))])
 (.keep [0] (.seq (.ops [.op (some 3) (.mov (.t 0)),
   .call (some 4) 58 [.t 3, .f 59],
   .op (some 2) (.mov (.t 4))])
 (.keep [2] (.ret))))
theorem k_c_isLong_fits : fitsF Tryz.prog 31 ⟨5, k_c_isLong, [.t 2]⟩ = true := by kernel_rfl
theorem c_isLong {t : Str} : Con Tryz.prog noMv 31 [.d (.sl 1 [strRow t])] [] (fun r h => r = bool (decide ((t.length : Int) > 65536)) ∧ h = []) := by
 refine con_of2 k_c_isLong_fits rfl fun C hP hmv => ?_
 unfold k_c_isLong
 refine cx_seq (cx_ops ?_)
 refine ax_q (q_mov rfl) ?_
 refine ax_nil (cx_keep rfl rfl (cx_seq (cx_ops ?_)))
 refine ax_q (q_mov rfl) ?_
 refine ax_call rfl (vc_pure0 (c_ContainsFunc_Str (xs := [t]) (ds := []) (fun t => decide ((t.length : Int) > 65536)) (by simp) (by kernel_rfl) (fun s hs => c_isLong1)) hP rfl rfl ?_)
 refine ax_q (q_mov rfl) ?_
 refine ax_nil (cx_keep rfl rfl ?_)
 refine cx_ret (ret0 rfl rfl ?_)
 exact ⟨by simp [mkRes, AM.bool], rfl⟩


/- loop.example/g00332/impl.isDigit -/
def k_c_isDigit : XCode :=
 .seq (.ops [.op (some 2) (.mov (.k (.bool false)))])
 (.keep [0] (.seq (.ops [.op (some 3) (.mov (.t 0)),
   .op (some 4) (.bin .geq (.t 3) (.k (.int .u8 48))),
   .op (some 5) (.mov (.t 4)),
   .andor 8 true 2 5 [.op (some 6) (.mov (.t 0)), .op (some 7) (.bin .leq (.t 6) (.k (.int .u8 57)))] (.t 7),
   .op (some 2) (.mov (.t 8))])
 (.keep [2] (.ret))))
theorem k_c_isDigit_fits : fitsF Tryz.prog 91 ⟨9, k_c_isDigit, [.t 2]⟩ = true := by kernel_rfl
theorem c_isDigit {b : UInt8} : Con Tryz.prog noMv 91 [.d (.int .u8 b.toNat)] [] (fun r h => r = bool (digB b) ∧ h = []) := by
 refine con_of2 k_c_isDigit_fits rfl fun C hP hmv => ?_
 unfold k_c_isDigit
 refine cx_seq (cx_ops ?_)
 refine ax_q (q_mov rfl) ?_
 refine ax_nil (cx_keep rfl rfl (cx_seq (cx_ops ?_)))
 refine ax_q (q_mov rfl) ?_
 refine ax_q (q_ibin rfl rfl rfl) ?_
 refine ax_q (q_mov rfl) ?_
 apply ax_and rfl rfl
 ·
  intro g
  have g := dT g
  refine ax_q (q_mov rfl) ?_
  refine ax_q (q_ibin rfl rfl rfl) ?_
  exact ax_nil ⟨rfl, by repeat constructor⟩
 refine ax_q (q_mov rfl) ?_
 refine ax_nil (cx_keep rfl rfl ?_)
 refine cx_ret (ret0 rfl rfl ?_)
 exact ⟨by rw [digB_eq]; rfl, rfl⟩


/- loop.example/g00332/impl.tokenAt -/
def k_c_tokenAt : XCode :=
 .seq (.ops [.op (some 2) (.mov (.k (.int .i64 0)))])
 (.keep [0] (.seq (.ops [.op (some 3) (.mov (.k (.int .i64 1)))])
 (.keep [0, 3] (.seq (.seq (.ops [.op (some 5) (.mov (.t 0)),
   .op (some 6) (.idxS (.t 5) (.k (.int .i64 0))),
   .op (some 4) (.mov (.t 6))])
  (.keep [0, 3, 4] (.block 0 (.seq (.ops [.op (some 8) (.mov (.t 4)),
    .call (some 9) 90 [.t 8],
    .op (some 7) (.mov (.t 9))])
  (.keep [0, 3, 4, 7] (.cond (.t 7)
   (.block 1 (.loop (.seq (.seq (.ops [.op (some 10) (.mov (.t 3)),
      .op (some 11) (.mov (.t 0)),
      .op (some 12) (.lenT (.t 11)),
      .op (some 13) (.bin .lss (.t 10) (.t 12)),
      .op (some 14) (.mov (.t 13)),
      .andor 25 true 4 14 [.op (some 15) (.mov (.t 0)), .op (some 16) (.mov (.t 3)), .op (some 17) (.idxS (.t 15) (.t 16)), .call (some 18) 90 [.t 17], .op (some 19) (.mov (.t 18)), .andor 24 false 9 19 [.op (some 20) (.mov (.t 0)), .op (some 21) (.mov (.t 3)), .op (some 22) (.idxS (.t 20) (.t 21)), .call (some 23) 91 [.t 22]] (.t 23)] (.t 24)])
     (.keep [0, 3, 25] (.cond (.t 25)
     (.skip)
     (.exit 1))))
    (.keep [0, 3] (.block 2 (.ops [.op (some 26) (.mov (.t 3)),
      .op (some 27) (.bin .add (.t 26) (.k (.int .i64 1))),
      .op (some 3) (.mov (.t 27))]))))))
   (.seq (.ops [.op (some 29) (.mov (.t 4)),
     .call (some 30) 91 [.t 29],
     .op (some 28) (.mov (.t 30))])
   (.keep [0, 3, 4, 28] (.cond (.t 28)
    (.block 3 (.loop (.seq (.seq (.ops [.op (some 31) (.mov (.t 3)),
       .op (some 32) (.mov (.t 0)),
       .op (some 33) (.lenT (.t 32)),
       .op (some 34) (.bin .lss (.t 31) (.t 33)),
       .op (some 35) (.mov (.t 34)),
       .andor 40 true 4 35 [.op (some 36) (.mov (.t 0)), .op (some 37) (.mov (.t 3)), .op (some 38) (.idxS (.t 36) (.t 37)), .call (some 39) 91 [.t 38]] (.t 39)])
      (.keep [0, 3, 40] (.cond (.t 40)
      (.skip)
      (.exit 3))))
     (.keep [0, 3] (.block 4 (.ops [.op (some 41) (.mov (.t 3)),
       .op (some 42) (.bin .add (.t 41) (.k (.int .i64 1))),
       .op (some 3) (.mov (.t 42))]))))))
    (.seq (.ops [.op (some 44) (.mov (.t 4)),
      .op (some 45) (.bin .eql (.t 44) (.k (.int .u8 39))),
      .op (some 43) (.mov (.t 45))])
    (.keep [0, 3, 43] (.cond (.t 43)
     (.seq (.block 5 (.loop (.seq (.seq (.ops [.op (some 46) (.mov (.t 3)),
         .op (some 47) (.mov (.t 0)),
         .op (some 48) (.lenT (.t 47)),
         .op (some 49) (.bin .lss (.t 46) (.t 48)),
         .op (some 50) (.mov (.t 49)),
         .andor 55 true 4 50 [.op (some 51) (.mov (.t 0)), .op (some 52) (.mov (.t 3)), .op (some 53) (.idxS (.t 51) (.t 52)), .call (some 54) 90 [.t 53]] (.t 54)])
       (.keep [0, 3, 55] (.cond (.t 55)
        (.skip)
        (.exit 5))))
       (.keep [0, 3] (.block 6 (.ops [.op (some 56) (.mov (.t 3)),
        .op (some 57) (.bin .add (.t 56) (.k (.int .i64 1))),
        .op (some 3) (.mov (.t 57))]))))))
     (.keep [0, 3] (.seq (.seq (.ops [.op (some 58) (.mov (.t 3)),
       .op (some 59) (.mov (.t 0)),
       .op (some 60) (.lenT (.t 59)),
       .op (some 61) (.bin .eql (.t 58) (.t 60)),
       .op (some 62) (.mov (.t 61)),
       .andor 67 false 4 62 [.op (some 63) (.mov (.t 0)), .op (some 64) (.mov (.t 3)), .op (some 65) (.idxS (.t 63) (.t 64)), .op (some 66) (.bin .neq (.t 65) (.k (.int .u8 39)))] (.t 66)])
      (.keep [3, 67] (.cond (.t 67)
      (.seq (.ops [.op (some 2) (.mov (.k (.int .i64 0)))])
       (.keep [2] (.ret)))
      (.skip))))
     (.keep [3] (.ops [.op (some 68) (.mov (.t 3)),
      .op (some 69) (.bin .add (.t 68) (.k (.int .i64 1))),
      .op (some 3) (.mov (.t 69))])))))
     (.seq (.ops [.op (some 71) (.mov (.t 0)),
       .op (some 72) (.slcT (.t 71) none (some (.k (.int .i64 1)))),
       .call (some 73) 92 [.k (.str [40, 41, 43, 45, 42, 47, 61, 60, 44]), .t 72],
       .op (some 74) (.not (.t 73)),
       .op (some 70) (.mov (.t 74))])
     (.keep [3, 70] (.cond (.t 70)
      (.seq (.ops [.op (some 2) (.mov (.k (.int .i64 0)))])
      (.keep [2] (.ret)))
      (.skip))))))))))))))))
 (.keep [3] (.seq (.ops [.op (some 75) (.mov (.t 3)),
   .op (some 2) (.mov (.t 75))])
 (.keep [2] (.ret))))))))
theorem k_c_tokenAt_fits : fitsF Tryz.prog 60 ⟨76, k_c_tokenAt, [.t 2]⟩ = true := by kernel_rfl
set_option maxHeartbeats 4000000 in
theorem c_tokenAt {t : Str} (h0 : 0 < t.length) (hl : t.length ≤ 65536) : Con Tryz.prog noMv 60 [str t] [] (fun r h => r = int (tokF t) ∧ h = []) := by
 refine con_of2 k_c_tokenAt_fits rfl fun C hP hmv => ?_
 unfold k_c_tokenAt
 have hp := h0
 obtain ⟨c, r, ht⟩ : ∃ c r, t = c :: r := List.exists_cons_of_length_pos hp
 have hr : t.drop 1 = r := by rw [ht]; rfl
 refine cx_seq (cx_ops ?_)
 refine ax_q (q_mov rfl) ?_
 refine ax_nil (cx_keep rfl rfl (cx_seq (cx_ops ?_)))
 refine ax_q (q_mov rfl) ?_
 refine ax_nil (cx_keep rfl rfl (cx_seq (cx_seq (cx_ops ?_))))
 refine ax_q (q_mov rfl) ?_
 refine ax_qe (r' := .d (.int .u8 (c.toNat : Int))) (q_idxN (n := 0) rfl rfl hp) (by simp [ht]) ?_
 refine ax_q (q_mov rfl) ?_
 refine ax_nil (cx_keep rfl rfl (cx_block (cx_seq (cx_ops ?_))))
 refine ax_q (q_mov rfl) ?_
 refine ax_call rfl (vc_pure0 (c_isLetter (b := c) ) hP rfl rfl ?_)
 refine ax_q (q_mov rfl) ?_
 refine ax_nil (cx_keep rfl rfl ?_)
 refine cx_cond rfl (fun h0 => ?_) (fun h0 => ?_)
 ·
  have h0 : letB c = true := h0
  refine cx_block ?_
  refine cx_wk (wk_le (st' := ⟨[(3, int 1), (0, str t)], []⟩) (by repeat constructor)) ?_
  refine cx_loopU (fun n m => m ≤ t.length ∧ n = t.length - m ∧ wn wordB (t.drop 1) + 1 = m + wn wordB (t.drop m)) (fun m : Nat => [(3, int m)]) (fun _ => []) ⟨_, 1, ⟨by omega, rfl, by omega⟩, by repeat constructor⟩ ?_
  rintro n m ⟨hm0, rfl, hw⟩
  refine cx_seq (cx_seq (cx_ops ?_))
  refine ax_q (q_mov rfl) ?_
  refine ax_q (q_mov rfl) ?_
  refine ax_q (q_lenT rfl) ?_
  refine ax_q (q_ibin rfl rfl rfl) ?_
  refine ax_q (q_mov rfl) ?_
  apply ax_and rfl rfl
  ·
   intro g
   have g := dT g
   have hm : m < t.length := by omega
   refine ax_q (q_mov rfl) ?_
   refine ax_q (q_mov rfl) ?_
   refine ax_qe (r' := .d (.int .u8 ((t.getD m 0).toNat : Int))) (q_idxN rfl rfl hm) (getD_get hm) ?_
   refine ax_call rfl (vc_pure0 (c_isLetter (b := t.getD m 0) ) hP rfl rfl ?_)
   refine ax_q (q_mov rfl) ?_
   apply ax_or rfl rfl
   ·
    intro g
    refine ax_q (q_mov rfl) ?_
    refine ax_q (q_mov rfl) ?_
    refine ax_qe (r' := .d (.int .u8 ((t.getD m 0).toNat : Int))) (q_idxN rfl rfl hm) (getD_get hm) ?_
    refine ax_call rfl (vc_pure0 (c_isDigit (b := t.getD m 0) ) hP rfl rfl ?_)
    exact ax_nil ⟨rfl, by repeat constructor⟩
   exact ax_nil ⟨rfl, by repeat constructor⟩
  refine ax_nil (cx_keep rfl rfl ?_)
  refine cx_cond rfl (fun h1 => ?_) (fun h1 => ?_)
  ·
   have h1 := (fun h => And.intro (dT (and_T h).1) ((fun h => (or_T h).imp id id) (and_T h).2)) h1
   have hm : m < t.length := by omega
   have hy : wordB (t.getD m 0) = true := word_yes h1.2
   refine cx_skip ?_
   refine cx_keep rfl rfl (cx_block (cx_ops ?_))
   refine ax_q (q_mov rfl) ?_
   refine ax_qe (r' := int ((m + 1 : Nat) : Int)) (q_ibin rfl rfl rfl) (by rw [wi (by omega) (by omega)]; rfl) ?_
   refine ax_q (q_mov rfl) ?_
   refine ax_nil ?_
   exact ⟨_, m + 1, by omega, ⟨by omega, rfl, by rw [hw, wn_yes hm hy]; omega⟩, by repeat constructor⟩
  ·
   have h1 := (fun h => (and_F h).imp dF (fun h => And.intro (id (or_F h).1) (id (or_F h).2))) h1
   rw [wn_noW h1, hr] at hw
   have hk : tokF t = m := by rw [ht, tok_1 h0]; omega
   refine cx_exit rfl ?_
   refine cx_keep rfl rfl (cx_seq (cx_ops ?_))
   refine ax_q (q_mov rfl) ?_
   refine ax_q (q_mov rfl) ?_
   refine ax_nil (cx_keep rfl rfl ?_)
   refine cx_ret (ret0 rfl rfl ?_)
   exact ⟨by rw [hk]; rfl, rfl⟩
 ·
  have h0 : letB c = false := h0
  refine cx_seq (cx_ops ?_)
  refine ax_q (q_mov rfl) ?_
  refine ax_call rfl (vc_pure0 (c_isDigit (b := c) ) hP rfl rfl ?_)
  refine ax_q (q_mov rfl) ?_
  refine ax_nil (cx_keep rfl rfl ?_)
  refine cx_cond rfl (fun h2 => ?_) (fun h2 => ?_)
  ·
   have h2 : digB c = true := h2
   refine cx_block ?_
   refine cx_wk (wk_le (st' := ⟨[(3, int 1), (0, str t)], []⟩) (by repeat constructor)) ?_
   refine cx_loopU (fun n m => m ≤ t.length ∧ n = t.length - m ∧ wn digB (t.drop 1) + 1 = m + wn digB (t.drop m)) (fun m : Nat => [(3, int m)]) (fun _ => []) ⟨_, 1, ⟨by omega, rfl, by omega⟩, by repeat constructor⟩ ?_
   rintro n m ⟨hm0, rfl, hw⟩
   refine cx_seq (cx_seq (cx_ops ?_))
   refine ax_q (q_mov rfl) ?_
   refine ax_q (q_mov rfl) ?_
   refine ax_q (q_lenT rfl) ?_
   refine ax_q (q_ibin rfl rfl rfl) ?_
   refine ax_q (q_mov rfl) ?_
   apply ax_and rfl rfl
   ·
    intro g
    have g := dT g
    have hm : m < t.length := by omega
    refine ax_q (q_mov rfl) ?_
    refine ax_q (q_mov rfl) ?_
    refine ax_qe (r' := .d (.int .u8 ((t.getD m 0).toNat : Int))) (q_idxN rfl rfl hm) (getD_get hm) ?_
    refine ax_call rfl (vc_pure0 (c_isDigit (b := t.getD m 0) ) hP rfl rfl ?_)
    exact ax_nil ⟨rfl, by repeat constructor⟩
   refine ax_nil (cx_keep rfl rfl ?_)
   refine cx_cond rfl (fun h3 => ?_) (fun h3 => ?_)
   ·
    have h3 := (fun h => And.intro (dT (and_T h).1) (id (and_T h).2)) h3
    have hm : m < t.length := by omega
    have hy : digB (t.getD m 0) = true := h3.2
    refine cx_skip ?_
    refine cx_keep rfl rfl (cx_block (cx_ops ?_))
    refine ax_q (q_mov rfl) ?_
    refine ax_qe (r' := int ((m + 1 : Nat) : Int)) (q_ibin rfl rfl rfl) (by rw [wi (by omega) (by omega)]; rfl) ?_
    refine ax_q (q_mov rfl) ?_
    refine ax_nil ?_
    exact ⟨_, m + 1, by omega, ⟨by omega, rfl, by rw [hw, wn_yes hm hy]; omega⟩, by repeat constructor⟩
   ·
    have h3 := (fun h => (and_F h).imp dF id) h3
    rw [wn_noI (p := digB) h3, hr] at hw
    have hk : tokF t = m := by rw [ht, tok_2 h0 h2]; omega
    refine cx_exit rfl ?_
    refine cx_keep rfl rfl (cx_seq (cx_ops ?_))
    refine ax_q (q_mov rfl) ?_
    refine ax_q (q_mov rfl) ?_
    refine ax_nil (cx_keep rfl rfl ?_)
    refine cx_ret (ret0 rfl rfl ?_)
    exact ⟨by rw [hk]; rfl, rfl⟩
  ·
   have h2 : digB c = false := h2
   refine cx_seq (cx_ops ?_)
   refine ax_q (q_mov rfl) ?_
   refine ax_q (q_ibin rfl rfl rfl) ?_
   refine ax_q (q_mov rfl) ?_
   refine ax_nil (cx_keep rfl rfl ?_)
   refine cx_cond rfl (fun h4 => ?_) (fun h4 => ?_)
   ·
    have h4 := dT h4
    have hc : c = 39 := (u8_int (n := 39) (by decide)).1 h4
    refine cx_seq (cx_block ?_)
    refine cx_wk (wk_le (st' := ⟨[(3, int 1), (0, str t)], []⟩) (by repeat constructor)) ?_
    refine cx_loopU (fun n m => m ≤ t.length ∧ n = t.length - m ∧ wn letB (t.drop 1) + 1 = m + wn letB (t.drop m)) (fun m : Nat => [(3, int m)]) (fun _ => []) ⟨_, 1, ⟨by omega, rfl, by omega⟩, by repeat constructor⟩ ?_
    rintro n m ⟨hm0, rfl, hw⟩
    refine cx_seq (cx_seq (cx_ops ?_))
    refine ax_q (q_mov rfl) ?_
    refine ax_q (q_mov rfl) ?_
    refine ax_q (q_lenT rfl) ?_
    refine ax_q (q_ibin rfl rfl rfl) ?_
    refine ax_q (q_mov rfl) ?_
    apply ax_and rfl rfl
    ·
     intro g
     have g := dT g
     have hm : m < t.length := by omega
     refine ax_q (q_mov rfl) ?_
     refine ax_q (q_mov rfl) ?_
     refine ax_qe (r' := .d (.int .u8 ((t.getD m 0).toNat : Int))) (q_idxN rfl rfl hm) (getD_get hm) ?_
     refine ax_call rfl (vc_pure0 (c_isLetter (b := t.getD m 0) ) hP rfl rfl ?_)
     exact ax_nil ⟨rfl, by repeat constructor⟩
    refine ax_nil (cx_keep rfl rfl ?_)
    refine cx_cond rfl (fun h5 => ?_) (fun h5 => ?_)
    ·
     have h5 := (fun h => And.intro (dT (and_T h).1) (id (and_T h).2)) h5
     have hm : m < t.length := by omega
     have hy : letB (t.getD m 0) = true := h5.2
     refine cx_skip ?_
     refine cx_keep rfl rfl (cx_block (cx_ops ?_))
     refine ax_q (q_mov rfl) ?_
     refine ax_qe (r' := int ((m + 1 : Nat) : Int)) (q_ibin rfl rfl rfl) (by rw [wi (by omega) (by omega)]; rfl) ?_
     refine ax_q (q_mov rfl) ?_
     refine ax_nil ?_
     exact ⟨_, m + 1, by omega, ⟨by omega, rfl, by rw [hw, wn_yes hm hy]; omega⟩, by repeat constructor⟩
    ·
     have h5 := (fun h => (and_F h).imp dF id) h5
     rw [wn_noI (p := letB) h5, hr] at hw
     refine cx_exit rfl ?_
     refine cx_keep rfl rfl (cx_seq (cx_seq (cx_ops ?_)))
     refine ax_q (q_mov rfl) ?_
     refine ax_q (q_mov rfl) ?_
     refine ax_q (q_lenT rfl) ?_
     refine ax_q (q_ibin rfl rfl rfl) ?_
     refine ax_q (q_mov rfl) ?_
     apply ax_or rfl rfl
     ·
      intro g
      have g := dF g
      have hm : m < t.length := by omega
      refine ax_q (q_mov rfl) ?_
      refine ax_q (q_mov rfl) ?_
      refine ax_qe (r' := .d (.int .u8 ((t.getD m 0).toNat : Int))) (q_idxN rfl rfl hm) (getD_get hm) ?_
      refine ax_q (q_ibin rfl rfl rfl) ?_
      exact ax_nil ⟨rfl, by repeat constructor⟩
     refine ax_nil (cx_keep rfl rfl ?_)
     refine cx_cond rfl (fun h6 => ?_) (fun h6 => ?_)
     ·
      have h6 := (fun h => (or_T h).imp dT nT) h6
      have hq : ¬ r[wn letB r]? = some 39 := q39_no ht (by omega) h6
      refine cx_seq (cx_ops ?_)
      refine ax_q (q_mov rfl) ?_
      refine ax_nil (cx_keep rfl rfl ?_)
      refine cx_ret (ret0 rfl rfl ?_)
      exact ⟨by rw [ht, tok_4 h0 h2 hc hq]; rfl, rfl⟩
     ·
      have h6 := (fun h => And.intro (dF (or_F h).1) (nF (or_F h).2)) h6
      have hq : r[wn letB r]? = some 39 := q39_yes ht (by omega) (by omega) h6.2
      have hk : tokF t = m + 1 := by rw [ht, tok_3 h0 h2 hc hq]; omega
      refine cx_skip ?_
      refine cx_keep rfl rfl (cx_ops ?_)
      refine ax_q (q_mov rfl) ?_
      refine ax_qe (r' := int ((m + 1 : Nat) : Int)) (q_ibin rfl rfl rfl) (by rw [wi (by omega) (by omega)]; rfl) ?_
      refine ax_q (q_mov rfl) ?_
      refine ax_nil (cx_keep rfl rfl (cx_seq (cx_ops ?_)))
      refine ax_q (q_mov rfl) ?_
      refine ax_q (q_mov rfl) ?_
      refine ax_nil (cx_keep rfl rfl ?_)
      refine cx_ret (ret0 rfl rfl ?_)
      exact ⟨by rw [hk]; rfl, rfl⟩
   ·
    have h4 := dF h4
    have hc : ¬ c = 39 := fun e => h4 ((u8_int (n := 39) (by decide)).2 e)
    refine cx_seq (cx_ops ?_)
    refine ax_q (q_mov rfl) ?_
    refine ax_qe (r' := str [c]) (q_slcT rfl rfl rfl (by omega) (by omega) (by omega)) (by simp [ht]) ?_
    refine ax_call rfl (vc_pure0 (c_Contains1 (s := [40, 41, 43, 45, 42, 47, 61, 60, 44]) (c := c) ) hP rfl rfl ?_)
    rw [idxB]
    refine ax_q (q_not rfl) ?_
    refine ax_q (q_mov rfl) ?_
    refine ax_nil (cx_keep rfl rfl ?_)
    refine cx_cond rfl (fun h7 => ?_) (fun h7 => ?_)
    ·
     have h7 := bT h7
     refine cx_seq (cx_ops ?_)
     refine ax_q (q_mov rfl) ?_
     refine ax_nil (cx_keep rfl rfl ?_)
     refine cx_ret (ret0 rfl rfl ?_)
     exact ⟨by rw [ht, tok_6 h0 h2 hc h7]; rfl, rfl⟩
    ·
     have h7 := bF h7
     have hk : tokF t = 1 := by rw [ht, tok_5 h0 h2 hc h7]
     refine cx_skip ?_
     refine cx_keep rfl rfl (cx_seq (cx_ops ?_))
     refine ax_q (q_mov rfl) ?_
     refine ax_q (q_mov rfl) ?_
     refine ax_nil (cx_keep rfl rfl ?_)
     refine cx_ret (ret0 rfl rfl ?_)
     exact ⟨by rw [hk]; rfl, rfl⟩


/- loop.example/g00332/impl.lex -/
def k_c_lex : XCode :=
 .seq (.ops [.op (some 2) (.mov (.k (.nils 1))),
   .op (some 3) (.mov (.k (.int .i64 0)))])
 (.keep [0] (.seq (.ops [.op (some 6) (.bslice 1 []),
   .op (some 4) (.mov (.t 6))])
 (.keep [0, 4] (.seq (.block 0 (.loop (.seq (.seq (.ops [.op (some 7) (.mov (.t 0)),
     .op (some 8) (.bin .neq (.t 7) (.k (.str [])))])
   (.keep [0, 4, 8] (.cond (.t 8)
    (.skip)
    (.exit 0))))
   (.keep [0, 4] (.block 1 (.seq (.seq (.ops [.op (some 9) (.mov (.t 0)),
     .op (some 10) (.idxS (.t 9) (.k (.int .i64 0))),
     .op (some 11) (.bin .eql (.t 10) (.k (.int .u8 32)))])
    (.keep [0, 4, 11] (.cond (.t 11)
    (.seq (.ops [.op (some 12) (.mov (.t 0)),
      .op (some 13) (.slcT (.t 12) (some (.k (.int .i64 1))) none),
      .op (some 0) (.mov (.t 13))])
     (.keep [0, 4] (.exit 1)))
    (.skip))))
   (.keep [0, 4] (.seq (.ops [.op (some 14) (.mov (.t 0)),
     .call (some 15) 60 [.t 14],
     .op (some 5) (.mov (.t 15))])
   (.keep [0, 4, 5] (.seq (.block 2 (.seq (.ops [.op (some 17) (.mov (.t 5)),
      .op (some 18) (.bin .eql (.t 17) (.k (.int .i64 0))),
      .op (some 16) (.mov (.t 18))])
    (.keep [0, 4, 5, 16] (.cond (.t 16)
     (.seq (.ops [.op (some 2) (.mov (.k (.nils 1))),
       .op (some 3) (.mov (.k (.int .i64 3)))])
     (.keep [2, 3] (.ret)))
     (.seq (.ops [.op (some 20) (.mov (.t 4)),
       .op (some 21) (.lenS (.t 20)),
       .op (some 22) (.bin .eql (.t 21) (.k (.int .i64 500))),
       .op (some 19) (.mov (.t 22))])
     (.keep [0, 4, 5, 19] (.cond (.t 19)
      (.seq (.ops [.op (some 2) (.mov (.k (.nils 1))),
        .op (some 3) (.mov (.k (.int .i64 6)))])
      (.keep [2, 3] (.ret)))
      (.skip))))))))
   (.keep [0, 4, 5] (.drawE [[], [], [], [1, 2], [1, 2, 3], [0, 1, 2, 3, 4], [], [], [6, 7], [0, 1, 2, 3, 4, 5], [0, 1, 2, 3, 4, 5, 6, 7, 8, 9]] [.op (some 23) (.mov (.t 4)),
    .op (some 24) (.mov (.t 0)),
    .op (some 25) (.mov (.t 5)),
    .op (some 26) (.slcT (.t 24) none (some (.t 25))),
    .op (some 27) (.bslice 1 [.t 26]),
    .op (some 28) (.app 1 16 [.str []] (.t 23) (.t 27)),
    .op (some 29) (.mov (.t 0)),
    .op (some 30) (.mov (.t 5)),
    .op (some 31) (.slcT (.t 29) (some (.t 30)) none),
    .op (some 4) (.mov (.t 28))]
    [.op (some 0) (.mov (.t 31))]))))))))))))
 (.keep [4] (.seq (.ops [.op (some 32) (.mov (.t 4)),
   .op (some 2) (.mov (.t 32)),
   .op (some 3) (.mov (.k (.int .i64 0)))])
 (.keep [2, 3] (.ret))))))))
theorem k_c_lex_fits : fitsF Tryz.prog 32 ⟨33, k_c_lex, [.t 2, .t 3]⟩ = true := by kernel_rfl
set_option maxHeartbeats 4000000 in
theorem c_lex {t : Str} {ts : List Str} (hl : t.length ≤ 65536) (h : lexF (t.length + 1) t = some ts) (hn : ts.length ≤ 500) : Con Tryz.prog noMv 32 [str t] [] (fun r h => r = .tup [.osl 0 1 0 ts.length, int 0] ∧ h = [(0, .rows 1 (ts.map strRow))]) := by
 refine con_of2 k_c_lex_fits rfl fun C hP hmv => ?_
 unfold k_c_lex
 refine cx_seq (cx_ops ?_)
 refine ax_q (q_mov rfl) ?_
 refine ax_q (q_mov rfl) ?_
 refine ax_nil (cx_keep rfl rfl (cx_seq (cx_ops ?_)))
 refine ax_e (e_bslice rfl (by decide) rfl rfl) ?_
 refine ax_q (q_mov rfl) ?_
 refine ax_nil (cx_keep rfl rfl (cx_seq (cx_block ?_)))
 refine cx_loopU (fun n (p : Str × List Str) => n = p.1.length ∧ p.1.length ≤ 65536 ∧ ∃ f rest, lexF f p.1 = some rest ∧ p.2 ++ rest = ts) (fun p => [(0, str p.1), (4, .osl 6 1 0 p.2.length)]) (fun p => [(6, .rows 1 (p.2.map strRow))]) ⟨_, (t, []), ⟨rfl, hl, _, ts, h, rfl⟩, by repeat constructor⟩ ?_
 rintro n ⟨u, out⟩ ⟨rfl, hul, f, rest, hf, hts⟩
 simp only at hul hf hts ⊢
 refine cx_seq (cx_seq (cx_ops ?_))
 refine ax_q (q_mov rfl) ?_
 refine ax_q (q_sbin rfl rfl rfl) ?_
 refine ax_nil (cx_keep rfl rfl ?_)
 refine cx_cond rfl (fun h0 => ?_) (fun h0 => ?_)
 ·
  have h0 := nT h0
  obtain ⟨c, r, hu⟩ : ∃ c r, u = c :: r := List.exists_cons_of_ne_nil h0
  obtain ⟨g, rfl⟩ := lexF_pos hf
  have hp : 0 < u.length := by rw [hu, List.length_cons]; omega
  rw [hu] at hf
  refine cx_skip ?_
  refine cx_keep rfl rfl (cx_block (cx_seq (cx_seq (cx_ops ?_))))
  refine ax_q (q_mov rfl) ?_
  refine ax_qe (r' := .d (.int .u8 (c.toNat : Int))) (q_idxN (n := 0) rfl rfl hp) (by simp [hu]) ?_
  refine ax_q (q_ibin rfl rfl rfl) ?_
  refine ax_nil (cx_keep rfl rfl ?_)
  refine cx_cond rfl (fun h1 => ?_) (fun h1 => ?_)
  ·
   have h1 := dT h1
   have hc : c = 32 := (u8_int (n := 32) (by decide)).1 h1
   refine cx_seq (cx_ops ?_)
   refine ax_q (q_mov rfl) ?_
   refine ax_qe (r' := str r) (q_slcT rfl rfl rfl (by omega) (by omega) (by omega)) (by simp [hu]) ?_
   refine ax_q (q_mov rfl) ?_
   refine ax_nil (cx_keep rfl rfl ?_)
   refine cx_exit rfl ?_
   exact ⟨_, (r, out), by simp only; rw [hu, List.length_cons]; omega, ⟨rfl, by simp only; rw [hu, List.length_cons] at hul; omega, g, rest, lexF_sp hf hc, hts⟩, by repeat constructor⟩
  ·
   have h1 := dF h1
   have hc : ¬ c = 32 := fun e => h1 ((u8_int (n := 32) (by decide)).2 e)
   obtain ⟨hk0, rest', hr', hrest⟩ := lexF_tok hf hc
   rw [← hu] at hk0 hr' hrest
   have hkl := tokF_le (t := u)
   have hlen : out.length + 1 + rest'.length = ts.length := by rw [← hts, hrest, List.length_append, List.length_cons]; omega
   refine cx_skip ?_
   refine cx_keep rfl rfl (cx_seq (cx_ops ?_))
   refine ax_q (q_mov rfl) ?_
   refine ax_call rfl (vc_pure0 (c_tokenAt (t := u) ?_ ?_) hP rfl rfl ?_)
   ·
    assumption
   ·
    assumption
   refine ax_q (q_mov rfl) ?_
   refine ax_nil (cx_keep rfl rfl (cx_seq (cx_block (cx_seq (cx_ops ?_)))))
   refine ax_q (q_mov rfl) ?_
   refine ax_q (q_ibin rfl rfl rfl) ?_
   refine ax_q (q_mov rfl) ?_
   refine ax_nil (cx_keep rfl rfl ?_)
   refine cx_cond rfl (fun h2 => ?_) (fun h2 => ?_)
   ·
    have h2 := dT h2
    exfalso; omega
   ·
    have h2 := dF h2
    refine cx_seq (cx_ops ?_)
    refine ax_q (q_mov rfl) ?_
    first | refine ax_q (q_lenS_map rfl) ?_ | refine ax_q (q_lenS_osl rfl) ?_
    refine ax_q (q_ibin rfl rfl rfl) ?_
    refine ax_q (q_mov rfl) ?_
    refine ax_nil (cx_keep rfl rfl ?_)
    refine cx_cond rfl (fun h3 => ?_) (fun h3 => ?_)
    ·
     have h3 := dT h3
     exfalso; omega
    ·
     have h3 := dF h3
     refine cx_skip ?_
     refine cx_keep rfl rfl ?_
     refine cx_drawW 5 28 9 4 5001 (Nat.beq 6) (nrA 6) [] ([(6, .rows 1 ((out ++ [u.take (tokF u)]).map strRow))]) [[4], [0], [5], [24, 25], [26], [23, 27], [0], [5], [29, 30], [28]] [[], [], [], [], [], [6], [6], [6], [6], [6]] rfl rfl rfl ?_
     first | refine ⟨_, .inr ⟨rfl, _, rfl, .inl rfl, loc_q (q_mov rfl)⟩, ?_⟩
     first | refine ⟨_, .inr ⟨rfl, _, rfl, .inl rfl, loc_q (q_mov rfl)⟩, ?_⟩
     first | refine ⟨_, .inr ⟨rfl, _, rfl, .inl rfl, loc_q (q_mov rfl)⟩, ?_⟩
     first | refine ⟨_, .inr ⟨rfl, _, rfl, .inl rfl, loc_qe (r' := str (u.take (tokF u))) (q_slcT rfl rfl rfl (by omega) (by omega) (by omega)) (sT_take (by omega))⟩, ?_⟩
     first | refine ⟨_, .inr ⟨rfl, _, rfl, .inl rfl, loc_bslice rfl⟩, ?_⟩
     refine ⟨⟨28, _, []⟩, .inl ⟨rfl, rfl, rfl, locl_app (n' := (out ++ [u.take (tokF u)]).length) (rs' := (out ++ [u.take (tokF u)]).map strRow) rfl rfl (by simp) rfl (fun _ _ h => src_osl (h _ _ rfl) (by simp)) (.inl (by decide)) (hbnd (by omega) (by simp) (by decide)) (by simp) (app1 rfl)⟩, ?_⟩
     first | refine ⟨_, .inr ⟨rfl, _, rfl, .inr ⟨rfl, rfl, .inr rfl, rfl, rfl⟩, loc_q (q_mov rfl)⟩, ?_⟩
     first | refine ⟨_, .inr ⟨rfl, _, rfl, .inr ⟨rfl, rfl, .inr rfl, rfl, rfl⟩, loc_q (q_mov rfl)⟩, ?_⟩
     first | refine ⟨_, .inr ⟨rfl, _, rfl, .inr ⟨rfl, rfl, .inr rfl, rfl, rfl⟩, loc_qe (r' := str (u.drop (tokF u))) (q_slcT rfl rfl rfl (by omega) (by omega) (by omega)) (sT_drop (by omega))⟩, ?_⟩
     first | refine ⟨_, .inr ⟨rfl, _, rfl, .inr ⟨rfl, rfl, .inl rfl, rfl, rfl⟩, loc_q (q_mov rfl)⟩, ?_⟩
     refine ⟨rfl, ?_⟩
     refine ax_q (q_mov rfl) ?_
     refine ax_nil ?_
     exact ⟨_, (u.drop (tokF u), out ++ [u.take (tokF u)]), by simp only; rw [List.length_drop]; omega, ⟨rfl, by simp only; rw [List.length_drop]; omega, g, rest', hr', by simp only; rw [← hts, hrest, List.append_assoc]; rfl⟩, by repeat constructor⟩
 ·
  have h0 := nF h0
  obtain ⟨g, rfl⟩ := lexF_pos hf
  rw [h0] at hf
  obtain rfl := lexF_nil hf
  rw [List.append_nil] at hts
  subst hts
  refine cx_exit rfl ?_
  refine cx_keep rfl rfl (cx_seq (cx_ops ?_))
  refine ax_q (q_mov rfl) ?_
  refine ax_q (q_mov rfl) ?_
  refine ax_q (q_mov rfl) ?_
  refine ax_nil (cx_keep rfl rfl ?_)
  refine cx_ret (retN (fun _ => 0) [6] rfl rfl rfl rfl rfl ?_)
  exact ⟨rfl, rfl⟩


/- loop.example/g00332/impl.LexSql -/
def k_c_LexSql : XCode :=
 .seq (.ops [.op (some 2) (.mov (.k (.nils 1))),
   .op (some 3) (.mov (.k (.int .i64 0)))])
 (.keep [0] (.seq (.seq (.ops [.op (some 4) (.mov (.t 0)),
   .op (some 5) (.bslice 1 [.t 4]),
   .call (some 6) 31 [.t 5]])
  (.keep [0, 6] (.cond (.t 6)
  (.seq (.ops [.op (some 2) (.mov (.k (.nils 1))),
    .op (some 3) (.mov (.k (.int .i64 2)))])
   (.keep [2, 3] (.ret)))
  (.skip))))
 (.keep [0] (.seq (.ops [.op (some 7) (.mov (.t 0)),
   .call (some 8) 32 [.t 7],
   .op (some 9) (.ext (.t 8) 0),
   .op (some 10) (.ext (.t 8) 1),
   .op (some 2) (.mov (.t 9)),
   .op (some 3) (.mov (.t 10))])
 (.keep [2, 3] (.ret))))))
theorem k_c_LexSql_fits : fitsF Tryz.prog 10 ⟨11, k_c_LexSql, [.t 2, .t 3]⟩ = true := by kernel_rfl
theorem c_LexSql {t : Str} {ts : List Str} (hl : t.length ≤ 65536) (h : lexF (t.length + 1) t = some ts) (hn : ts.length ≤ 500) : Con Tryz.prog noMv 10 [str t] [] (fun r h => r = .tup [.osl 0 1 0 ts.length, int 0] ∧ h = [(0, .rows 1 (ts.map strRow))]) := by
 refine con_of2 k_c_LexSql_fits rfl fun C hP hmv => ?_
 unfold k_c_LexSql
 refine cx_seq (cx_ops ?_)
 refine ax_q (q_mov rfl) ?_
 refine ax_q (q_mov rfl) ?_
 refine ax_nil (cx_keep rfl rfl (cx_seq (cx_seq (cx_ops ?_))))
 refine ax_q (q_mov rfl) ?_
 refine ax_e (e_bsliceD (rows := [strRow t]) rfl) ?_
 refine ax_call rfl (vc_pure0 (c_isLong (t := t) ) hP rfl rfl ?_)
 refine ax_nil (cx_keep rfl rfl ?_)
 refine cx_cond rfl (fun h0 => ?_) (fun h0 => ?_)
 ·
  skip
  exfalso
  have := of_decide_eq_true h0
  omega
 ·
  skip
  refine cx_skip ?_
  refine cx_keep rfl rfl (cx_seq (cx_ops ?_))
  refine ax_q (q_mov rfl) ?_
  refine ax_call rfl (vc_pure (c_lex (t := t) (ts := ts) ?_ ?_ ?_) hP rfl ?_)
  ·
   assumption
  ·
   assumption
  ·
   assumption
  rintro r h ⟨rfl, rfl⟩
  refine ⟨fun i => 8 + 200 * i, [0], ⟨rfl, rfl, rfl, rfl, rfl, (by first | exact (fun h => absurd h Bool.false_ne_true) | exact (fun _ => ⟨rfl, (noisl_of (by repeat (first | exact trivial | refine ⟨noisl_map (fun _ => rfl), ?_⟩ | refine ⟨?_, ?_⟩)))⟩))⟩, ?_⟩
  skip
  refine ax_q (q_ext rfl rfl) ?_
  refine ax_q (q_ext rfl rfl) ?_
  refine ax_q (q_mov rfl) ?_
  refine ax_q (q_mov rfl) ?_
  refine ax_nil (cx_keep rfl rfl ?_)
  refine cx_ret (retN (fun _ => 0) [8] rfl rfl rfl rfl rfl ?_)
  exact ⟨rfl, rfl⟩


/- slices.Equal[[]string,string] -/
def k_c_Equal_Str : XCode :=
 .seq (.ops [.op (some 4) (.mov (.k (.bool false)))])
 (.keep [0, 1] (.seq (.seq (.ops [.op (some 6) (.mov (.t 0)),
   .op (some 7) (.lenS (.t 6)),
   .op (some 8) (.mov (.t 1)),
   .op (some 9) (.lenS (.t 8)),
   .op (some 10) (.bin .neq (.t 7) (.t 9))])
  (.keep [0, 1, 10] (.cond (.t 10)
  (.seq (.ops [.op (some 4) (.mov (.k (.bool false)))])
   (.keep [4] (.ret)))
  (.skip))))
 (.keep [0, 1] (.seq (.seq (.ops [.op (some 11) (.mov (.t 0)),
   .op (some 12) (.lenS (.t 11)),
   .op (some 13) (.mov (.k (.int .i64 0)))])
  (.keep [0, 1, 12, 13] (.block 0 (.loop (.seq (.ops [.op (some 14) (.bin .lss (.t 13) (.t 12))])
   (.keep [0, 1, 12, 13, 14] (.seq (.cond (.t 14)
    (.skip)
    (.exit 0))
   (.keep [0, 1, 12, 13] (.seq (.block 1 (.seq (.ops [.op (some 15) (.mov (.t 13)),
     .op (some 5) (.mov (.t 15))])
    (.keep [0, 1, 5, 12, 13] (.seq (.draw [.op (some 16) (.mov (.t 0)),
     .op (some 17) (.mov (.t 5)),
     .op (some 18) (.iadr 1 (.t 16) (.t 17)),
     .op (some 19) (.load1 (.t 18)),
     .op (some 20) (.mov (.t 1)),
     .op (some 21) (.mov (.t 5)),
     .op (some 22) (.iadr 1 (.t 20) (.t 21)),
     .op (some 23) (.load1 (.t 22)),
     .op (some 24) (.bin .neq (.t 19) (.t 23))])
    (.keep [0, 1, 12, 13, 24] (.cond (.t 24)
    (.seq (.ops [.op (some 4) (.mov (.k (.bool false)))])
     (.keep [4] (.ret)))
    (.skip)))))))
   (.keep [0, 1, 12, 13] (.ops [.op (some 25) (.bin .add (.t 13) (.k (.int .i64 1))),
    .op (some 13) (.mov (.t 25))])))))))))))
 (.keep [] (.seq (.ops [.op (some 4) (.mov (.k (.bool true)))])
 (.keep [4] (.ret))))))))
theorem k_c_Equal_Str_fits : fitsF Tryz.prog 113 ⟨26, k_c_Equal_Str, [.t 4]⟩ = true := by kernel_rfl
theorem c_Equal_Str {xs ys : List Str} (hx : xs.length ≤ 1048576) (hy : ys.length ≤ 1048576) : Con Tryz.prog noMv 113 [.d (.sl 1 (xs.map strRow)), .d (.sl 1 (ys.map strRow))] [] (fun r h => r = bool (decide (xs = ys)) ∧ h = []) := by
 refine con_of2 k_c_Equal_Str_fits rfl fun C hP hmv => ?_
 unfold k_c_Equal_Str
 refine cx_seq (cx_ops ?_)
 refine ax_q (q_mov rfl) ?_
 refine ax_nil (cx_keep rfl rfl (cx_seq (cx_seq (cx_ops ?_))))
 refine ax_q (q_mov rfl) ?_
 refine ax_q (q_lenS_map rfl) ?_
 refine ax_q (q_mov rfl) ?_
 refine ax_q (q_lenS_map rfl) ?_
 refine ax_q (q_ibin rfl rfl rfl) ?_
 refine ax_nil (cx_keep rfl rfl ?_)
 refine cx_cond rfl (fun h0 => ?_) (fun h0 => ?_)
 ·
  have h0 := nT h0
  refine cx_seq (cx_ops ?_)
  refine ax_q (q_mov rfl) ?_
  refine ax_nil (cx_keep rfl rfl ?_)
  refine cx_ret (ret0 rfl rfl ?_)
  exact ⟨by rw [decide_eq_false (fun e => by subst e; exact h0 rfl)]; rfl, rfl⟩
 ·
  have h0 := nF h0
  have hlen : xs.length = ys.length := by omega
  refine cx_skip ?_
  refine cx_keep rfl rfl (cx_seq (cx_seq (cx_ops ?_)))
  refine ax_q (q_mov rfl) ?_
  refine ax_q (q_lenS_map rfl) ?_
  refine ax_q (q_mov rfl) ?_
  refine ax_nil (cx_keep rfl rfl (cx_block ?_))
  refine cx_loopU (fun n k => k ≤ xs.length ∧ n = xs.length - k ∧ ∀ i, i < k → xs[i]? = ys[i]?) (fun k : Nat => [(13, int k)]) (fun _ => []) ⟨_, 0, ⟨Nat.zero_le _, rfl, fun i hi => absurd hi (Nat.not_lt_zero _)⟩, by repeat constructor⟩ ?_
  rintro n k ⟨hk, rfl, hb⟩
  refine cx_seq (cx_ops ?_)
  refine ax_q (q_ibin rfl rfl rfl) ?_
  refine ax_nil (cx_keep rfl rfl (cx_seq ?_))
  refine cx_cond rfl (fun h1 => ?_) (fun h1 => ?_)
  ·
   have h1 := dT h1
   have h1x : k < xs.length := by omega
   have h1y : k < ys.length := by omega
   refine cx_skip ?_
   refine cx_keep rfl rfl (cx_seq (cx_block (cx_seq (cx_ops ?_))))
   refine ax_q (q_mov rfl) ?_
   refine ax_q (q_mov rfl) ?_
   refine ax_nil (cx_keep rfl rfl (cx_seq (cx_draw ?_)))
   refine ax_q (q_mov rfl) ?_
   refine ax_q (q_mov rfl) ?_
   refine ax_q (q_ix rfl rfl (mapAt h1x)) ?_
   first | refine ax_q (q_load1_ptr rfl rfl rfl) ?_ | refine ax_q (q_load1_ip rfl) ?_
   refine ax_q (q_mov rfl) ?_
   refine ax_q (q_mov rfl) ?_
   refine ax_q (q_ix rfl rfl (mapAt h1y)) ?_
   first | refine ax_q (q_load1_ptr rfl rfl rfl) ?_ | refine ax_q (q_load1_ip rfl) ?_
   refine ax_q (q_sbin rfl rfl rfl) ?_
   refine ax_nil (cx_keep rfl rfl ?_)
   refine cx_cond rfl (fun h2 => ?_) (fun h2 => ?_)
   ·
    have h2 := nT h2
    refine cx_seq (cx_ops ?_)
    refine ax_q (q_mov rfl) ?_
    refine ax_nil (cx_keep rfl rfl ?_)
    refine cx_ret (ret0 rfl rfl ?_)
    exact ⟨by rw [decide_eq_false (fun e => by subst e; exact h2 rfl)]; rfl, rfl⟩
   ·
    have h2 := nF h2
    refine cx_skip ?_
    refine cx_keep rfl rfl (cx_ops ?_)
    refine ax_qe (r' := int ((k + 1 : Nat) : Int)) (q_ibin rfl rfl rfl) (by rw [wi (by omega) (by omega)]; rfl) ?_
    refine ax_q (q_mov rfl) ?_
    refine ax_nil ?_
    exact ⟨_, k + 1, by omega, ⟨by omega, rfl, eqto_step h1x h1y hb h2⟩, by repeat constructor⟩
  ·
   have h1 := dF h1
   have h1x : k = xs.length := by omega
   refine cx_exit rfl ?_
   refine cx_keep rfl rfl (cx_seq (cx_ops ?_))
   refine ax_q (q_mov rfl) ?_
   refine ax_nil (cx_keep rfl rfl ?_)
   refine cx_ret (ret0 rfl rfl ?_)
   exact ⟨by rw [decide_eq_true (eqto_end hlen h1x hb)]; rfl, rfl⟩


/- (ptr loop.example/g00332/impl.parser).is -/
def k_c_is : XCode :=
 .seq (.ops [.op (some 4) (.mov (.k (.bool false)))])
 (.keep [0, 1] (.seq (.ops [.op (some 5) (.mov (.t 0)),
   .op (some 6) (.nilck (.t 5)),
   .op (some 7) (.fadr (.t 6) 0),
   .op (some 8) (.load1 (.t 7)),
   .op (some 9) (.lenS (.t 8)),
   .op (some 10) (.mov (.t 1)),
   .op (some 11) (.lenS (.t 10)),
   .op (some 12) (.bin .geq (.t 9) (.t 11)),
   .op (some 13) (.mov (.t 12)),
   .andor 23 true 8 13 [.op (some 14) (.mov (.t 0)), .op (some 15) (.nilck (.t 14)), .op (some 16) (.fadr (.t 15) 0), .op (some 17) (.load1 (.t 16)), .op (some 18) (.mov (.t 1)), .op (some 19) (.lenS (.t 18)), .op (some 20) (.slc 1 (.t 17) none (some (.t 19)) none), .op (some 21) (.mov (.t 1)), .call (some 22) 113 [.t 20, .t 21]] (.t 22),
   .op (some 4) (.mov (.t 23))])
 (.keep [4] (.ret))))
theorem k_c_is_fits : fitsF Tryz.prog 101 ⟨24, k_c_is, [.t 4]⟩ = true := by kernel_rfl
theorem c_is {s : PS} {ts : List Str} (hs : s.ok) (ht : ts.length ≤ 100) : Con Tryz.prog noMv 101 [.d (.ip [.sl 1 (s.tk.map strRow), .sl 7 (s.ns.map GExprNode.row), .int .i64 (s.op : Int)]), .d (.sl 1 (ts.map strRow))] [] (fun r h => r = bool (isP s.tk ts) ∧ h = []) := by
 refine con_of2 k_c_is_fits rfl fun C hP hmv => ?_
 unfold k_c_is
 have hs1 := hs.n
 have hs2 := hs.m
 have hs3 := hs.o
 refine cx_seq (cx_ops ?_)
 refine ax_q (q_mov rfl) ?_
 refine ax_nil (cx_keep rfl rfl (cx_seq (cx_ops ?_)))
 refine ax_q (q_mov rfl) ?_
 first | refine ax_q (q_nilck_ptr rfl) ?_ | refine ax_q (q_nilck_rptr rfl) ?_ | refine ax_q (q_nilck_ip rfl) ?_
 first | refine ax_q (q_fadr_ptr rfl) ?_ | refine ax_q (q_fadr_rptr rfl) ?_ | refine ax_q (q_fadr_ip rfl) ?_
 first | refine ax_q (q_load1_ptr rfl rfl rfl) ?_ | refine ax_q (q_load1_ip rfl) ?_
 refine ax_q (q_lenS_map rfl) ?_
 refine ax_q (q_mov rfl) ?_
 refine ax_q (q_lenS_map rfl) ?_
 refine ax_q (q_ibin rfl rfl rfl) ?_
 refine ax_q (q_mov rfl) ?_
 apply ax_and rfl rfl
 ·
  intro g
  have g := dT g
  have g : ts.length ≤ s.tk.length := by omega
  refine ax_q (q_mov rfl) ?_
  first | refine ax_q (q_nilck_ptr rfl) ?_ | refine ax_q (q_nilck_rptr rfl) ?_ | refine ax_q (q_nilck_ip rfl) ?_
  first | refine ax_q (q_fadr_ptr rfl) ?_ | refine ax_q (q_fadr_rptr rfl) ?_ | refine ax_q (q_fadr_ip rfl) ?_
  first | refine ax_q (q_load1_ptr rfl rfl rfl) ?_ | refine ax_q (q_load1_ip rfl) ?_
  refine ax_q (q_mov rfl) ?_
  refine ax_q (q_lenS_map rfl) ?_
  refine ax_qe (r' := .d (.sl 1 ((s.tk.take ts.length).map strRow))) (q_slc rfl rfl rfl (by omega) (by omega) (by simp; omega)) (sR_take (by omega)) ?_
  refine ax_q (q_mov rfl) ?_
  refine ax_call rfl (vc_pure0 (c_Equal_Str (xs := s.tk.take ts.length) (ys := ts) ?_ ?_) hP rfl rfl ?_)
  ·
   rw [List.length_take]; omega
  ·
   first | assumption | omega
  exact ax_nil ⟨rfl, by repeat constructor⟩
 refine ax_q (q_mov rfl) ?_
 refine ax_nil (cx_keep rfl rfl ?_)
 refine cx_ret (ret0 rfl rfl ?_)
 exact ⟨by unfold isP; rw [int_ge_dec]; rfl, rfl⟩


/- (ptr loop.example/g00332/impl.parser).skip -/
def k_c_skip : XCode :=
 .seq (.ops [.op (some 4) (.mov (.k (.bool false)))])
 (.keep [0, 1] (.seq (.seq (.ops [.op (some 5) (.mov (.t 0)),
   .op (some 6) (.mov (.t 1)),
   .call (some 7) 101 [.t 5, .t 6],
   .op (some 8) (.not (.t 7))])
  (.keep [0, 1, 8] (.cond (.t 8)
  (.seq (.ops [.op (some 4) (.mov (.k (.bool false)))])
   (.keep [4] (.ret)))
  (.skip))))
 (.keep [0, 1] (.seq (.ops [.op (some 9) (.mov (.t 0)),
   .op (some 10) (.mov (.t 0)),
   .op (some 11) (.nilck (.t 10)),
   .op (some 12) (.fadr (.t 11) 0),
   .op (some 13) (.load1 (.t 12)),
   .op (some 14) (.mov (.t 1)),
   .op (some 15) (.lenS (.t 14)),
   .op (some 16) (.slc 1 (.t 13) (some (.t 15)) none none),
   .op (some 17) (.nilck (.t 9)),
   .op (some 18) (.fadr (.t 17) 0),
   .op none (.store 1 (.t 18) (.t 16))])
 (.keep [] (.seq (.ops [.op (some 4) (.mov (.k (.bool true)))])
 (.keep [4] (.ret))))))))
theorem k_c_skip_fits : fitsF Tryz.prog 81 ⟨19, k_c_skip, [.t 4]⟩ = true := by kernel_rfl
theorem c_skip {s : PS} {ts : List Str} (hs : s.ok) (ht : ts.length ≤ 100) : Con Tryz.prog noMv 81 [.ptr 1000 0, .d (.sl 1 (ts.map strRow))] [(1000, .box [.d (.sl 1 (s.tk.map strRow)), .osl 1001 7 0 s.ns.length, int (s.op : Int)]), (1001, .rows 7 (s.ns.map GExprNode.row))] (fun r h => r = bool (isP s.tk ts) ∧ h = [(1000, .box [.d (.sl 1 ((skP s ts).tk.map strRow)), .osl 1001 7 0 (skP s ts).ns.length, int ((skP s ts).op : Int)]), (1001, .rows 7 ((skP s ts).ns.map GExprNode.row))]) := by
 refine con_of2 k_c_skip_fits rfl fun C hP hmv => ?_
 unfold k_c_skip
 have hs1 := hs.n
 have hs2 := hs.m
 have hs3 := hs.o
 refine cx_seq (cx_ops ?_)
 refine ax_q (q_mov rfl) ?_
 refine ax_nil (cx_keep rfl rfl (cx_seq (cx_seq (cx_ops ?_))))
 refine ax_q (q_mov rfl) ?_
 refine ax_q (q_mov rfl) ?_
 first | refine ax_call rfl (vc_pure0 (c_is (s := s) (ts := ts) ?_ ?_) hP rfl rfl ?_) | refine ax_call rfl (vc_lend0 (c_is (s := s) (ts := ts) ?_ ?_) hP (by repeat (first | exact lal_id _ rfl | exact LAL.nil | refine LAL.cons ?_ ?_ | exact la_id _ rfl | exact LA.lend (lend_whole rfl (by first | (simp; done) | (rw [List.length_map]; rfl))) | refine LA.agg ?_ | refine LA.fn ?_ | refine LA.lend ?_ | exact Lend.d _ | exact Lend.zs _ | exact lend_whole rfl (by first | (simp; done) | (rw [List.length_map]; rfl)) | refine Lend.ptr rfl ?_ | refine Lend.fn ?_ | exact LendL.nil | refine LendL.cons ?_ ?_)) rfl rfl ?_)
 ·
  assumption
 ·
  assumption
 refine ax_q (q_not rfl) ?_
 refine ax_nil (cx_keep rfl rfl ?_)
 refine cx_cond rfl (fun h0 => ?_) (fun h0 => ?_)
 ·
  have h0 := bT h0
  refine cx_seq (cx_ops ?_)
  refine ax_q (q_mov rfl) ?_
  refine ax_nil (cx_keep rfl rfl ?_)
  refine cx_ret (retN id [1000, 1001] rfl rfl rfl rfl rfl ?_)
  rw [h0]; exact ⟨rfl, by rw [skP_f h0]; rfl⟩
 ·
  have h0 := bF h0
  have hil := isP_le h0
  refine cx_skip ?_
  refine cx_keep rfl rfl (cx_seq (cx_ops ?_))
  refine ax_q (q_mov rfl) ?_
  refine ax_q (q_mov rfl) ?_
  refine ax_q (q_nilck_ptr rfl) ?_
  refine ax_q (q_fadr_ptr rfl) ?_
  refine ax_q (q_load1_ptr rfl rfl rfl) ?_
  refine ax_q (q_mov rfl) ?_
  refine ax_q (q_lenS_map rfl) ?_
  refine ax_qe (r' := .d (.sl 1 ((s.tk.drop ts.length).map strRow))) (q_slc rfl rfl rfl (by omega) (by simp; omega) (by simp)) (sR_drop (by omega)) ?_
  refine ax_q (q_nilck_ptr rfl) ?_
  refine ax_q (q_fadr_ptr rfl) ?_
  refine ax_e (e_st rfl rfl rfl rfl rfl rfl rfl) ?_
  refine ax_nil (cx_keep rfl rfl (cx_seq (cx_ops ?_)))
  refine ax_q (q_mov rfl) ?_
  refine ax_nil (cx_keep rfl rfl ?_)
  refine cx_ret (retN id [1000, 1001] rfl rfl rfl rfl rfl ?_)
  rw [h0]; exact ⟨rfl, by rw [skP_t h0]; rfl⟩


/- (ptr loop.example/g00332/impl.parser).node -/
def k_c_pnode : XCode :=
 .seq (.ops [.op (some 3) (.box (.t 1)),
   .op (some 4) (.mov (.k (.int .i64 0)))])
 (.keep [0, 3] (.seq (.seq (.ops [.op (some 5) (.mov (.t 0)),
   .op (some 6) (.nilck (.t 5)),
   .op (some 7) (.fadr (.t 6) 1),
   .op (some 8) (.load1 (.t 7)),
   .op (some 9) (.lenS (.t 8)),
   .op (some 10) (.bin .eql (.t 9) (.k (.int .i64 40)))])
  (.keep [0, 3, 10] (.cond (.t 10)
  (.ops [.call (some 11) 57 [.k (.int .i64 6)]])
  (.skip))))
 (.keep [0, 3] (.seq (.drawE [[], [], [1], [1, 2], [1, 2, 3], [], [5], [1, 2, 3, 4, 5, 6], [0, 1, 2, 3, 4, 5, 6, 7], [0, 1, 2, 3, 4, 5, 6, 7, 8], [0, 1, 2, 3, 4, 5, 6, 7, 8, 9]] [.op (some 12) (.mov (.t 0)),
   .op (some 13) (.mov (.t 0)),
   .op (some 14) (.nilck (.t 13)),
   .op (some 15) (.fadr (.t 14) 1),
   .op (some 16) (.load1 (.t 15)),
   .op (some 17) (.loadN 7 (.t 3)),
   .op (some 18) (.bslice 7 [.t 17]),
   .op (some 19) (.app 7 64 [.int .i64 0, .int .i64 0, .int .i64 0, .int .i64 0, .int .i64 0, .int .i64 0, .str []] (.t 16) (.t 18))]
  [.op (some 20) (.nilck (.t 12)),
   .op (some 21) (.fadr (.t 20) 1),
   .op none (.store 1 (.t 21) (.t 19))])
 (.keep [0] (.seq (.ops [.op (some 22) (.mov (.t 0)),
   .op (some 23) (.nilck (.t 22)),
   .op (some 24) (.fadr (.t 23) 1),
   .op (some 25) (.load1 (.t 24)),
   .op (some 26) (.lenS (.t 25)),
   .op (some 27) (.bin .sub (.t 26) (.k (.int .i64 1))),
   .op (some 4) (.mov (.t 27))])
 (.keep [4] (.ret))))))))
theorem k_c_pnode_fits : fitsF Tryz.prog 103 ⟨28, k_c_pnode, [.t 4]⟩ = true := by kernel_rfl
theorem c_pnode {s s' : PS} {n : GExprNode} {k : Int} (hs : s.ok) (h : ndP s n = some (s', k)) : Con Tryz.prog (fun e => Nat.beq e 1001) 103 [.ptr 1000 0, n.av] [(1000, .box [.d (.sl 1 (s.tk.map strRow)), .osl 1001 7 0 s.ns.length, int (s.op : Int)]), (1001, .rows 7 (s.ns.map GExprNode.row))] (fun r h => r = int k ∧ h = [(1000, .box [.d (.sl 1 (s'.tk.map strRow)), .osl 1001 7 0 s'.ns.length, int (s'.op : Int)]), (1001, .rows 7 (s'.ns.map GExprNode.row))]) := by
 refine con_of2 k_c_pnode_fits rfl fun C hP hmv => ?_
 unfold k_c_pnode
 have hs1 := hs.n
 have hs2 := hs.m
 have hs3 := hs.o
 obtain ⟨hn, rfl, rfl⟩ := ndP_some h
 refine cx_seq (cx_ops ?_)
 refine ax_e (e_box rfl rfl (by decide) rfl rfl rfl) ?_
 refine ax_q (q_mov rfl) ?_
 refine ax_nil (cx_keep rfl rfl (cx_seq (cx_seq (cx_ops ?_))))
 refine ax_q (q_mov rfl) ?_
 refine ax_q (q_nilck_ptr rfl) ?_
 refine ax_q (q_fadr_ptr rfl) ?_
 refine ax_q (q_load1_ptr rfl rfl rfl) ?_
 first | refine ax_q (q_lenS_map rfl) ?_ | refine ax_q (q_lenS_osl rfl) ?_
 refine ax_q (q_ibin rfl rfl rfl) ?_
 refine ax_nil (cx_keep rfl rfl ?_)
 refine cx_cond rfl (fun h0 => ?_) (fun h0 => ?_)
 ·
  have h0 := dT h0
  exfalso; omega
 ·
  have h0 := dF h0
  refine cx_skip ?_
  refine cx_keep rfl rfl (cx_seq ?_)
  refine cx_drawL 7 19 (Nat.beq 1001) (nrA 1001) [] ([(1001, .rows 7 ((s.ns ++ [n]).map GExprNode.row))]) [[0], [0], [13], [14], [15], [3], [17], [16, 18]] [[1001, 1000], [], [], [], [], [], [], [1001, 1000]] rfl ?_
  first | refine ⟨_, .inr ⟨rfl, _, rfl, .inr ⟨rfl, rfl, .inr rfl, rfl, rfl⟩, loc_q (q_mov rfl)⟩, ?_⟩
  first | refine ⟨_, .inr ⟨rfl, _, rfl, .inl rfl, loc_q (q_mov rfl)⟩, ?_⟩
  refine ⟨_, .inr ⟨rfl, _, rfl, .inl rfl, loc_q (q_nilck_ptr rfl)⟩, ?_⟩
  refine ⟨_, .inr ⟨rfl, _, rfl, .inl rfl, loc_q (q_fadr_ptr rfl)⟩, ?_⟩
  refine ⟨_, .inr ⟨rfl, _, rfl, .inl rfl, loc_q (q_load1_ptr rfl rfl rfl)⟩, ?_⟩
  first | refine ⟨_, .inr ⟨rfl, _, rfl, .inl rfl, loc_q (q_ldN rfl rfl rfl)⟩, ?_⟩
  first | refine ⟨_, .inr ⟨rfl, _, rfl, .inl rfl, loc_bslice rfl⟩, ?_⟩
  refine ⟨⟨19, _, []⟩, .inl ⟨rfl, rfl, rfl, locl_app (n' := (s.ns ++ [n]).length) (rs' := (s.ns ++ [n]).map GExprNode.row) rfl rfl (by simp) rfl (fun _ _ h => src_osl (h _ _ rfl) (by simp)) (.inr (by rw [hmv]; rfl)) (hbnd (by omega) (by simp) (by decide)) (by simp) (app1 rfl)⟩, ?_⟩
  refine ⟨rfl, ?_⟩
  refine ax_q (q_nilck_ptr rfl) ?_
  refine ax_q (q_fadr_ptr rfl) ?_
  refine ax_e (e_st rfl rfl rfl rfl rfl rfl rfl) ?_
  refine ax_nil (cx_keep rfl rfl (cx_seq (cx_ops ?_)))
  refine ax_q (q_mov rfl) ?_
  refine ax_q (q_nilck_ptr rfl) ?_
  refine ax_q (q_fadr_ptr rfl) ?_
  refine ax_q (q_load1_ptr rfl rfl rfl) ?_
  first | refine ax_q (q_lenS_map rfl) ?_ | refine ax_q (q_lenS_osl rfl) ?_
  have hq : (s.ns ++ [n]).length = s.ns.length + 1 := by simp
  refine ax_qe (r' := int ((s.ns.length : Nat) : Int)) (q_ibin rfl rfl rfl) (by rw [wi (by omega) (by omega)]; exact congrArg AM.int (by omega)) ?_
  refine ax_q (q_mov rfl) ?_
  refine ax_nil (cx_keep rfl rfl ?_)
  refine cx_ret (retN id [1000, 1001] rfl rfl rfl rfl rfl ?_)
  exact ⟨rfl, rfl⟩


/- (ptr loop.example/g00332/impl.parser).joins -/
def k_c_joins : XCode :=
 .seq (.ops [.op (some 6) (.mov (.k (.int .i64 0)))])
 (.keep [0, 1, 2] (.seq (.ops [.op (some 12) (.mov (.t 1)),
   .callv (some 13) (.t 12) [],
   .op (some 7) (.mov (.t 13))])
 (.keep [0, 1, 2, 7] (.block 0 (.loop (.block 1 (.seq (.ops [.op (some 8) (.mov (.k (.int .i64 0)))])
   (.keep [0, 1, 2, 7, 8] (.seq (.seq (.ops [.op (some 14) (.mov (.t 2)),
     .op (some 15) (.lenS (.t 14)),
     .op (some 16) (.mov (.k (.int .i64 0)))])
   (.keep [0, 1, 2, 7, 8, 14, 15, 16] (.block 2 (.loop (.seq (.ops [.op (some 17) (.bin .lss (.t 16) (.t 15))])
    (.keep [0, 1, 2, 7, 8, 14, 15, 16, 17] (.seq (.cond (.t 17)
     (.skip)
     (.exit 2))
    (.keep [0, 1, 2, 7, 8, 14, 15, 16] (.seq (.block 3 (.seq (.ops [.op (some 18) (.iadr 1 (.t 14) (.t 16)),
       .op (some 19) (.load1 (.t 18)),
       .op (some 10) (.mov (.t 19))])
     (.keep [0, 1, 2, 7, 8, 10, 14, 15, 16] (.seq (.ops [.op (some 20) (.mov (.t 8)),
       .op (some 21) (.bin .eql (.t 20) (.k (.int .i64 0))),
       .op (some 22) (.mov (.t 21)),
       .andor 30 true 2 22 [.op (some 23) (.mov (.t 0)), .op (some 24) (.mov (.t 10)), .op (some 25) (.bin .sub (.t 24) (.k (.int .i64 6))), .op (some 26) (.iadrA 1 8 (.g 1) (.t 25)), .op (some 27) (.load1 (.t 26)), .op (some 28) (.bslice 1 [.t 27]), .call (some 29) 81 [.t 23, .t 28]] (.t 29)])
     (.keep [0, 1, 2, 7, 8, 10, 14, 15, 16, 30] (.cond (.t 30)
      (.ops [.op (some 31) (.mov (.t 10)),
       .op (some 8) (.mov (.t 31))])
      (.skip)))))))
    (.keep [0, 1, 2, 7, 8, 14, 15, 16] (.ops [.op (some 32) (.bin .add (.t 16) (.k (.int .i64 1))),
     .op (some 16) (.mov (.t 32))])))))))))))
   (.keep [0, 1, 2, 7, 8] (.seq (.seq (.ops [.op (some 33) (.mov (.t 8)),
     .op (some 34) (.bin .eql (.t 33) (.k (.int .i64 0)))])
   (.keep [0, 1, 2, 7, 8, 34] (.cond (.t 34)
    (.seq (.ops [.op (some 35) (.mov (.t 7)),
      .op (some 6) (.mov (.t 35))])
    (.keep [6] (.ret)))
    (.skip))))
   (.keep [0, 1, 2, 7, 8] (.seq (.ops [.op (some 36) (.mov (.t 1)),
    .callv (some 37) (.t 36) [],
    .op (some 11) (.mov (.t 37))])
   (.keep [0, 1, 2, 7, 8, 11] (.ops [.op (some 38) (.mov (.t 0)),
    .op (some 39) (.mov (.t 8)),
    .op (some 40) (.mov (.t 7)),
    .op (some 41) (.mov (.t 11)),
    .op (some 42) (.build [.int .i64 0, .int .i64 0, .int .i64 0, .int .i64 0, .int .i64 0, .int .i64 0, .str []] [(0, 1, .t 39), (1, 1, .t 40), (2, 1, .t 41)]),
    .call (some 43) 103 [.t 38, .t 42],
    .op (some 7) (.mov (.t 43))])))))))))))))))
theorem k_c_joins_fits : fitsF Tryz.prog 87 ⟨44, k_c_joins, [.t 6]⟩ = true := by kernel_rfl
set_option maxHeartbeats 4000000 in
theorem c_joins {F : Nat} {R : PS → Option (PS × Int)} {ops : List Int} {f : Nat} (hR : RC Tryz.prog F R) (hRo : RO R) (hb : hasBody Tryz.prog F = true) (ho : ∀ o ∈ ops, 6 ≤ o ∧ o ≤ 13) (hol : ops.length ≤ 10) {s s' : PS} {k : Int} (hs : s.ok) (h : joP R ops f s = some (s', k)) : Con Tryz.prog (fun e => Nat.beq e 1001) 87 [.ptr 1000 0, .bfn F [.ptr 1000 0], .d (.sl 1 (ops.map intRow))] [(1000, .box [.d (.sl 1 (s.tk.map strRow)), .osl 1001 7 0 s.ns.length, int (s.op : Int)]), (1001, .rows 7 (s.ns.map GExprNode.row))] (fun r h => r = int k ∧ h = [(1000, .box [.d (.sl 1 (s'.tk.map strRow)), .osl 1001 7 0 s'.ns.length, int (s'.op : Int)]), (1001, .rows 7 (s'.ns.map GExprNode.row))]) := by
 refine con_of2 k_c_joins_fits rfl fun C hP hmv => ?_
 unfold k_c_joins
 obtain ⟨s1, l, h1, hj⟩ := joP_some h
 obtain ⟨ok1, op1⟩ := hRo _ _ _ hs h1
 refine cx_seq (cx_ops ?_)
 refine ax_q (q_mov rfl) ?_
 refine ax_nil (cx_keep rfl rfl (cx_seq (cx_ops ?_)))
 refine ax_q (q_mov rfl) ?_
 refine ax_callb rfl (by rw [hP]; exact hb) rfl (vcall_own (hR s s1 l hs h1) hP hmv false (fun e => bif Nat.beq e 1000 then 1000 else 1001) [1000, 1001] ⟨rfl, rfl, rfl, rfl, ⟨rfl, rfl, trivial⟩, rfl, rfl, rfl⟩ (.pass rfl rfl .nil) ?_)
 rintro r h ⟨rfl, rfl⟩
 refine ⟨(fun e => bif Nat.beq e 1000 then 1000 else 1001), [], ⟨rfl, rfl, rfl, rfl, mem2 rfl rfl, rfl, rfl, fun h => absurd h Bool.false_ne_true⟩, ?_⟩
 try dsimp only [dpP]
 refine ax_q (q_mov rfl) ?_
 refine ax_nil (cx_keep rfl rfl (cx_block ?_))
 refine cx_loopU (fun n (p : Nat × PS × Int) => n = p.1 ∧ p.2.1.ok ∧ joL R ops p.1 p.2.1 p.2.2 = some (s', k)) (fun p => [(7, int p.2.2)]) (fun p => [(1000, .box [.d (.sl 1 (p.2.1.tk.map strRow)), .osl 1001 7 0 p.2.1.ns.length, int (p.2.1.op : Int)]), (1001, .rows 7 (p.2.1.ns.map GExprNode.row))]) ⟨_, (f, s1, l), ⟨rfl, ok1, hj⟩, by repeat constructor⟩ ?_
 rintro n ⟨fu, c, lf⟩ ⟨rfl, okc, hjc⟩
 obtain ⟨fu, rfl⟩ := joL_pos hjc
 simp only at okc hjc ⊢
 refine cx_block (cx_seq (cx_ops ?_))
 refine ax_q (q_mov rfl) ?_
 refine ax_nil (cx_keep rfl rfl (cx_seq (cx_seq (cx_ops ?_))))
 refine ax_q (q_mov rfl) ?_
 refine ax_q (q_lenS_map rfl) ?_
 refine ax_q (q_mov rfl) ?_
 refine ax_nil (cx_keep rfl rfl (cx_block ?_))
 refine cx_loopU (fun m (p : Nat × Int × PS) => p.1 ≤ ops.length ∧ m = ops.length - p.1 ∧ p.2.2.ok ∧ pkL (ops.drop p.1) (p.2.1, p.2.2) = pkL ops (0, c)) (fun p => [(16, int p.1), (8, int p.2.1)]) (fun p => [(1000, .box [.d (.sl 1 (p.2.2.tk.map strRow)), .osl 1001 7 0 p.2.2.ns.length, int (p.2.2.op : Int)]), (1001, .rows 7 (p.2.2.ns.map GExprNode.row))]) ⟨_, (0, 0, c), ⟨Nat.zero_le _, rfl, okc, rfl⟩, by repeat constructor⟩ ?_
 rintro m ⟨j, a, q⟩ ⟨hj0, rfl, okq, hpj⟩
 simp only at hj0 okq hpj ⊢
 refine cx_seq (cx_ops ?_)
 refine ax_q (q_ibin rfl rfl rfl) ?_
 refine ax_nil (cx_keep rfl rfl (cx_seq ?_))
 refine cx_cond rfl (fun h0 => ?_) (fun h0 => ?_)
 ·
  have h0 := dT h0
  have h0x : j < ops.length := by omega
  have hoj := ho _ (List.getElem_mem h0x)
  refine cx_skip ?_
  refine cx_keep rfl rfl (cx_seq (cx_block (cx_seq (cx_ops ?_))))
  refine ax_q (q_ix rfl rfl (mapAt h0x)) ?_
  first | refine ax_q (q_load1_ptr rfl rfl rfl) ?_ | refine ax_q (q_load1_ip rfl) ?_
  refine ax_q (q_mov rfl) ?_
  refine ax_nil (cx_keep rfl rfl (cx_seq (cx_ops ?_)))
  refine ax_q (q_mov rfl) ?_
  refine ax_q (q_ibin rfl rfl rfl) ?_
  refine ax_q (q_mov rfl) ?_
  refine ax_andE rfl rfl (fun g => ?_) (fun g => ?_)
  ·
   have g := dF g
   refine ax_nil (cx_keep rfl rfl ?_)
   refine cx_cond rfl (fun h1 => ?_) (fun h1 => ?_)
   ·
    skip
    exact absurd h1 Bool.false_ne_true
   ·
    skip
    refine cx_skip ?_
    refine cx_keep rfl rfl (cx_ops ?_)
    refine ax_qe (r' := int ((j + 1 : Nat) : Int)) (q_ibin rfl rfl rfl) (by rw [wi (by omega) (by omega)]; rfl) ?_
    refine ax_q (q_mov rfl) ?_
    refine ax_nil ?_
    exact ⟨_, (j + 1, a, q), by simp only; omega, ⟨by simp only; omega, rfl, okq, pkL_miss h0x hpj (fun e => g e.1)⟩, by repeat constructor⟩
  ·
   have g := dT g
   refine ax_q (q_mov rfl) ?_
   refine ax_q (q_mov rfl) ?_
   refine ax_q (q_sub rfl rfl (by omega)) ?_
   refine ax_qe (r' := .d (.ip (.str (sgnT ops[j]) :: ((sgnsL.drop (((ops[j]) - 6).toNat + 1)).map D.str)))) (q_iadrG (n := ops[j] - 6) sgnsL gtab_sgns (by rw [hP]; kernel_rfl) rfl rfl (by omega) (by omega)) (by rw [sgn_drop (by omega)]) ?_
   first | refine ax_q (q_load1_ptr rfl rfl rfl) ?_ | refine ax_q (q_load1_ip rfl) ?_
   refine ax_e (e_bsliceD (rows := [strRow (sgnT ops[j])]) rfl) ?_
   refine ax_call rfl (vcall_own (c_skip (s := q) (ts := [sgnT ops[j]]) okq (by simp)) hP hmv false (fun e => bif Nat.beq e 1000 then 1000 else 1001) [1000, 1001] ⟨rfl, rfl, rfl, rfl, ⟨rfl, rfl, trivial⟩, rfl, rfl, rfl⟩ (.pass rfl rfl (.pass rfl rfl .nil)) ?_)
   rintro r h ⟨rfl, rfl⟩
   refine ⟨(fun e => bif Nat.beq e 1000 then 1000 else 1001), [], ⟨rfl, rfl, rfl, rfl, mem2 rfl rfl, rfl, rfl, fun h => absurd h Bool.false_ne_true⟩, ?_⟩
   try dsimp only [dpP]
   refine ax_nil ⟨_, [(1000, .box [.d (.sl 1 ((skP q [sgnT ops[j]]).tk.map strRow)), .osl 1001 7 0 (skP q [sgnT ops[j]]).ns.length, int ((skP q [sgnT ops[j]]).op : Int)]), (1001, .rows 7 ((skP q [sgnT ops[j]]).ns.map GExprNode.row))], rfl, by repeat constructor, ?_⟩
   refine ax_nil (cx_keep rfl rfl ?_)
   refine cx_cond rfl (fun h1 => ?_) (fun h1 => ?_)
   ·
    skip
    rw [skP_t h1]
    refine cx_ops ?_
    refine ax_q (q_mov rfl) ?_
    refine ax_q (q_mov rfl) ?_
    refine ax_nil (cx_keep rfl rfl (cx_ops ?_))
    refine ax_qe (r' := int ((j + 1 : Nat) : Int)) (q_ibin rfl rfl rfl) (by rw [wi (by omega) (by omega)]; rfl) ?_
    refine ax_q (q_mov rfl) ?_
    refine ax_nil ?_
    exact ⟨_, (j + 1, ops[j], dpP q 1), by simp only; omega, ⟨by simp only; omega, rfl, okq.dp 1, pkL_hit h0x hpj g h1⟩, by repeat constructor⟩
   ·
    skip
    rw [skP_f h1]
    refine cx_skip ?_
    refine cx_keep rfl rfl (cx_ops ?_)
    refine ax_qe (r' := int ((j + 1 : Nat) : Int)) (q_ibin rfl rfl rfl) (by rw [wi (by omega) (by omega)]; rfl) ?_
    refine ax_q (q_mov rfl) ?_
    refine ax_nil ?_
    exact ⟨_, (j + 1, a, q), by simp only; omega, ⟨by simp only; omega, rfl, okq, pkL_miss h0x hpj (fun e => by rw [h1] at e; exact absurd e.2 Bool.false_ne_true)⟩, by repeat constructor⟩
 ·
  have h0 := dF h0
  have h0x : j = ops.length := by omega
  have hpk := pkL_end h0x hpj
  refine cx_exit rfl ?_
  refine cx_keep rfl rfl (cx_seq (cx_seq (cx_ops ?_)))
  refine ax_q (q_mov rfl) ?_
  refine ax_q (q_ibin rfl rfl rfl) ?_
  refine ax_nil (cx_keep rfl rfl ?_)
  refine cx_cond rfl (fun h2 => ?_) (fun h2 => ?_)
  ·
   have h2 := dT h2
   obtain ⟨rfl, rfl⟩ := joL_stop hjc hpk h2
   refine cx_seq (cx_ops ?_)
   refine ax_q (q_mov rfl) ?_
   refine ax_q (q_mov rfl) ?_
   refine ax_nil (cx_keep rfl rfl ?_)
   refine cx_ret (retN id [1000, 1001] rfl rfl rfl rfl rfl ?_)
   exact ⟨rfl, rfl⟩
  ·
   have h2 := dF h2
   obtain ⟨s2, r, s3, k3, hr, hn, hj3⟩ := joL_more hjc hpk h2
   obtain ⟨ok2, op2⟩ := hRo _ _ _ okq hr
   have ok3 := ok2.nd hn
   refine cx_skip ?_
   refine cx_keep rfl rfl (cx_seq (cx_ops ?_))
   refine ax_q (q_mov rfl) ?_
   refine ax_callb rfl (by rw [hP]; exact hb) rfl (vcall_own (hR q s2 r okq hr) hP hmv false (fun e => bif Nat.beq e 1000 then 1000 else 1001) [1000, 1001] ⟨rfl, rfl, rfl, rfl, ⟨rfl, rfl, trivial⟩, rfl, rfl, rfl⟩ (.pass rfl rfl .nil) ?_)
   rintro r h ⟨rfl, rfl⟩
   refine ⟨(fun e => bif Nat.beq e 1000 then 1000 else 1001), [], ⟨rfl, rfl, rfl, rfl, mem2 rfl rfl, rfl, rfl, fun h => absurd h Bool.false_ne_true⟩, ?_⟩
   try dsimp only [dpP]
   refine ax_q (q_mov rfl) ?_
   refine ax_nil (cx_keep rfl rfl (cx_ops ?_))
   refine ax_q (q_mov rfl) ?_
   refine ax_q (q_mov rfl) ?_
   refine ax_q (q_mov rfl) ?_
   refine ax_q (q_mov rfl) ?_
   refine ax_q (q_build rfl) ?_
   refine ax_call rfl (vcall_own (c_pnode (n := nd a lf r) ok2 hn) hP hmv false (fun e => bif Nat.beq e 1000 then 1000 else 1001) [1000, 1001] ⟨rfl, rfl, rfl, rfl, ⟨rfl, rfl, trivial⟩, rfl, rfl, rfl⟩ (.pass rfl rfl (.pass rfl rfl .nil)) ?_)
   rintro r h ⟨rfl, rfl⟩
   refine ⟨(fun e => bif Nat.beq e 1000 then 1000 else 1001), [], ⟨rfl, rfl, rfl, rfl, mem2 rfl rfl, rfl, rfl, fun h => absurd h Bool.false_ne_true⟩, ?_⟩
   try dsimp only [dpP]
   refine ax_q (q_mov rfl) ?_
   refine ax_nil ?_
   exact ⟨_, (fu, s3, k3), by simp only; omega, ⟨rfl, ok3, hj3⟩, by repeat constructor⟩


/- (ptr loop.example/g00332/impl.parser).within -/
def k_c_within : XCode :=
 .seq (.ops [.op (some 4) (.mov (.k (.int .i64 0)))])
 (.keep [0, 1] (.seq (.seq (.ops [.op (some 6) (.mov (.t 0)),
   .op (some 7) (.nilck (.t 6)),
   .op (some 8) (.fadr (.t 7) 2),
   .op (some 9) (.load1 (.t 8)),
   .op (some 10) (.bin .eql (.t 9) (.k (.int .i64 48)))])
  (.keep [0, 1, 10] (.cond (.t 10)
  (.ops [.call (some 11) 57 [.k (.int .i64 16)]])
  (.skip))))
 (.keep [0, 1] (.seq (.ops [.op (some 12) (.mov (.t 0)),
   .op (some 13) (.nilck (.t 12)),
   .op (some 14) (.fadr (.t 13) 2),
   .op (some 15) (.load1 (.t 14)),
   .op (some 16) (.bin .add (.t 15) (.k (.int .i64 1))),
   .op (some 17) (.nilck (.t 12)),
   .op (some 18) (.fadr (.t 17) 2),
   .op none (.store 1 (.t 18) (.t 16))])
 (.keep [0, 1] (.seq (.ops [.op (some 19) (.mov (.t 1)),
   .callv (some 20) (.t 19) [],
   .op (some 5) (.mov (.t 20))])
 (.keep [0, 5] (.seq (.ops [.op (some 21) (.mov (.t 0)),
   .op (some 22) (.nilck (.t 21)),
   .op (some 23) (.fadr (.t 22) 2),
   .op (some 24) (.load1 (.t 23)),
   .op (some 25) (.bin .sub (.t 24) (.k (.int .i64 1))),
   .op (some 26) (.nilck (.t 21)),
   .op (some 27) (.fadr (.t 26) 2),
   .op none (.store 1 (.t 27) (.t 25))])
 (.keep [5] (.seq (.ops [.op (some 28) (.mov (.t 5)),
   .op (some 4) (.mov (.t 28))])
 (.keep [4] (.ret))))))))))))
theorem k_c_within_fits : fitsF Tryz.prog 114 ⟨29, k_c_within, [.t 4]⟩ = true := by kernel_rfl
theorem c_within {F : Nat} {R : PS → Option (PS × Int)} (hR : RC Tryz.prog F R) (hRo : RO R) (hb : hasBody Tryz.prog F = true) {s s' : PS} {k : Int} (hs : s.ok) (h : wiP R s = some (s', k)) : Con Tryz.prog (fun e => Nat.beq e 1001) 114 [.ptr 1000 0, .bfn F [.ptr 1000 0]] [(1000, .box [.d (.sl 1 (s.tk.map strRow)), .osl 1001 7 0 s.ns.length, int (s.op : Int)]), (1001, .rows 7 (s.ns.map GExprNode.row))] (fun r h => r = int k ∧ h = [(1000, .box [.d (.sl 1 (s'.tk.map strRow)), .osl 1001 7 0 s'.ns.length, int (s'.op : Int)]), (1001, .rows 7 (s'.ns.map GExprNode.row))]) := by
 refine con_of2 k_c_within_fits rfl fun C hP hmv => ?_
 unfold k_c_within
 have hs1 := hs.n
 have hs2 := hs.m
 have hs3 := hs.o
 obtain ⟨ho, s1, h1, rfl⟩ := wiP_some h
 have hs2 : PS.ok ⟨s.tk, s.ns, s.op + 1⟩ := ⟨hs.t, hs.n, hs.m, ho⟩
 obtain ⟨ok1, op1⟩ := hRo _ _ _ hs2 h1
 have op1 : s1.op = s.op + 1 := op1
 have hs4 := ok1.o
 refine cx_seq (cx_ops ?_)
 refine ax_q (q_mov rfl) ?_
 refine ax_nil (cx_keep rfl rfl (cx_seq (cx_seq (cx_ops ?_))))
 refine ax_q (q_mov rfl) ?_
 refine ax_q (q_nilck_ptr rfl) ?_
 refine ax_q (q_fadr_ptr rfl) ?_
 refine ax_q (q_load1_ptr rfl rfl rfl) ?_
 refine ax_q (q_ibin rfl rfl rfl) ?_
 refine ax_nil (cx_keep rfl rfl ?_)
 refine cx_cond rfl (fun h0 => ?_) (fun h0 => ?_)
 ·
  have h0 := dT h0
  exfalso; omega
 ·
  have h0 := dF h0
  refine cx_skip ?_
  refine cx_keep rfl rfl (cx_seq (cx_ops ?_))
  refine ax_q (q_mov rfl) ?_
  refine ax_q (q_nilck_ptr rfl) ?_
  refine ax_q (q_fadr_ptr rfl) ?_
  refine ax_q (q_load1_ptr rfl rfl rfl) ?_
  refine ax_qe (r' := int ((s.op + 1 : Nat) : Int)) (q_ibin rfl rfl rfl) (by rw [wi (by omega) (by omega)]; rfl) ?_
  refine ax_q (q_nilck_ptr rfl) ?_
  refine ax_q (q_fadr_ptr rfl) ?_
  refine ax_e (e_st rfl rfl rfl rfl rfl rfl rfl) ?_
  refine ax_nil (cx_keep rfl rfl (cx_seq (cx_ops ?_)))
  refine ax_q (q_mov rfl) ?_
  refine ax_callb rfl (by rw [hP]; exact hb) rfl (vcall_own (hR ⟨s.tk, s.ns, s.op + 1⟩ s1 k hs2 h1) hP hmv false (fun e => bif Nat.beq e 1000 then 1000 else 1001) [1000, 1001] ⟨rfl, rfl, rfl, rfl, ⟨rfl, rfl, trivial⟩, rfl, rfl, rfl⟩ (.pass rfl rfl .nil) ?_)
  rintro r h ⟨rfl, rfl⟩
  refine ⟨(fun e => bif Nat.beq e 1000 then 1000 else 1001), [], ⟨rfl, rfl, rfl, rfl, mem2 rfl rfl, rfl, rfl, fun h => absurd h Bool.false_ne_true⟩, ?_⟩
  try dsimp only [dpP]
  refine ax_q (q_mov rfl) ?_
  refine ax_nil (cx_keep rfl rfl (cx_seq (cx_ops ?_)))
  refine ax_q (q_mov rfl) ?_
  refine ax_q (q_nilck_ptr rfl) ?_
  refine ax_q (q_fadr_ptr rfl) ?_
  refine ax_q (q_load1_ptr rfl rfl rfl) ?_
  refine ax_qe (r' := int ((s1.op - 1 : Nat) : Int)) (q_ibin rfl rfl rfl) (by rw [wi (by omega) (by omega)]; exact congrArg AM.int (by omega)) ?_
  refine ax_q (q_nilck_ptr rfl) ?_
  refine ax_q (q_fadr_ptr rfl) ?_
  refine ax_e (e_st rfl rfl rfl rfl rfl rfl rfl) ?_
  refine ax_nil (cx_keep rfl rfl (cx_seq (cx_ops ?_)))
  refine ax_q (q_mov rfl) ?_
  refine ax_q (q_mov rfl) ?_
  refine ax_nil (cx_keep rfl rfl ?_)
  refine cx_ret (retN id [1000, 1001] rfl rfl rfl rfl rfl ?_)
  exact ⟨rfl, rfl⟩


/- (ptr loop.example/g00332/impl.parser).take -/
def k_c_take : XCode :=
 .seq (.ops [.op (some 2) (.mov (.k (.str [])))])
 (.keep [0] (.seq (.seq (.ops [.op (some 4) (.mov (.t 0)),
   .op (some 5) (.nilck (.t 4)),
   .op (some 6) (.fadr (.t 5) 0),
   .op (some 7) (.load1 (.t 6)),
   .op (some 8) (.lenS (.t 7)),
   .op (some 9) (.bin .eql (.t 8) (.k (.int .i64 0)))])
  (.keep [0, 9] (.cond (.t 9)
  (.ops [.call (some 10) 57 [.k (.int .i64 3)]])
  (.skip))))
 (.keep [0] (.seq (.ops [.op (some 11) (.mov (.t 0)),
   .op (some 12) (.nilck (.t 11)),
   .op (some 13) (.fadr (.t 12) 0),
   .op (some 14) (.load1 (.t 13)),
   .op (some 15) (.iadr 1 (.t 14) (.k (.int .i64 0))),
   .op (some 16) (.load1 (.t 15)),
   .op (some 3) (.mov (.t 16))])
 (.keep [0, 3] (.seq (.ops [.op (some 17) (.mov (.t 0)),
   .op (some 18) (.mov (.t 0)),
   .op (some 19) (.nilck (.t 18)),
   .op (some 20) (.fadr (.t 19) 0),
   .op (some 21) (.load1 (.t 20)),
   .op (some 22) (.slc 1 (.t 21) (some (.k (.int .i64 1))) none none),
   .op (some 23) (.nilck (.t 17)),
   .op (some 24) (.fadr (.t 23) 0),
   .op none (.store 1 (.t 24) (.t 22))])
 (.keep [3] (.seq (.ops [.op (some 25) (.mov (.t 3)),
   .op (some 2) (.mov (.t 25))])
 (.keep [2] (.ret))))))))))
theorem k_c_take_fits : fitsF Tryz.prog 78 ⟨26, k_c_take, [.t 2]⟩ = true := by kernel_rfl
theorem c_take {s : PS} {t : Str} {r : List Str} (hs : s.ok) (ht : s.tk = t :: r) : Con Tryz.prog noMv 78 [.ptr 1000 0] [(1000, .box [.d (.sl 1 (s.tk.map strRow)), .osl 1001 7 0 s.ns.length, int (s.op : Int)]), (1001, .rows 7 (s.ns.map GExprNode.row))] (fun r h => r = str t ∧ h = [(1000, .box [.d (.sl 1 ((dpP s 1).tk.map strRow)), .osl 1001 7 0 (dpP s 1).ns.length, int ((dpP s 1).op : Int)]), (1001, .rows 7 ((dpP s 1).ns.map GExprNode.row))]) := by
 refine con_of2 k_c_take_fits rfl fun C hP hmv => ?_
 unfold k_c_take
 have hs1 := hs.n
 have hs2 := hs.m
 have hs3 := hs.o
 have hl : s.tk.length = r.length + 1 := by rw [ht]; rfl
 have h0x : 0 < s.tk.length := by omega
 have ht0 : s.tk[0] = t := by simp [ht]
 refine cx_seq (cx_ops ?_)
 refine ax_q (q_mov rfl) ?_
 refine ax_nil (cx_keep rfl rfl (cx_seq (cx_seq (cx_ops ?_))))
 refine ax_q (q_mov rfl) ?_
 refine ax_q (q_nilck_ptr rfl) ?_
 refine ax_q (q_fadr_ptr rfl) ?_
 refine ax_q (q_load1_ptr rfl rfl rfl) ?_
 refine ax_q (q_lenS_map rfl) ?_
 refine ax_q (q_ibin rfl rfl rfl) ?_
 refine ax_nil (cx_keep rfl rfl ?_)
 refine cx_cond rfl (fun h0 => ?_) (fun h0 => ?_)
 ·
  have h0 := dT h0
  exfalso; omega
 ·
  have h0 := dF h0
  refine cx_skip ?_
  refine cx_keep rfl rfl (cx_seq (cx_ops ?_))
  refine ax_q (q_mov rfl) ?_
  refine ax_q (q_nilck_ptr rfl) ?_
  refine ax_q (q_fadr_ptr rfl) ?_
  refine ax_q (q_load1_ptr rfl rfl rfl) ?_
  refine ax_q (q_ixI rfl rfl (by omega) (mapAt (k := 0) h0x)) ?_
  first | refine ax_q (q_load1_ptr rfl rfl rfl) ?_ | refine ax_q (q_load1_ip rfl) ?_
  refine ax_q (q_mov rfl) ?_
  refine ax_nil (cx_keep rfl rfl (cx_seq (cx_ops ?_)))
  refine ax_q (q_mov rfl) ?_
  refine ax_q (q_mov rfl) ?_
  refine ax_q (q_nilck_ptr rfl) ?_
  refine ax_q (q_fadr_ptr rfl) ?_
  refine ax_q (q_load1_ptr rfl rfl rfl) ?_
  refine ax_qe (r' := .d (.sl 1 ((s.tk.drop 1).map strRow))) (q_slc rfl rfl rfl (by omega) (by simp; omega) (by simp)) (sR_drop (by omega)) ?_
  refine ax_q (q_nilck_ptr rfl) ?_
  refine ax_q (q_fadr_ptr rfl) ?_
  refine ax_e (e_st rfl rfl rfl rfl rfl rfl rfl) ?_
  refine ax_nil (cx_keep rfl rfl (cx_seq (cx_ops ?_)))
  refine ax_q (q_mov rfl) ?_
  refine ax_q (q_mov rfl) ?_
  refine ax_nil (cx_keep rfl rfl ?_)
  refine cx_ret (retN id [1000, 1001] rfl rfl rfl rfl rfl ?_)
  rw [ht0]; exact ⟨rfl, rfl⟩


/- internal/stringslite.HasPrefix -/
def k_c_HasPrefix1 : XCode :=
 .seq (.ops [.op (some 4) (.mov (.k (.bool false)))])
 (.keep [0, 1] (.seq (.ops [.op (some 5) (.mov (.t 0)),
   .op (some 6) (.lenT (.t 5)),
   .op (some 7) (.mov (.t 1)),
   .op (some 8) (.lenT (.t 7)),
   .op (some 9) (.bin .geq (.t 6) (.t 8)),
   .op (some 10) (.mov (.t 9)),
   .andor 17 true 5 10 [.op (some 11) (.mov (.t 0)), .op (some 12) (.mov (.t 1)), .op (some 13) (.lenT (.t 12)), .op (some 14) (.slcT (.t 11) none (some (.t 13))), .op (some 15) (.mov (.t 1)), .op (some 16) (.bin .eql (.t 14) (.t 15))] (.t 16),
   .op (some 4) (.mov (.t 17))])
 (.keep [4] (.ret))))
theorem k_c_HasPrefix1_fits : fitsF Tryz.prog 149 ⟨18, k_c_HasPrefix1, [.t 4]⟩ = true := by kernel_rfl
theorem c_HasPrefix1 {t : Str} (hl : t.length ≤ 1000) : Con Tryz.prog noMv 149 [str t, str [45]] [] (fun r h => r = bool (decide (t.take 1 = [45])) ∧ h = []) := by
 refine con_of2 k_c_HasPrefix1_fits rfl fun C hP hmv => ?_
 unfold k_c_HasPrefix1
 have h1 : ([45] : Str).length = 1 := rfl
 refine cx_seq (cx_ops ?_)
 refine ax_q (q_mov rfl) ?_
 refine ax_nil (cx_keep rfl rfl (cx_seq (cx_ops ?_)))
 refine ax_q (q_mov rfl) ?_
 refine ax_q (q_lenT rfl) ?_
 refine ax_q (q_mov rfl) ?_
 refine ax_q (q_lenT rfl) ?_
 refine ax_q (q_ibin rfl rfl rfl) ?_
 refine ax_q (q_mov rfl) ?_
 apply ax_and rfl rfl
 ·
  intro g
  have g := dT g
  have g1 : 1 ≤ t.length := by omega
  refine ax_q (q_mov rfl) ?_
  refine ax_q (q_mov rfl) ?_
  refine ax_q (q_lenT rfl) ?_
  refine ax_qe (r' := str (t.take 1)) (q_slcT rfl rfl rfl (by omega) (by omega) (by omega)) (sT_take (by omega)) ?_
  refine ax_q (q_mov rfl) ?_
  refine ax_q (q_sbin rfl rfl rfl) ?_
  exact ax_nil ⟨rfl, by repeat constructor⟩
 refine ax_q (q_mov rfl) ?_
 refine ax_nil (cx_keep rfl rfl ?_)
 refine cx_ret (ret0 rfl rfl ?_)
 exact ⟨by rw [hasp_eq]; rfl, rfl⟩


/- internal/stringslite.TrimPrefix -/
def k_c_TrimPrefix0 : XCode :=
 .seq (.ops [.op (some 4) (.mov (.k (.str [])))])
 (.keep [0, 1] (.seq (.seq (.ops [.op (some 5) (.mov (.t 0)),
   .op (some 6) (.mov (.t 1)),
   .call (some 7) 149 [.t 5, .t 6]])
  (.keep [0, 1, 7] (.cond (.t 7)
  (.seq (.ops [.op (some 8) (.mov (.t 0)),
    .op (some 9) (.mov (.t 1)),
    .op (some 10) (.lenT (.t 9)),
    .op (some 11) (.slcT (.t 8) (some (.t 10)) none),
    .op (some 4) (.mov (.t 11))])
   (.keep [4] (.ret)))
  (.skip))))
 (.keep [0] (.seq (.ops [.op (some 12) (.mov (.t 0)),
   .op (some 4) (.mov (.t 12))])
 (.keep [4] (.ret))))))
theorem k_c_TrimPrefix0_fits : fitsF Tryz.prog 134 ⟨13, k_c_TrimPrefix0, [.t 4]⟩ = true := by kernel_rfl
theorem c_TrimPrefix0 {t : Str} (hl : t.length ≤ 1000) : Con Tryz.prog noMv 134 [str t, str [45]] [] (fun r h => r = str (trimM t) ∧ h = []) := by
 refine con_of2 k_c_TrimPrefix0_fits rfl fun C hP hmv => ?_
 unfold k_c_TrimPrefix0
 have h1 : ([45] : Str).length = 1 := rfl
 refine cx_seq (cx_ops ?_)
 refine ax_q (q_mov rfl) ?_
 refine ax_nil (cx_keep rfl rfl (cx_seq (cx_seq (cx_ops ?_))))
 refine ax_q (q_mov rfl) ?_
 refine ax_q (q_mov rfl) ?_
 refine ax_call rfl (vc_pure0 (c_HasPrefix1 (t := t) ?_) hP rfl rfl ?_)
 ·
  assumption
 refine ax_nil (cx_keep rfl rfl ?_)
 refine cx_cond rfl (fun h0 => ?_) (fun h0 => ?_)
 ·
  have h0 : t.take 1 = [45] := of_decide_eq_true h0
  have hl1 := take1_len h0
  refine cx_seq (cx_ops ?_)
  refine ax_q (q_mov rfl) ?_
  refine ax_q (q_mov rfl) ?_
  refine ax_q (q_lenT rfl) ?_
  refine ax_qe (r' := str (t.drop 1)) (q_slcT rfl rfl rfl (by omega) (by omega) (by omega)) (sT_drop (by omega)) ?_
  refine ax_q (q_mov rfl) ?_
  refine ax_nil (cx_keep rfl rfl ?_)
  refine cx_ret (ret0 rfl rfl ?_)
  exact ⟨by unfold trimM; rw [if_pos h0]; rfl, rfl⟩
 ·
  have h0 : ¬ t.take 1 = [45] := of_decide_eq_false h0
  refine cx_skip ?_
  refine cx_keep rfl rfl (cx_seq (cx_ops ?_))
  refine ax_q (q_mov rfl) ?_
  refine ax_q (q_mov rfl) ?_
  refine ax_nil (cx_keep rfl rfl ?_)
  refine cx_ret (ret0 rfl rfl ?_)
  exact ⟨by unfold trimM; rw [if_neg h0]; rfl, rfl⟩


/- strings.TrimPrefix -/
def k_c_TrimPrefix : XCode :=
 .seq (.ops [.op (some 4) (.mov (.k (.str [])))])
 (.keep [0, 1] (.seq (.ops [.op (some 5) (.mov (.t 0)),
   .op (some 6) (.mov (.t 1)),
   .call (some 7) 134 [.t 5, .t 6],
   .op (some 4) (.mov (.t 7))])
 (.keep [4] (.ret))))
theorem k_c_TrimPrefix_fits : fitsF Tryz.prog 121 ⟨8, k_c_TrimPrefix, [.t 4]⟩ = true := by kernel_rfl
theorem c_TrimPrefix {t : Str} (hl : t.length ≤ 1000) : Con Tryz.prog noMv 121 [str t, str [45]] [] (fun r h => r = str (trimM t) ∧ h = []) := by
 refine con_of2 k_c_TrimPrefix_fits rfl fun C hP hmv => ?_
 unfold k_c_TrimPrefix
 refine cx_seq (cx_ops ?_)
 refine ax_q (q_mov rfl) ?_
 refine ax_nil (cx_keep rfl rfl (cx_seq (cx_ops ?_)))
 refine ax_q (q_mov rfl) ?_
 refine ax_q (q_mov rfl) ?_
 refine ax_call rfl (vc_pure0 (c_TrimPrefix0 (t := t) ?_) hP rfl rfl ?_)
 ·
  assumption
 refine ax_q (q_mov rfl) ?_
 refine ax_nil (cx_keep rfl rfl ?_)
 refine cx_ret (ret0 rfl rfl ?_)
 exact ⟨rfl, rfl⟩


/- loop.example/g00332/impl.readNumber -/
def k_c_readNumber : XCode :=
 .seq (.ops [.op (some 2) (.mov (.k (.int .i64 0))),
   .op (some 3) (.mov (.k (.bool false)))])
 (.keep [0] (.seq (.ops [.op (some 7) (.mov (.t 0)),
   .call (some 8) 120 [.t 7],
   .op (some 6) (.mov (.t 8)),
   .op (some 9) (.ext (.t 6) 0),
   .op (some 10) (.ext (.t 6) 1),
   .op (some 4) (.mov (.t 9)),
   .op (some 5) (.mov (.t 10))])
 (.keep [0, 4, 5] (.seq (.ops [.op (some 11) (.mov (.t 4)),
   .op (some 12) (.mov (.t 5)),
   .op (some 13) (.eqi false (.t 12)),
   .op (some 14) (.mov (.t 13)),
   .andor 19 true 3 14 [.op (some 15) (.mov (.t 4)), .call (some 16) 98 [.t 15], .op (some 17) (.mov (.t 0)), .op (some 18) (.bin .eql (.t 16) (.t 17))] (.t 18),
   .op (some 20) (.mov (.t 19)),
   .andor 25 true 9 20 [.op (some 21) (.mov (.t 0)), .call (some 22) 121 [.t 21, .k (.str [45])], .op (some 23) (.lenT (.t 22)), .op (some 24) (.bin .leq (.t 23) (.k (.int .i64 18)))] (.t 24),
   .op (some 2) (.mov (.t 11)),
   .op (some 3) (.mov (.t 25))])
 (.keep [2, 3] (.ret))))))
theorem k_c_readNumber_fits : fitsF Tryz.prog 110 ⟨26, k_c_readNumber, [.t 2, .t 3]⟩ = true := by kernel_rfl
theorem c_readNumber {t : Str} (hl : t.length ≤ 18) : Con Tryz.prog noMv 110 [str t] [] (fun r h => r = .tup [int (rdF t).1, bool (rdF t).2] ∧ h = []) := by
 refine con_of2 k_c_readNumber_fits rfl fun C hP hmv => ?_
 unfold k_c_readNumber
 refine cx_seq (cx_ops ?_)
 refine ax_q (q_mov rfl) ?_
 refine ax_q (q_mov rfl) ?_
 refine ax_nil (cx_keep rfl rfl (cx_seq (cx_ops ?_)))
 refine ax_q (q_mov rfl) ?_
 refine ax_call rfl (vc_pure (c_Atoi (s := t) hl) hP rfl ?_)
 rintro r h ⟨⟨v, rfl, hv⟩, rfl⟩
 refine ⟨id, [], ⟨rfl, rfl, rfl, rfl, rfl, fun h => absurd h Bool.false_ne_true⟩, ?_⟩
 have hbd := atoi_bd hl
 have htl := @trimM_le t
 have hil := itoa_len18 hbd
 refine ax_q (q_mov rfl) ?_
 refine ax_q (q_ext rfl rfl) ?_
 refine ax_q (q_ext rfl rfl) ?_
 refine ax_q (q_mov rfl) ?_
 refine ax_q (q_mov rfl) ?_
 refine ax_nil (cx_keep rfl rfl (cx_seq (cx_ops ?_)))
 refine ax_q (q_mov rfl) ?_
 refine ax_q (q_mov rfl) ?_
 refine ax_qe (r' := bool (Lib.atoi t).isSome) (q_eqi (b := (Lib.atoi t).isSome) rfl (eqi_of hv)) (rfl) ?_
 refine ax_q (q_mov rfl) ?_
 apply ax_and rfl rfl
 ·
  intro g
  refine ax_q (q_mov rfl) ?_
  refine ax_call rfl (vc_pure0 (c_Itoa (n := (Lib.atoi t).getD 0) ?_ ?_) hP rfl rfl ?_)
  ·
   first | assumption | omega
  ·
   first | assumption | omega
  refine ax_q (q_mov rfl) ?_
  refine ax_q (q_sbin rfl rfl rfl) ?_
  exact ax_nil ⟨rfl, by repeat constructor⟩
 refine ax_q (q_mov rfl) ?_
 apply ax_and rfl rfl
 ·
  intro g
  have g := (fun h => And.intro (id (and_T h).1) (dT (and_T h).2)) g
  refine ax_q (q_mov rfl) ?_
  refine ax_call rfl (vc_pure0 (c_TrimPrefix (t := t) ?_) hP rfl rfl ?_)
  ·
   first | assumption | omega
  refine ax_q (q_lenT rfl) ?_
  refine ax_q (q_ibin rfl rfl rfl) ?_
  exact ax_nil ⟨rfl, by repeat constructor⟩
 refine ax_q (q_mov rfl) ?_
 refine ax_q (q_mov rfl) ?_
 refine ax_nil (cx_keep rfl rfl ?_)
 refine cx_ret (ret0 rfl rfl ?_)
 exact ⟨by rw [decide_eq_true (show ((trimM t).length : Int) ≤ 18 by omega), Bool.and_true, rdF_2, rdF_1]; rfl, rfl⟩


/- (ptr loop.example/g00332/impl.parser).digits -/
def k_c_digits : XCode :=
 .seq (.ops [.op (some 2) (.mov (.k (.int .i64 0))),
   .op (some 3) (.mov (.k (.bool false)))])
 (.keep [0] (.seq (.seq (.ops [.op (some 6) (.mov (.t 0)),
   .op (some 7) (.nilck (.t 6)),
   .op (some 8) (.fadr (.t 7) 0),
   .op (some 9) (.load1 (.t 8)),
   .op (some 10) (.lenS (.t 9)),
   .op (some 11) (.bin .eql (.t 10) (.k (.int .i64 0)))])
  (.keep [0, 11] (.cond (.t 11)
  (.seq (.ops [.op (some 2) (.mov (.k (.int .i64 0))),
    .op (some 3) (.mov (.k (.bool false)))])
   (.keep [2, 3] (.ret)))
  (.skip))))
 (.keep [0] (.seq (.ops [.op (some 13) (.mov (.t 0)),
   .op (some 14) (.nilck (.t 13)),
   .op (some 15) (.fadr (.t 14) 0),
   .op (some 16) (.load1 (.t 15)),
   .op (some 17) (.iadr 1 (.t 16) (.k (.int .i64 0))),
   .op (some 18) (.load1 (.t 17)),
   .call (some 19) 110 [.t 18],
   .op (some 12) (.mov (.t 19)),
   .op (some 20) (.ext (.t 12) 0),
   .op (some 21) (.ext (.t 12) 1),
   .op (some 4) (.mov (.t 20)),
   .op (some 5) (.mov (.t 21))])
 (.keep [4, 5] (.seq (.ops [.op (some 22) (.mov (.t 4)),
   .op (some 23) (.mov (.t 5)),
   .op (some 24) (.mov (.t 23)),
   .andor 27 true 2 24 [.op (some 25) (.mov (.t 4)), .call (some 26) 93 [.t 25]] (.t 26),
   .op (some 2) (.mov (.t 22)),
   .op (some 3) (.mov (.t 27))])
 (.keep [2, 3] (.ret))))))))
theorem k_c_digits_fits : fitsF Tryz.prog 99 ⟨28, k_c_digits, [.t 2, .t 3]⟩ = true := by kernel_rfl
theorem c_digits {s : PS} (hs : s.ok) : Con Tryz.prog noMv 99 [.d (.ip [.sl 1 (s.tk.map strRow), .sl 7 (s.ns.map GExprNode.row), .int .i64 (s.op : Int)])] [] (fun r h => r = .tup [int (dgP s.tk).1, bool (dgP s.tk).2] ∧ h = []) := by
 refine con_of2 k_c_digits_fits rfl fun C hP hmv => ?_
 unfold k_c_digits
 have hs1 := hs.n
 have hs2 := hs.m
 have hs3 := hs.o
 refine cx_seq (cx_ops ?_)
 refine ax_q (q_mov rfl) ?_
 refine ax_q (q_mov rfl) ?_
 refine ax_nil (cx_keep rfl rfl (cx_seq (cx_seq (cx_ops ?_))))
 refine ax_q (q_mov rfl) ?_
 first | refine ax_q (q_nilck_ptr rfl) ?_ | refine ax_q (q_nilck_rptr rfl) ?_ | refine ax_q (q_nilck_ip rfl) ?_
 first | refine ax_q (q_fadr_ptr rfl) ?_ | refine ax_q (q_fadr_rptr rfl) ?_ | refine ax_q (q_fadr_ip rfl) ?_
 first | refine ax_q (q_load1_ptr rfl rfl rfl) ?_ | refine ax_q (q_load1_ip rfl) ?_
 refine ax_q (q_lenS_map rfl) ?_
 refine ax_q (q_ibin rfl rfl rfl) ?_
 refine ax_nil (cx_keep rfl rfl ?_)
 refine cx_cond rfl (fun h0 => ?_) (fun h0 => ?_)
 ·
  have h0 := dT h0
  have ht : s.tk = [] := List.length_eq_zero_iff.1 (by omega)
  refine cx_seq (cx_ops ?_)
  refine ax_q (q_mov rfl) ?_
  refine ax_q (q_mov rfl) ?_
  refine ax_nil (cx_keep rfl rfl ?_)
  refine cx_ret (ret0 rfl rfl ?_)
  exact ⟨by rw [ht]; rfl, rfl⟩
 ·
  have h0 := dF h0
  obtain ⟨t, r, ht⟩ : ∃ t r, s.tk = t :: r := List.exists_cons_of_length_pos (by omega)
  have h0x : 0 < s.tk.length := by omega
  have ht0 : s.tk[0] = t := by simp [ht]
  have okt := hs.t t (by rw [ht]; exact List.mem_cons_self)
  have hl18 := okt.2.1
  refine cx_skip ?_
  refine cx_keep rfl rfl (cx_seq (cx_ops ?_))
  refine ax_q (q_mov rfl) ?_
  first | refine ax_q (q_nilck_ptr rfl) ?_ | refine ax_q (q_nilck_rptr rfl) ?_ | refine ax_q (q_nilck_ip rfl) ?_
  first | refine ax_q (q_fadr_ptr rfl) ?_ | refine ax_q (q_fadr_rptr rfl) ?_ | refine ax_q (q_fadr_ip rfl) ?_
  first | refine ax_q (q_load1_ptr rfl rfl rfl) ?_ | refine ax_q (q_load1_ip rfl) ?_
  refine ax_q (q_ixI rfl rfl (by omega) (mapAt (k := 0) h0x)) ?_
  first | refine ax_q (q_load1_ptr rfl rfl rfl) ?_ | refine ax_q (q_load1_ip rfl) ?_
  refine ax_call rfl (vc_pure0 (c_readNumber (t := s.tk[0]) ?_) hP rfl rfl ?_)
  ·
   rw [ht0]; exact hl18
  refine ax_q (q_mov rfl) ?_
  refine ax_q (q_ext rfl rfl) ?_
  refine ax_q (q_ext rfl rfl) ?_
  refine ax_q (q_mov rfl) ?_
  refine ax_q (q_mov rfl) ?_
  refine ax_nil (cx_keep rfl rfl (cx_seq (cx_ops ?_)))
  refine ax_q (q_mov rfl) ?_
  refine ax_q (q_mov rfl) ?_
  refine ax_q (q_mov rfl) ?_
  apply ax_and rfl rfl
  ·
   intro g
   refine ax_q (q_mov rfl) ?_
   refine ax_call rfl (vc_pure0 (c_isNumber (n := (rdF s.tk[0]).1) ) hP rfl rfl ?_)
   exact ax_nil ⟨rfl, by repeat constructor⟩
  refine ax_q (q_mov rfl) ?_
  refine ax_q (q_mov rfl) ?_
  refine ax_nil (cx_keep rfl rfl ?_)
  refine cx_ret (ret0 rfl rfl ?_)
  exact ⟨by rw [ht0, ht]; rfl, rfl⟩


/- slices.Index[[]string,string] -/
def k_c_Index_Str : XCode :=
 .seq (.ops [.op (some 4) (.mov (.k (.int .i64 0)))])
 (.keep [0, 1] (.seq (.seq (.ops [.op (some 6) (.mov (.t 0)),
   .op (some 7) (.lenS (.t 6)),
   .op (some 8) (.mov (.k (.int .i64 0)))])
  (.keep [0, 1, 7, 8] (.block 0 (.loop (.seq (.ops [.op (some 9) (.bin .lss (.t 8) (.t 7))])
   (.keep [0, 1, 7, 8, 9] (.seq (.cond (.t 9)
    (.skip)
    (.exit 0))
   (.keep [0, 1, 7, 8] (.seq (.block 1 (.seq (.ops [.op (some 10) (.mov (.t 8)),
     .op (some 5) (.mov (.t 10))])
    (.keep [0, 1, 5, 7, 8] (.seq (.ops [.op (some 11) (.mov (.t 1)),
     .op (some 12) (.mov (.t 0)),
     .op (some 13) (.mov (.t 5)),
     .op (some 14) (.iadr 1 (.t 12) (.t 13)),
     .op (some 15) (.load1 (.t 14)),
     .op (some 16) (.bin .eql (.t 11) (.t 15))])
    (.keep [0, 1, 5, 7, 8, 16] (.cond (.t 16)
    (.seq (.ops [.op (some 17) (.mov (.t 5)),
      .op (some 4) (.mov (.t 17))])
     (.keep [4] (.ret)))
    (.skip)))))))
   (.keep [0, 1, 7, 8] (.ops [.op (some 18) (.bin .add (.t 8) (.k (.int .i64 1))),
    .op (some 8) (.mov (.t 18))])))))))))))
 (.keep [] (.seq (.ops [.op (some 4) (.mov (.k (.int .i64 (-1))))])
 (.keep [4] (.ret))))))
theorem k_c_Index_Str_fits : fitsF Tryz.prog 102 ⟨19, k_c_Index_Str, [.t 4]⟩ = true := by kernel_rfl
theorem c_Index_Str {xs : List Str} {v : Str} (hw : xs.length ≤ 9223372036854775807) : Con Tryz.prog noMv 102 [.d (.sl 1 (xs.map strRow)), str v] [] (fun r h => r = int (idxOf (fun s => eqb v s) xs 0) ∧ h = []) := by
 refine con_of2 k_c_Index_Str_fits rfl fun C hP hmv => ?_
 unfold k_c_Index_Str
 refine cx_seq (cx_ops ?_)
 refine ax_q (q_mov rfl) ?_
 refine ax_nil (cx_keep rfl rfl (cx_seq (cx_seq (cx_ops ?_))))
 refine ax_q (q_mov rfl) ?_
 refine ax_q (q_lenS_map rfl) ?_
 refine ax_q (q_mov rfl) ?_
 refine ax_nil (cx_keep rfl rfl (cx_block ?_))
 refine cx_loopU (fun n k => k ≤ xs.length ∧ n = xs.length - k ∧ ∀ i, i < k → ∀ x, xs[i]? = some x → (fun s => eqb v s) x = false) (fun k : Nat => [(8, int k)]) (fun _ => []) ⟨_, 0, ⟨by omega, rfl, fun i hi => by omega⟩, by repeat constructor⟩ ?_
 rintro n k ⟨hk, rfl, ht⟩
 refine cx_seq (cx_ops ?_)
 refine ax_q (q_ibin rfl rfl rfl) ?_
 refine ax_nil (cx_keep rfl rfl (cx_seq ?_))
 refine cx_cond rfl (fun h0 => ?_) (fun h0 => ?_)
 ·
  have h0 := dT h0
  have h0x : k < xs.length := by omega
  refine cx_skip ?_
  refine cx_keep rfl rfl (cx_seq (cx_block (cx_seq (cx_ops ?_))))
  refine ax_q (q_mov rfl) ?_
  refine ax_q (q_mov rfl) ?_
  refine ax_nil (cx_keep rfl rfl (cx_seq (cx_ops ?_)))
  refine ax_q (q_mov rfl) ?_
  refine ax_q (q_mov rfl) ?_
  refine ax_q (q_mov rfl) ?_
  refine ax_q (q_ix rfl rfl (mapAt h0x)) ?_
  first | refine ax_q (q_load1_ptr rfl rfl rfl) ?_ | refine ax_q (q_load1_ip rfl) ?_
  refine ax_q (q_sbin rfl rfl rfl) ?_
  refine ax_nil (cx_keep rfl rfl ?_)
  refine cx_cond rfl (fun h1 => ?_) (fun h1 => ?_)
  ·
   have h1 : eqb v xs[k] = true := eqb_t (dT h1)
   refine cx_seq (cx_ops ?_)
   refine ax_q (q_mov rfl) ?_
   refine ax_q (q_mov rfl) ?_
   refine ax_nil (cx_keep rfl rfl ?_)
   refine cx_ret (ret0 rfl rfl ?_)
   exact ⟨by rw [idxOf_hit h0x ht h1]; rfl, rfl⟩
  ·
   have h1 : eqb v xs[k] = false := eqb_f (dF h1)
   refine cx_skip ?_
   refine cx_keep rfl rfl (cx_ops ?_)
   refine ax_qe (r' := int ((k + 1 : Nat) : Int)) (q_ibin rfl rfl rfl) (by rw [wi (by omega) (by omega)]; rfl) ?_
   refine ax_q (q_mov rfl) ?_
   refine ax_nil ?_
   exact ⟨_, k + 1, by omega, ⟨by omega, rfl, before_step h0x ht h1⟩, by repeat constructor⟩
 ·
  have h0 := dF h0
  have h0x : k = xs.length := by omega
  refine cx_exit rfl ?_
  refine cx_keep rfl rfl (cx_seq (cx_ops ?_))
  refine ax_q (q_mov rfl) ?_
  refine ax_nil (cx_keep rfl rfl ?_)
  refine cx_ret (ret0 rfl rfl ?_)
  exact ⟨by rw [idxOf_none (fun i hi => ht i (by omega))]; rfl, rfl⟩


/- (ptr loop.example/g00332/impl.parser).value -/
def k_c_pvalue : XCode :=
 .seq (.ops [.op (some 2) (.alloc [.int .i64 0, .int .i64 0, .str []]),
   .op (some 3) (.mov (.k (.bool false)))])
 (.keep [0, 2] (.seq (.seq (.ops [.op (some 9) (.mov (.t 0)),
   .call (some 10) 99 [.t 9],
   .op (some 8) (.mov (.t 10)),
   .op (some 11) (.ext (.t 8) 0),
   .op (some 12) (.ext (.t 8) 1),
   .op (some 4) (.mov (.t 11)),
   .op (some 5) (.mov (.t 12))])
  (.keep [0, 2, 4, 5] (.seq (.ops [.op (some 13) (.mov (.t 5))])
  (.keep [0, 2, 4, 13] (.cond (.t 13)
  (.seq (.ops [.op (some 14) (.mov (.t 0)),
    .call (some 15) 78 [.t 14]])
   (.keep [2, 4] (.seq (.ops [.op (some 16) (.mov (.t 4)),
    .call (some 17) 73 [.t 16],
    .op none (.store 3 (.t 2) (.t 17)),
    .op (some 3) (.mov (.k (.bool true)))])
   (.keep [2, 3] (.ret)))))
  (.skip))))))
 (.keep [0, 2] (.seq (.seq (.ops [.op (some 18) (.mov (.t 0)),
   .op (some 19) (.bslice 1 [.k (.str [110, 117, 108, 108])]),
   .call (some 20) 81 [.t 18, .t 19]])
  (.keep [0, 2, 20] (.cond (.t 20)
  (.seq (.ops [.op (some 21) (.build [.int .i64 0, .int .i64 0, .str []] []),
    .op none (.store 3 (.t 2) (.t 21)),
    .op (some 3) (.mov (.k (.bool true)))])
   (.keep [2, 3] (.ret)))
  (.skip))))
 (.keep [0, 2] (.seq (.seq (.ops [.op (some 22) (.mov (.t 0)),
   .op (some 23) (.nilck (.t 22)),
   .op (some 24) (.fadr (.t 23) 0),
   .op (some 25) (.load1 (.t 24)),
   .op (some 26) (.lenS (.t 25)),
   .op (some 27) (.bin .gtr (.t 26) (.k (.int .i64 0))),
   .op (some 28) (.mov (.t 27)),
   .andor 37 true 6 28 [.op (some 29) (.mov (.t 0)), .op (some 30) (.nilck (.t 29)), .op (some 31) (.fadr (.t 30) 0), .op (some 32) (.load1 (.t 31)), .op (some 33) (.iadr 1 (.t 32) (.k (.int .i64 0))), .op (some 34) (.load1 (.t 33)), .op (some 35) (.idxS (.t 34) (.k (.int .i64 0))), .op (some 36) (.bin .eql (.t 35) (.k (.int .u8 39)))] (.t 36)])
  (.keep [0, 2, 37] (.cond (.t 37)
  (.seq (.ops [.op (some 38) (.mov (.t 0)),
    .op (some 39) (.nilck (.t 38)),
    .op (some 40) (.fadr (.t 39) 0),
    .op (some 41) (.load1 (.t 40)),
    .op (some 42) (.iadr 1 (.t 41) (.k (.int .i64 0))),
    .op (some 43) (.load1 (.t 42)),
    .op (some 6) (.mov (.t 43))])
   (.keep [0, 2, 6] (.seq (.ops [.op (some 44) (.mov (.t 6)),
    .op (some 45) (.mov (.t 6)),
    .op (some 46) (.lenT (.t 45)),
    .op (some 47) (.bin .sub (.t 46) (.k (.int .i64 1))),
    .op (some 48) (.slcT (.t 44) (some (.k (.int .i64 1))) (some (.t 47))),
    .op (some 49) (.build [.int .i64 0, .int .i64 0, .str []] [(0, 1, .k (.int .i64 2)), (2, 1, .t 48)]),
    .op (some 7) (.alloc [.int .i64 0, .int .i64 0, .str []]),
    .op none (.store 3 (.t 7) (.t 49))])
   (.keep [0, 2, 7] (.seq (.ops [.op (some 50) (.loadN 3 (.t 7)),
    .call (some 51) 64 [.t 50]])
   (.keep [0, 2, 7, 51] (.cond (.t 51)
   (.seq (.ops [.op (some 52) (.mov (.t 0)),
     .call (some 53) 78 [.t 52]])
    (.keep [2, 7] (.seq (.ops [.op (some 54) (.loadN 3 (.t 7)),
     .op none (.store 3 (.t 2) (.t 54)),
     .op (some 3) (.mov (.k (.bool true)))])
    (.keep [2, 3] (.ret)))))
   (.skip))))))))
  (.skip))))
 (.keep [2] (.seq (.ops [.op (some 55) (.build [.int .i64 0, .int .i64 0, .str []] []),
   .op none (.store 3 (.t 2) (.t 55)),
   .op (some 3) (.mov (.k (.bool false)))])
 (.keep [2, 3] (.ret))))))))))
theorem k_c_pvalue_fits : fitsF Tryz.prog 111 ⟨56, k_c_pvalue, [.cN 2 3, .t 3]⟩ = true := by kernel_rfl
set_option maxHeartbeats 4000000 in
theorem c_pvalue {s : PS} (hs : s.ok) : Con Tryz.prog noMv 111 [.ptr 1000 0] [(1000, .box [.d (.sl 1 (s.tk.map strRow)), .osl 1001 7 0 s.ns.length, int (s.op : Int)]), (1001, .rows 7 (s.ns.map GExprNode.row))] (fun r h => r = .tup [(vaP s).1.1.av, bool (vaP s).1.2] ∧ h = [(1000, .box [.d (.sl 1 ((vaP s).2.tk.map strRow)), .osl 1001 7 0 (vaP s).2.ns.length, int ((vaP s).2.op : Int)]), (1001, .rows 7 ((vaP s).2.ns.map GExprNode.row))]) := by
 refine con_of2 k_c_pvalue_fits rfl fun C hP hmv => ?_
 unfold k_c_pvalue
 have hs1 := hs.n
 have hs2 := hs.m
 have hs3 := hs.o
 refine cx_seq (cx_ops ?_)
 refine ax_e (e_alloc (by decide) rfl rfl) ?_
 refine ax_q (q_mov rfl) ?_
 refine ax_nil (cx_keep rfl rfl (cx_seq (cx_seq (cx_ops ?_))))
 refine ax_q (q_mov rfl) ?_
 first | refine ax_call rfl (vc_pure0 (c_digits (s := s) ?_) hP rfl rfl ?_) | refine ax_call rfl (vc_lend0 (c_digits (s := s) ?_) hP (by repeat (first | exact lal_id _ rfl | exact LAL.nil | refine LAL.cons ?_ ?_ | exact la_id _ rfl | exact LA.lend (lend_whole rfl (by first | (simp; done) | (rw [List.length_map]; rfl))) | refine LA.agg ?_ | refine LA.fn ?_ | refine LA.lend ?_ | exact Lend.d _ | exact Lend.zs _ | exact lend_whole rfl (by first | (simp; done) | (rw [List.length_map]; rfl)) | refine Lend.ptr rfl ?_ | refine Lend.fn ?_ | exact LendL.nil | refine LendL.cons ?_ ?_)) rfl rfl ?_)
 ·
  assumption
 refine ax_q (q_mov rfl) ?_
 refine ax_q (q_ext rfl rfl) ?_
 refine ax_q (q_ext rfl rfl) ?_
 refine ax_q (q_mov rfl) ?_
 refine ax_q (q_mov rfl) ?_
 refine ax_nil (cx_keep rfl rfl (cx_seq (cx_ops ?_)))
 refine ax_q (q_mov rfl) ?_
 refine ax_nil (cx_keep rfl rfl ?_)
 refine cx_cond rfl (fun h0 => ?_) (fun h0 => ?_)
 ·
  skip
  obtain ⟨t, r, ht⟩ := dg_cons h0
  refine cx_seq (cx_ops ?_)
  refine ax_q (q_mov rfl) ?_
  refine ax_call rfl (vcall_own (c_take hs ht) hP hmv false (fun e => bif Nat.beq e 1000 then 1000 else 1001) [1000, 1001] ⟨rfl, rfl, rfl, rfl, ⟨rfl, rfl, trivial⟩, rfl, rfl, rfl⟩ (.pass rfl rfl .nil) ?_)
  rintro r h ⟨rfl, rfl⟩
  refine ⟨(fun e => bif Nat.beq e 1000 then 1000 else 1001), [], ⟨rfl, rfl, rfl, rfl, mem2 rfl rfl, rfl, rfl, fun h => absurd h Bool.false_ne_true⟩, ?_⟩
  try dsimp only [dpP]
  refine ax_nil (cx_keep rfl rfl (cx_seq (cx_ops ?_)))
  refine ax_q (q_mov rfl) ?_
  refine ax_call rfl (vc_pure0 (c_numberValue  ) hP rfl rfl ?_)
  refine ax_e (e_st rfl rfl rfl rfl rfl rfl rfl) ?_
  refine ax_q (q_mov rfl) ?_
  refine ax_nil (cx_keep rfl rfl ?_)
  refine cx_ret (retN id [1000, 1001] rfl rfl rfl rfl rfl ?_)
  rw [vaP_1 h0]; exact ⟨rfl, rfl⟩
 ·
  skip
  refine cx_skip ?_
  refine cx_keep rfl rfl (cx_seq (cx_seq (cx_ops ?_)))
  refine ax_q (q_mov rfl) ?_
  refine ax_e (e_bsliceD (rows := [strRow [110, 117, 108, 108]]) rfl) ?_
  refine ax_call rfl (vcall_own (c_skip (s := s) (ts := [[110, 117, 108, 108]]) hs (by decide)) hP hmv false (fun e => bif Nat.beq e 1000 then 1000 else 1001) [1000, 1001] ⟨rfl, rfl, rfl, rfl, ⟨rfl, rfl, trivial⟩, rfl, rfl, rfl⟩ (.pass rfl rfl (.pass rfl rfl .nil)) ?_)
  rintro r h ⟨rfl, rfl⟩
  refine ⟨(fun e => bif Nat.beq e 1000 then 1000 else 1001), [], ⟨rfl, rfl, rfl, rfl, mem2 rfl rfl, rfl, rfl, fun h => absurd h Bool.false_ne_true⟩, ?_⟩
  try dsimp only [dpP]
  refine ax_nil (cx_keep rfl rfl ?_)
  refine cx_cond rfl (fun h1 => ?_) (fun h1 => ?_)
  ·
   skip
   rw [skP_t h1]
   refine cx_seq (cx_ops ?_)
   refine ax_q (q_build rfl) ?_
   refine ax_e (e_st rfl rfl rfl rfl rfl rfl rfl) ?_
   refine ax_q (q_mov rfl) ?_
   refine ax_nil (cx_keep rfl rfl ?_)
   refine cx_ret (retN id [1000, 1001] rfl rfl rfl rfl rfl ?_)
   rw [vaP_2 h0 h1]; exact ⟨rfl, rfl⟩
  ·
   skip
   rw [skP_f h1]
   refine cx_skip ?_
   refine cx_keep rfl rfl (cx_seq (cx_seq (cx_ops ?_)))
   refine ax_q (q_mov rfl) ?_
   refine ax_q (q_nilck_ptr rfl) ?_
   refine ax_q (q_fadr_ptr rfl) ?_
   refine ax_q (q_load1_ptr rfl rfl rfl) ?_
   refine ax_q (q_lenS_map rfl) ?_
   refine ax_q (q_ibin rfl rfl rfl) ?_
   refine ax_q (q_mov rfl) ?_
   apply ax_and rfl rfl
   ·
    intro g
    have g := dT g
    have h0x : 0 < s.tk.length := by omega
    have okt := hs.t (s.tk.headD []) (hd_mem h0x)
    have hl1 : 0 < (s.tk.headD []).length := okt.1
    refine ax_q (q_mov rfl) ?_
    refine ax_q (q_nilck_ptr rfl) ?_
    refine ax_q (q_fadr_ptr rfl) ?_
    refine ax_q (q_load1_ptr rfl rfl rfl) ?_
    refine ax_q (q_ixI (row := strRow (s.tk.headD [])) rfl rfl (by omega) (hd_row h0x)) ?_
    first | refine ax_q (q_load1_ptr rfl rfl rfl) ?_ | refine ax_q (q_load1_ip rfl) ?_
    refine ax_qe (r' := .d (.int .u8 (((s.tk.headD []).headD 0).toNat : Int))) (q_idxN (n := 0) rfl rfl hl1) (hd_get hl1) ?_
    refine ax_q (q_ibin rfl rfl rfl) ?_
    exact ax_nil ⟨rfl, by repeat constructor⟩
   refine ax_nil (cx_keep rfl rfl ?_)
   refine cx_cond rfl (fun h2 => ?_) (fun h2 => ?_)
   ·
    have h2 := (fun h => And.intro (dT (and_T h).1) (dT (and_T h).2)) h2
    have h0x : 0 < s.tk.length := by omega
    obtain ⟨t, r, ht⟩ : ∃ t r, s.tk = t :: r := List.exists_cons_of_length_pos h0x
    have okt := hs.t t (by rw [ht]; exact List.mem_cons_self)
    have hrow : (s.tk.map strRow)[0]? = some (strRow t) := by rw [ht]; rfl
    have hq : t.head? = some 39 := (hd_39 okt.1).1 (by have := h2.2; rw [ht] at this; exact this)
    have h2l := okt.2.2 hq
    have h18 := okt.2.1
    refine cx_seq (cx_ops ?_)
    refine ax_q (q_mov rfl) ?_
    refine ax_q (q_nilck_ptr rfl) ?_
    refine ax_q (q_fadr_ptr rfl) ?_
    refine ax_q (q_load1_ptr rfl rfl rfl) ?_
    refine ax_q (q_ixI (row := strRow t) rfl rfl (by omega) hrow) ?_
    first | refine ax_q (q_load1_ptr rfl rfl rfl) ?_ | refine ax_q (q_load1_ip rfl) ?_
    refine ax_q (q_mov rfl) ?_
    refine ax_nil (cx_keep rfl rfl (cx_seq (cx_ops ?_)))
    refine ax_q (q_mov rfl) ?_
    refine ax_q (q_mov rfl) ?_
    refine ax_q (q_lenT rfl) ?_
    refine ax_q (q_sub rfl rfl (by omega)) ?_
    refine ax_qe (r' := str ((t.drop 1).take (t.length - 2))) (q_slcT rfl rfl rfl (by omega) (by omega) (by omega)) (sT_mid (by omega) (by omega)) ?_
    refine ax_q (q_build rfl) ?_
    refine ax_e (e_alloc (by decide) rfl rfl) ?_
    refine ax_e (e_st rfl rfl rfl rfl rfl rfl rfl) ?_
    refine ax_nil (cx_keep rfl rfl (cx_seq (cx_ops ?_)))
    refine ax_q (q_ldN rfl rfl rfl) ?_
    refine ax_call rfl (vc_pure0 (c_ValueOK (v := ⟨2, 0, (t.drop 1).take (t.length - 2)⟩) ?_) hP rfl rfl ?_)
    ·
     simp; omega
    refine ax_nil (cx_keep rfl rfl ?_)
    refine cx_cond rfl (fun h3 => ?_) (fun h3 => ?_)
    ·
     skip
     refine cx_seq (cx_ops ?_)
     refine ax_q (q_mov rfl) ?_
     refine ax_call rfl (vcall_own (c_take hs ht) hP hmv false (fun e => bif Nat.beq e 1000 then 1000 else 1001) [1000, 1001] ⟨rfl, rfl, rfl, rfl, ⟨rfl, rfl, trivial⟩, rfl, rfl, rfl⟩ (.pass rfl rfl .nil) ?_)
     rintro r h ⟨rfl, rfl⟩
     refine ⟨(fun e => bif Nat.beq e 1000 then 1000 else 1001), [], ⟨rfl, rfl, rfl, rfl, mem2 rfl rfl, rfl, rfl, fun h => absurd h Bool.false_ne_true⟩, ?_⟩
     try dsimp only [dpP]
     refine ax_nil (cx_keep rfl rfl (cx_seq (cx_ops ?_)))
     refine ax_q (q_ldN rfl rfl rfl) ?_
     refine ax_e (e_st rfl rfl rfl rfl rfl rfl rfl) ?_
     refine ax_q (q_mov rfl) ?_
     refine ax_nil (cx_keep rfl rfl ?_)
     refine cx_ret (retN id [1000, 1001] rfl rfl rfl rfl rfl ?_)
     rw [vaP_3 h0 h1 ht hq h3]; exact ⟨rfl, rfl⟩
    ·
     skip
     refine cx_skip ?_
     refine cx_keep rfl rfl (cx_seq (cx_ops ?_))
     refine ax_q (q_build rfl) ?_
     refine ax_e (e_st rfl rfl rfl rfl rfl rfl rfl) ?_
     refine ax_q (q_mov rfl) ?_
     refine ax_nil (cx_keep rfl rfl ?_)
     refine cx_ret (retN id [1000, 1001] rfl rfl rfl rfl rfl ?_)
     rw [show vaP s = ((GValue.zero, false), s) from by first | exact vaP_4 h0 h1 ht h3 | exact vaP_5 hs h0 h1 h2]; exact ⟨rfl, rfl⟩
   ·
    have h2 := (fun h => (and_F h).imp dF dF) h2
    refine cx_skip ?_
    refine cx_keep rfl rfl (cx_seq (cx_ops ?_))
    refine ax_q (q_build rfl) ?_
    refine ax_e (e_st rfl rfl rfl rfl rfl rfl rfl) ?_
    refine ax_q (q_mov rfl) ?_
    refine ax_nil (cx_keep rfl rfl ?_)
    refine cx_ret (retN id [1000, 1001] rfl rfl rfl rfl rfl ?_)
    rw [show vaP s = ((GValue.zero, false), s) from by first | exact vaP_4 h0 h1 ht h3 | exact vaP_5 hs h0 h1 h2]; exact ⟨rfl, rfl⟩


/- (ptr loop.example/g00332/impl.parser).primary -/
def k_c_pprim : XCode :=
 .seq (.ops [.op (some 2) (.mov (.k (.int .i64 0)))])
 (.keep [0] (.seq (.seq (.ops [.op (some 7) (.mov (.t 0)),
   .op (some 8) (.bslice 1 [.k (.str [40])]),
   .call (some 9) 81 [.t 7, .t 8]])
  (.keep [0, 9] (.cond (.t 9)
  (.seq (.ops [.op (some 10) (.mov (.t 0)),
    .op (some 11) (.mov (.t 0)),
    .op (some 12) (.mkbf 56 [.t 11]),
    .call (some 13) 114 [.t 10, .t 12],
    .op (some 3) (.mov (.t 13))])
   (.keep [0, 3] (.seq (.seq (.ops [.op (some 14) (.mov (.t 0)),
     .op (some 15) (.bslice 1 [.k (.str [41])]),
     .call (some 16) 81 [.t 14, .t 15],
     .op (some 17) (.not (.t 16))])
   (.keep [3, 17] (.cond (.t 17)
    (.ops [.call (some 18) 57 [.k (.int .i64 3)]])
    (.skip))))
   (.keep [3] (.seq (.ops [.op (some 19) (.mov (.t 3)),
    .op (some 2) (.mov (.t 19))])
   (.keep [2] (.ret)))))))
  (.skip))))
 (.keep [0] (.seq (.seq (.ops [.op (some 21) (.mov (.t 0)),
   .call (some 22) 111 [.t 21],
   .op (some 20) (.mov (.t 22)),
   .op (some 23) (.ext (.t 20) 0),
   .op (some 24) (.ext (.t 20) 1),
   .op (some 4) (.alloc [.int .i64 0, .int .i64 0, .str []]),
   .op none (.store 3 (.t 4) (.t 23)),
   .op (some 5) (.mov (.t 24))])
  (.keep [0, 4, 5] (.seq (.ops [.op (some 25) (.mov (.t 5))])
  (.keep [0, 4, 25] (.cond (.t 25)
  (.seq (.ops [.op (some 26) (.mov (.t 0)),
    .op (some 27) (.loadN 3 (.t 4)),
    .op (some 28) (.build [.int .i64 0, .int .i64 0, .int .i64 0, .int .i64 0, .int .i64 0, .int .i64 0, .str []] [(0, 1, .k (.int .i64 1)), (4, 3, .t 27)]),
    .call (some 29) 103 [.t 26, .t 28],
    .op (some 2) (.mov (.t 29))])
   (.keep [2] (.ret)))
  (.skip))))))
 (.keep [0] (.seq (.drawE [[], [], [1], [0, 1, 2], [0, 1, 2, 3]] [.op (some 30) (.slcA 1 3 (.g 0)),
   .op (some 31) (.mov (.t 0)),
   .call (some 32) 78 [.t 31]]
  [.call (some 33) 102 [.t 30, .t 32],
   .op (some 6) (.mov (.t 33))])
 (.keep [0, 6] (.seq (.seq (.ops [.op (some 34) (.mov (.t 6)),
   .op (some 35) (.bin .lss (.t 34) (.k (.int .i64 0)))])
  (.keep [0, 6, 35] (.cond (.t 35)
  (.ops [.call (some 36) 57 [.k (.int .i64 3)]])
  (.skip))))
 (.keep [0, 6] (.seq (.ops [.op (some 37) (.mov (.t 0)),
   .op (some 38) (.mov (.t 6)),
   .op (some 39) (.build [.int .i64 0, .int .i64 0, .int .i64 0, .int .i64 0, .int .i64 0, .int .i64 0, .str []] [(0, 1, .k (.int .i64 2)), (3, 1, .t 38)]),
   .call (some 40) 103 [.t 37, .t 39],
   .op (some 2) (.mov (.t 40))])
 (.keep [2] (.ret))))))))))))
theorem k_c_pprim_fits : fitsF Tryz.prog 157 ⟨41, k_c_pprim, [.t 2]⟩ = true := by kernel_rfl
set_option maxHeartbeats 4000000 in
theorem c_pprim {f : Nat} (ih : RC Tryz.prog 56 (prs f 0)) {s s' : PS} {k : Int} (hs : s.ok) (h : prs (f + 1) 7 s = some (s', k)) : Con Tryz.prog (fun e => Nat.beq e 1001) 157 [.ptr 1000 0] [(1000, .box [.d (.sl 1 (s.tk.map strRow)), .osl 1001 7 0 s.ns.length, int (s.op : Int)]), (1001, .rows 7 (s.ns.map GExprNode.row))] (fun r h => r = int k ∧ h = [(1000, .box [.d (.sl 1 (s'.tk.map strRow)), .osl 1001 7 0 s'.ns.length, int (s'.op : Int)]), (1001, .rows 7 (s'.ns.map GExprNode.row))]) := by
 refine con_of2 k_c_pprim_fits rfl fun C hP hmv => ?_
 unfold k_c_pprim
 refine cx_seq (cx_ops ?_)
 refine ax_q (q_mov rfl) ?_
 refine ax_nil (cx_keep rfl rfl (cx_seq (cx_seq (cx_ops ?_))))
 refine ax_q (q_mov rfl) ?_
 refine ax_e (e_bsliceD (rows := [strRow [40]]) rfl) ?_
 refine ax_call rfl (vcall_own (c_skip (s := s) (ts := [[40]]) hs (by decide)) hP hmv false (fun e => bif Nat.beq e 1000 then 1000 else 1001) [1000, 1001] ⟨rfl, rfl, rfl, rfl, ⟨rfl, rfl, trivial⟩, rfl, rfl, rfl⟩ (.pass rfl rfl (.pass rfl rfl .nil)) ?_)
 rintro r h ⟨rfl, rfl⟩
 refine ⟨(fun e => bif Nat.beq e 1000 then 1000 else 1001), [], ⟨rfl, rfl, rfl, rfl, mem2 rfl rfl, rfl, rfl, fun h => absurd h Bool.false_ne_true⟩, ?_⟩
 try dsimp only [dpP]
 refine ax_nil (cx_keep rfl rfl ?_)
 refine cx_cond rfl (fun h0 => ?_) (fun h0 => ?_)
 ·
  skip
  obtain ⟨s1, h1, h2, rfl⟩ := prP_b h h0
  obtain ⟨ok1, op1⟩ := (prs_ro f 0).wi _ _ _ (hs.dp 1) h1
  rw [skP_t h0]
  refine cx_seq (cx_ops ?_)
  refine ax_q (q_mov rfl) ?_
  refine ax_q (q_mov rfl) ?_
  refine ax_q (q_mkbf rfl) ?_
  refine ax_call rfl (vcall_own (c_within ih (prs_ro f 0) (by kernel_rfl) (hs.dp 1) h1) hP hmv false (fun e => bif Nat.beq e 1000 then 1000 else 1001) [1000, 1001] ⟨rfl, rfl, rfl, rfl, ⟨rfl, rfl, trivial⟩, rfl, rfl, rfl⟩ (.pass rfl rfl (.pass rfl rfl .nil)) ?_)
  rintro r h ⟨rfl, rfl⟩
  refine ⟨(fun e => bif Nat.beq e 1000 then 1000 else 1001), [], ⟨rfl, rfl, rfl, rfl, mem2 rfl rfl, rfl, rfl, fun h => absurd h Bool.false_ne_true⟩, ?_⟩
  try dsimp only [dpP]
  refine ax_q (q_mov rfl) ?_
  refine ax_nil (cx_keep rfl rfl (cx_seq (cx_seq (cx_ops ?_))))
  refine ax_q (q_mov rfl) ?_
  refine ax_e (e_bsliceD (rows := [strRow [41]]) rfl) ?_
  refine ax_call rfl (vcall_own (c_skip (s := s1) (ts := [[41]]) ok1 (by decide)) hP hmv false (fun e => bif Nat.beq e 1000 then 1000 else 1001) [1000, 1001] ⟨rfl, rfl, rfl, rfl, ⟨rfl, rfl, trivial⟩, rfl, rfl, rfl⟩ (.pass rfl rfl (.pass rfl rfl .nil)) ?_)
  rintro r h ⟨rfl, rfl⟩
  refine ⟨(fun e => bif Nat.beq e 1000 then 1000 else 1001), [], ⟨rfl, rfl, rfl, rfl, mem2 rfl rfl, rfl, rfl, fun h => absurd h Bool.false_ne_true⟩, ?_⟩
  try dsimp only [dpP]
  refine ax_q (q_not rfl) ?_
  refine ax_nil (cx_keep rfl rfl ?_)
  refine cx_cond rfl (fun h1 => ?_) (fun h1 => ?_)
  ·
   skip
   rw [h2] at h1; cases h1
  ·
   rw [skP_t h2]
   refine cx_skip ?_
   refine cx_keep rfl rfl (cx_seq (cx_ops ?_))
   refine ax_q (q_mov rfl) ?_
   refine ax_q (q_mov rfl) ?_
   refine ax_nil (cx_keep rfl rfl ?_)
   refine cx_ret (retN id [1000, 1001] rfl rfl rfl rfl rfl ?_)
   exact ⟨rfl, rfl⟩
 ·
  skip
  rw [skP_f h0]
  refine cx_skip ?_
  refine cx_keep rfl rfl (cx_seq (cx_seq (cx_ops ?_)))
  refine ax_q (q_mov rfl) ?_
  refine ax_call rfl (vcall_own (c_pvalue hs) hP hmv false (fun e => bif Nat.beq e 1000 then 1000 else 1001) [1000, 1001] ⟨rfl, rfl, rfl, rfl, ⟨rfl, rfl, trivial⟩, rfl, rfl, rfl⟩ (.pass rfl rfl .nil) ?_)
  rintro r h ⟨rfl, rfl⟩
  refine ⟨(fun e => bif Nat.beq e 1000 then 1000 else 1001), [], ⟨rfl, rfl, rfl, rfl, mem2 rfl rfl, rfl, rfl, fun h => absurd h Bool.false_ne_true⟩, ?_⟩
  try dsimp only [dpP]
  refine ax_q (q_mov rfl) ?_
  refine ax_q (q_ext rfl rfl) ?_
  refine ax_q (q_ext rfl rfl) ?_
  refine ax_e (e_alloc (by decide) rfl rfl) ?_
  refine ax_e (e_st rfl rfl rfl rfl rfl rfl rfl) ?_
  refine ax_q (q_mov rfl) ?_
  refine ax_nil (cx_keep rfl rfl (cx_seq (cx_ops ?_)))
  refine ax_q (q_mov rfl) ?_
  refine ax_nil (cx_keep rfl rfl ?_)
  refine cx_cond rfl (fun h2 => ?_) (fun h2 => ?_)
  ·
   skip
   have hn := prP_v h h0 h2
   obtain ⟨okv, opv⟩ := vaP_ok hs
   refine cx_seq (cx_ops ?_)
   refine ax_q (q_mov rfl) ?_
   refine ax_q (q_ldN rfl rfl rfl) ?_
   refine ax_q (q_build rfl) ?_
   refine ax_call rfl (vcall_own (c_pnode (n := ⟨1, 0, 0, 0, (vaP s).1.1⟩) okv hn) hP hmv false (fun e => bif Nat.beq e 1000 then 1000 else 1001) [1000, 1001] ⟨rfl, rfl, rfl, rfl, ⟨rfl, rfl, trivial⟩, rfl, rfl, rfl⟩ (.pass rfl rfl (.pass rfl rfl .nil)) ?_)
   rintro r h ⟨rfl, rfl⟩
   refine ⟨(fun e => bif Nat.beq e 1000 then 1000 else 1001), [], ⟨rfl, rfl, rfl, rfl, mem2 rfl rfl, rfl, rfl, fun h => absurd h Bool.false_ne_true⟩, ?_⟩
   try dsimp only [dpP]
   refine ax_q (q_mov rfl) ?_
   refine ax_nil (cx_keep rfl rfl ?_)
   refine cx_ret (retN id [1000, 1001] rfl rfl rfl rfl rfl ?_)
   exact ⟨rfl, rfl⟩
  ·
   skip
   have hvn := vaP_no h2
   obtain ⟨t, r, ht, hc, hn⟩ := prP_c h h0 h2
   rw [hvn]
   refine cx_skip ?_
   refine cx_keep rfl rfl (cx_seq ?_)
   refine cx_drawL 2 32 (fun _ => false) (fun _ => true) [] ([(1000, .box [.d (.sl 1 ((dpP s 1).tk.map strRow)), .osl 1001 7 0 (dpP s 1).ns.length, int ((dpP s 1).op : Int)]), (1001, .rows 7 ((dpP s 1).ns.map GExprNode.row))]) [[], [0], [31]] [[1000, 1001], [], [1000, 1001]] rfl ?_
   first | refine ⟨_, .inr ⟨rfl, _, rfl, .inr ⟨rfl, rfl, .inr rfl, rfl, rfl⟩, loc_q (q_slcG colsL gtab_cols (by rw [hP]; kernel_rfl) rfl rfl)⟩, ?_⟩
   first | refine ⟨_, .inr ⟨rfl, _, rfl, .inl rfl, loc_q (q_mov rfl)⟩, ?_⟩
   refine ⟨⟨32, _, []⟩, .inl ⟨rfl, rfl, rfl, locl_call (fun e => bif Nat.beq e 1000 then 1000 else 1001) [1000, 1001] (fun e => bif Nat.beq e 1000 then 1000 else 1001) [] rfl (c_take hs ht) hP hmv rfl rfl rfl rfl ⟨rfl, rfl, trivial⟩ rfl rfl rfl (.pass rfl rfl .nil) rfl rfl rfl rfl (mem2 rfl rfl) rfl⟩, ?_⟩
   refine ⟨rfl, ?_⟩
   refine ax_call rfl (vc_pure0 (c_Index_Str (xs := colsL) (v := t) ?_) hP rfl rfl ?_)
   ·
    decide
   rw [colP_idx]
   refine ax_q (q_mov rfl) ?_
   refine ax_nil (cx_keep rfl rfl (cx_seq (cx_seq (cx_ops ?_))))
   refine ax_q (q_mov rfl) ?_
   refine ax_q (q_ibin rfl rfl rfl) ?_
   refine ax_nil (cx_keep rfl rfl ?_)
   refine cx_cond rfl (fun h3 => ?_) (fun h3 => ?_)
   ·
    have h3 := dT h3
    omega
   ·
    have h3 := dF h3
    refine cx_skip ?_
    refine cx_keep rfl rfl (cx_seq (cx_ops ?_))
    refine ax_q (q_mov rfl) ?_
    refine ax_q (q_mov rfl) ?_
    refine ax_q (q_build rfl) ?_
    refine ax_call rfl (vcall_own (c_pnode (s := dpP s 1) (n := ⟨2, 0, 0, colP t, GValue.zero⟩) (hs.dp 1) hn) hP hmv false (fun e => bif Nat.beq e 1000 then 1000 else 1001) [1000, 1001] ⟨rfl, rfl, rfl, rfl, ⟨rfl, rfl, trivial⟩, rfl, rfl, rfl⟩ (.pass rfl rfl (.pass rfl rfl .nil)) ?_)
    rintro r h ⟨rfl, rfl⟩
    refine ⟨(fun e => bif Nat.beq e 1000 then 1000 else 1001), [], ⟨rfl, rfl, rfl, rfl, mem2 rfl rfl, rfl, rfl, fun h => absurd h Bool.false_ne_true⟩, ?_⟩
    try dsimp only [dpP]
    refine ax_q (q_mov rfl) ?_
    refine ax_nil (cx_keep rfl rfl ?_)
    refine cx_ret (retN id [1000, 1001] rfl rfl rfl rfl rfl ?_)
    exact ⟨rfl, rfl⟩


/- (ptr loop.example/g00332/impl.parser).ahead -/
def k_c_pahead : XCode :=
 .seq (.ops [.op (some 2) (.mov (.k (.int .i64 0)))])
 (.keep [0] (.seq (.seq (.ops [.op (some 5) (.mov (.t 0)),
   .op (some 6) (.bslice 1 [.k (.str [45])]),
   .call (some 7) 81 [.t 5, .t 6],
   .op (some 8) (.not (.t 7))])
  (.keep [0, 8] (.cond (.t 8)
  (.seq (.ops [.op (some 9) (.mov (.t 0)),
    .call (some 10) 157 [.t 9],
    .op (some 2) (.mov (.t 10))])
   (.keep [2] (.ret)))
  (.skip))))
 (.keep [0] (.seq (.seq (.ops [.op (some 12) (.mov (.t 0)),
   .call (some 13) 99 [.t 12],
   .op (some 11) (.mov (.t 13)),
   .op (some 14) (.ext (.t 11) 0),
   .op (some 15) (.ext (.t 11) 1),
   .op (some 3) (.mov (.t 14)),
   .op (some 4) (.mov (.t 15))])
  (.keep [0, 3, 4] (.seq (.ops [.op (some 16) (.mov (.t 4)),
   .op (some 17) (.mov (.t 16)),
   .andor 20 true 1 17 [.op (some 18) (.mov (.t 3)), .op (some 19) (.bin .neq (.t 18) (.k (.int .i64 0)))] (.t 19)])
  (.keep [0, 3, 20] (.cond (.t 20)
  (.seq (.ops [.op (some 21) (.mov (.t 0)),
    .call (some 22) 78 [.t 21]])
   (.keep [0, 3] (.seq (.ops [.op (some 23) (.mov (.t 0)),
    .op (some 24) (.mov (.t 3)),
    .op (some 25) (.neg (.t 24)),
    .call (some 26) 73 [.t 25],
    .op (some 27) (.build [.int .i64 0, .int .i64 0, .int .i64 0, .int .i64 0, .int .i64 0, .int .i64 0, .str []] [(0, 1, .k (.int .i64 1)), (4, 3, .t 26)]),
    .call (some 28) 103 [.t 23, .t 27],
    .op (some 2) (.mov (.t 28))])
   (.keep [2] (.ret)))))
  (.skip))))))
 (.keep [0] (.seq (.ops [.op (some 29) (.mov (.t 0)),
   .op (some 30) (.mov (.t 0)),
   .op (some 31) (.mov (.t 0)),
   .op (some 32) (.mkbf 150 [.t 31]),
   .call (some 33) 114 [.t 30, .t 32],
   .op (some 34) (.build [.int .i64 0, .int .i64 0, .int .i64 0, .int .i64 0, .int .i64 0, .int .i64 0, .str []] [(0, 1, .k (.int .i64 5)), (1, 1, .t 33)]),
   .call (some 35) 103 [.t 29, .t 34],
   .op (some 2) (.mov (.t 35))])
 (.keep [2] (.ret))))))))
theorem k_c_pahead_fits : fitsF Tryz.prog 150 ⟨36, k_c_pahead, [.t 2]⟩ = true := by kernel_rfl
set_option maxHeartbeats 4000000 in
theorem c_pahead {f : Nat} (iha : RC Tryz.prog 150 (prs f 6)) (ihp : RC Tryz.prog 157 (prs f 7)) {s s' : PS} {k : Int} (hs : s.ok) (h : prs (f + 1) 6 s = some (s', k)) : Con Tryz.prog (fun e => Nat.beq e 1001) 150 [.ptr 1000 0] [(1000, .box [.d (.sl 1 (s.tk.map strRow)), .osl 1001 7 0 s.ns.length, int (s.op : Int)]), (1001, .rows 7 (s.ns.map GExprNode.row))] (fun r h => r = int k ∧ h = [(1000, .box [.d (.sl 1 (s'.tk.map strRow)), .osl 1001 7 0 s'.ns.length, int (s'.op : Int)]), (1001, .rows 7 (s'.ns.map GExprNode.row))]) := by
 refine con_of2 k_c_pahead_fits rfl fun C hP hmv => ?_
 unfold k_c_pahead
 refine cx_seq (cx_ops ?_)
 refine ax_q (q_mov rfl) ?_
 refine ax_nil (cx_keep rfl rfl (cx_seq (cx_seq (cx_ops ?_))))
 refine ax_q (q_mov rfl) ?_
 refine ax_e (e_bsliceD (rows := [strRow [45]]) rfl) ?_
 refine ax_call rfl (vcall_own (c_skip (s := s) (ts := [[45]]) hs (by decide)) hP hmv false (fun e => bif Nat.beq e 1000 then 1000 else 1001) [1000, 1001] ⟨rfl, rfl, rfl, rfl, ⟨rfl, rfl, trivial⟩, rfl, rfl, rfl⟩ (.pass rfl rfl (.pass rfl rfl .nil)) ?_)
 rintro r h ⟨rfl, rfl⟩
 refine ⟨(fun e => bif Nat.beq e 1000 then 1000 else 1001), [], ⟨rfl, rfl, rfl, rfl, mem2 rfl rfl, rfl, rfl, fun h => absurd h Bool.false_ne_true⟩, ?_⟩
 try dsimp only [dpP]
 refine ax_q (q_not rfl) ?_
 refine ax_nil (cx_keep rfl rfl ?_)
 refine cx_cond rfl (fun h0 => ?_) (fun h0 => ?_)
 ·
  have h0 := bT h0
  have hq := ahP_f h h0
  rw [skP_f h0]
  refine cx_seq (cx_ops ?_)
  refine ax_q (q_mov rfl) ?_
  refine ax_call rfl (vcall_own (ihp s _ k hs hq) hP hmv false (fun e => bif Nat.beq e 1000 then 1000 else 1001) [1000, 1001] ⟨rfl, rfl, rfl, rfl, ⟨rfl, rfl, trivial⟩, rfl, rfl, rfl⟩ (.pass rfl rfl .nil) ?_)
  rintro r h ⟨rfl, rfl⟩
  refine ⟨(fun e => bif Nat.beq e 1000 then 1000 else 1001), [], ⟨rfl, rfl, rfl, rfl, mem2 rfl rfl, rfl, rfl, fun h => absurd h Bool.false_ne_true⟩, ?_⟩
  try dsimp only [dpP]
  refine ax_q (q_mov rfl) ?_
  refine ax_nil (cx_keep rfl rfl ?_)
  refine cx_ret (retN id [1000, 1001] rfl rfl rfl rfl rfl ?_)
  exact ⟨rfl, rfl⟩
 ·
  have h0 := bF h0
  rw [skP_t h0]
  have ok0 := hs.dp 1
  refine cx_skip ?_
  refine cx_keep rfl rfl (cx_seq (cx_seq (cx_ops ?_)))
  refine ax_q (q_mov rfl) ?_
  first | refine ax_call rfl (vc_pure0 (c_digits (s := dpP s 1) ?_) hP rfl rfl ?_) | refine ax_call rfl (vc_lend0 (c_digits (s := dpP s 1) ?_) hP (by repeat (first | exact lal_id _ rfl | exact LAL.nil | refine LAL.cons ?_ ?_ | exact la_id _ rfl | exact LA.lend (lend_whole rfl (by first | (simp; done) | (rw [List.length_map]; rfl))) | refine LA.agg ?_ | refine LA.fn ?_ | refine LA.lend ?_ | exact Lend.d _ | exact Lend.zs _ | exact lend_whole rfl (by first | (simp; done) | (rw [List.length_map]; rfl)) | refine Lend.ptr rfl ?_ | refine Lend.fn ?_ | exact LendL.nil | refine LendL.cons ?_ ?_)) rfl rfl ?_)
  ·
   assumption
  refine ax_q (q_mov rfl) ?_
  refine ax_q (q_ext rfl rfl) ?_
  refine ax_q (q_ext rfl rfl) ?_
  refine ax_q (q_mov rfl) ?_
  refine ax_q (q_mov rfl) ?_
  refine ax_nil (cx_keep rfl rfl (cx_seq (cx_ops ?_)))
  refine ax_q (q_mov rfl) ?_
  refine ax_q (q_mov rfl) ?_
  apply ax_and rfl rfl
  ·
   intro g
   refine ax_q (q_mov rfl) ?_
   refine ax_q (q_ibin rfl rfl rfl) ?_
   exact ax_nil ⟨rfl, by repeat constructor⟩
  refine ax_nil (cx_keep rfl rfl ?_)
  refine cx_cond rfl (fun h1 => ?_) (fun h1 => ?_)
  ·
   have h1 := (fun h => And.intro (id (and_T h).1) (nT (and_T h).2)) h1
   have hn := ahP_n h h0 h1
   obtain ⟨t, r, ht⟩ := dg_cons h1.1
   refine cx_seq (cx_ops ?_)
   refine ax_q (q_mov rfl) ?_
   refine ax_call rfl (vcall_own (c_take (s := dpP s 1) ok0 ht) hP hmv false (fun e => bif Nat.beq e 1000 then 1000 else 1001) [1000, 1001] ⟨rfl, rfl, rfl, rfl, ⟨rfl, rfl, trivial⟩, rfl, rfl, rfl⟩ (.pass rfl rfl .nil) ?_)
   rintro r h ⟨rfl, rfl⟩
   refine ⟨(fun e => bif Nat.beq e 1000 then 1000 else 1001), [], ⟨rfl, rfl, rfl, rfl, mem2 rfl rfl, rfl, rfl, fun h => absurd h Bool.false_ne_true⟩, ?_⟩
   try dsimp only [dpP]
   refine ax_nil (cx_keep rfl rfl (cx_seq (cx_ops ?_)))
   refine ax_q (q_mov rfl) ?_
   refine ax_q (q_mov rfl) ?_
   have hnb : -1000000000 ≤ (dgP (List.drop 1 s.tk)).1 ∧ (dgP (List.drop 1 s.tk)).1 ≤ 1000000000 := dg_bd h1.1
   refine ax_q (q_negI rfl (by omega)) ?_
   refine ax_call rfl (vc_pure0 (c_numberValue (n := -(dgP (dpP s 1).tk).1) ) hP rfl rfl ?_)
   refine ax_q (q_build rfl) ?_
   refine ax_call rfl (vcall_own (c_pnode (s := dpP (dpP s 1) 1) (n := ⟨1, 0, 0, 0, vI (-(dgP (dpP s 1).tk).1)⟩) (ok0.dp 1) hn) hP hmv false (fun e => bif Nat.beq e 1000 then 1000 else 1001) [1000, 1001] ⟨rfl, rfl, rfl, rfl, ⟨rfl, rfl, trivial⟩, rfl, rfl, rfl⟩ (.pass rfl rfl (.pass rfl rfl .nil)) ?_)
   rintro r h ⟨rfl, rfl⟩
   refine ⟨(fun e => bif Nat.beq e 1000 then 1000 else 1001), [], ⟨rfl, rfl, rfl, rfl, mem2 rfl rfl, rfl, rfl, fun h => absurd h Bool.false_ne_true⟩, ?_⟩
   try dsimp only [dpP]
   refine ax_q (q_mov rfl) ?_
   refine ax_nil (cx_keep rfl rfl ?_)
   refine cx_ret (retN id [1000, 1001] rfl rfl rfl rfl rfl ?_)
   exact ⟨rfl, rfl⟩
  ·
   have h1 := (fun h => (and_F h).imp id nF) h1
   obtain ⟨s1, l, h2, h3⟩ := ahP_w h h0 (fun e => h1.elim (fun g => by rw [g] at e; exact absurd e.1 Bool.false_ne_true) (fun g => e.2 g))
   obtain ⟨ok1, op1⟩ := (prs_ro f 6).wi _ _ _ ok0 h2
   refine cx_skip ?_
   refine cx_keep rfl rfl (cx_seq (cx_ops ?_))
   refine ax_q (q_mov rfl) ?_
   refine ax_q (q_mov rfl) ?_
   refine ax_q (q_mov rfl) ?_
   refine ax_q (q_mkbf rfl) ?_
   refine ax_call rfl (vcall_own (c_within iha (prs_ro f 6) (by kernel_rfl) ok0 h2) hP hmv false (fun e => bif Nat.beq e 1000 then 1000 else 1001) [1000, 1001] ⟨rfl, rfl, rfl, rfl, ⟨rfl, rfl, trivial⟩, rfl, rfl, rfl⟩ (.pass rfl rfl (.pass rfl rfl .nil)) ?_)
   rintro r h ⟨rfl, rfl⟩
   refine ⟨(fun e => bif Nat.beq e 1000 then 1000 else 1001), [], ⟨rfl, rfl, rfl, rfl, mem2 rfl rfl, rfl, rfl, fun h => absurd h Bool.false_ne_true⟩, ?_⟩
   try dsimp only [dpP]
   refine ax_q (q_build rfl) ?_
   refine ax_call rfl (vcall_own (c_pnode (n := nd 5 l 0) ok1 h3) hP hmv false (fun e => bif Nat.beq e 1000 then 1000 else 1001) [1000, 1001] ⟨rfl, rfl, rfl, rfl, ⟨rfl, rfl, trivial⟩, rfl, rfl, rfl⟩ (.pass rfl rfl (.pass rfl rfl .nil)) ?_)
   rintro r h ⟨rfl, rfl⟩
   refine ⟨(fun e => bif Nat.beq e 1000 then 1000 else 1001), [], ⟨rfl, rfl, rfl, rfl, mem2 rfl rfl, rfl, rfl, fun h => absurd h Bool.false_ne_true⟩, ?_⟩
   try dsimp only [dpP]
   refine ax_q (q_mov rfl) ?_
   refine ax_nil (cx_keep rfl rfl ?_)
   refine cx_ret (retN id [1000, 1001] rfl rfl rfl rfl rfl ?_)
   exact ⟨rfl, rfl⟩


/- (ptr loop.example/g00332/impl.parser).product -/
def k_c_pprod : XCode :=
 .seq (.ops [.op (some 2) (.mov (.k (.int .i64 0)))])
 (.keep [0] (.seq (.ops [.op (some 3) (.mov (.t 0)),
   .op (some 4) (.mov (.t 0)),
   .op (some 5) (.mkbf 150 [.t 4]),
   .op (some 6) (.bslice 1 [.k (.int .i64 8), .k (.int .i64 9)]),
   .call (some 7) 87 [.t 3, .t 5, .t 6],
   .op (some 2) (.mov (.t 7))])
 (.keep [2] (.ret))))
theorem k_c_pprod_fits : fitsF Tryz.prog 135 ⟨8, k_c_pprod, [.t 2]⟩ = true := by kernel_rfl
theorem c_pprod {f : Nat} (ih : RC Tryz.prog 150 (prs f 6)) {s s' : PS} {k : Int} (hs : s.ok) (h : prs (f + 1) 5 s = some (s', k)) : Con Tryz.prog (fun e => Nat.beq e 1001) 135 [.ptr 1000 0] [(1000, .box [.d (.sl 1 (s.tk.map strRow)), .osl 1001 7 0 s.ns.length, int (s.op : Int)]), (1001, .rows 7 (s.ns.map GExprNode.row))] (fun r h => r = int k ∧ h = [(1000, .box [.d (.sl 1 (s'.tk.map strRow)), .osl 1001 7 0 s'.ns.length, int (s'.op : Int)]), (1001, .rows 7 (s'.ns.map GExprNode.row))]) := by
 refine con_of2 k_c_pprod_fits rfl fun C hP hmv => ?_
 unfold k_c_pprod
 refine cx_seq (cx_ops ?_)
 refine ax_q (q_mov rfl) ?_
 refine ax_nil (cx_keep rfl rfl (cx_seq (cx_ops ?_)))
 refine ax_q (q_mov rfl) ?_
 refine ax_q (q_mov rfl) ?_
 refine ax_q (q_mkbf rfl) ?_
 refine ax_e (e_bsliceD (rows := [intRow 8, intRow 9]) rfl) ?_
 refine ax_call rfl (vcall_own (c_joins (ops := [8, 9]) (f := f) ih (prs_ro f 6) (by kernel_rfl) (by decide) (by decide) hs h) hP hmv false (fun e => bif Nat.beq e 1000 then 1000 else 1001) [1000, 1001] ⟨rfl, rfl, rfl, rfl, ⟨rfl, rfl, trivial⟩, rfl, rfl, rfl⟩ (.pass rfl rfl (.pass rfl rfl (.pass rfl rfl .nil))) ?_)
 rintro r h ⟨rfl, rfl⟩
 refine ⟨(fun e => bif Nat.beq e 1000 then 1000 else 1001), [], ⟨rfl, rfl, rfl, rfl, mem2 rfl rfl, rfl, rfl, fun h => absurd h Bool.false_ne_true⟩, ?_⟩
 try dsimp only [dpP]
 refine ax_q (q_mov rfl) ?_
 refine ax_nil (cx_keep rfl rfl ?_)
 refine cx_ret (retN id [1000, 1001] rfl rfl rfl rfl rfl ?_)
 exact ⟨rfl, rfl⟩


/- (ptr loop.example/g00332/impl.parser).sum -/
def k_c_psum : XCode :=
 .seq (.ops [.op (some 2) (.mov (.k (.int .i64 0)))])
 (.keep [0] (.seq (.ops [.op (some 3) (.mov (.t 0)),
   .op (some 4) (.mov (.t 0)),
   .op (some 5) (.mkbf 135 [.t 4]),
   .op (some 6) (.bslice 1 [.k (.int .i64 6), .k (.int .i64 7)]),
   .call (some 7) 87 [.t 3, .t 5, .t 6],
   .op (some 2) (.mov (.t 7))])
 (.keep [2] (.ret))))
theorem k_c_psum_fits : fitsF Tryz.prog 122 ⟨8, k_c_psum, [.t 2]⟩ = true := by kernel_rfl
theorem c_psum {f : Nat} (ih : RC Tryz.prog 135 (prs f 5)) {s s' : PS} {k : Int} (hs : s.ok) (h : prs (f + 1) 4 s = some (s', k)) : Con Tryz.prog (fun e => Nat.beq e 1001) 122 [.ptr 1000 0] [(1000, .box [.d (.sl 1 (s.tk.map strRow)), .osl 1001 7 0 s.ns.length, int (s.op : Int)]), (1001, .rows 7 (s.ns.map GExprNode.row))] (fun r h => r = int k ∧ h = [(1000, .box [.d (.sl 1 (s'.tk.map strRow)), .osl 1001 7 0 s'.ns.length, int (s'.op : Int)]), (1001, .rows 7 (s'.ns.map GExprNode.row))]) := by
 refine con_of2 k_c_psum_fits rfl fun C hP hmv => ?_
 unfold k_c_psum
 refine cx_seq (cx_ops ?_)
 refine ax_q (q_mov rfl) ?_
 refine ax_nil (cx_keep rfl rfl (cx_seq (cx_ops ?_)))
 refine ax_q (q_mov rfl) ?_
 refine ax_q (q_mov rfl) ?_
 refine ax_q (q_mkbf rfl) ?_
 refine ax_e (e_bsliceD (rows := [intRow 6, intRow 7]) rfl) ?_
 refine ax_call rfl (vcall_own (c_joins (ops := [6, 7]) (f := f) ih (prs_ro f 5) (by kernel_rfl) (by decide) (by decide) hs h) hP hmv false (fun e => bif Nat.beq e 1000 then 1000 else 1001) [1000, 1001] ⟨rfl, rfl, rfl, rfl, ⟨rfl, rfl, trivial⟩, rfl, rfl, rfl⟩ (.pass rfl rfl (.pass rfl rfl (.pass rfl rfl .nil))) ?_)
 rintro r h ⟨rfl, rfl⟩
 refine ⟨(fun e => bif Nat.beq e 1000 then 1000 else 1001), [], ⟨rfl, rfl, rfl, rfl, mem2 rfl rfl, rfl, rfl, fun h => absurd h Bool.false_ne_true⟩, ?_⟩
 try dsimp only [dpP]
 refine ax_q (q_mov rfl) ?_
 refine ax_nil (cx_keep rfl rfl ?_)
 refine cx_ret (retN id [1000, 1001] rfl rfl rfl rfl rfl ?_)
 exact ⟨rfl, rfl⟩


/- (ptr loop.example/g00332/impl.parser).compare -/
def k_c_pcmp : XCode :=
 .seq (.ops [.op (some 2) (.mov (.k (.int .i64 0)))])
 (.keep [0] (.seq (.ops [.op (some 6) (.mov (.t 0)),
   .call (some 7) 122 [.t 6],
   .op (some 3) (.mov (.t 7))])
 (.keep [0, 3] (.seq (.block 0 (.seq (.ops [.op (some 9) (.mov (.t 0)),
    .op (some 10) (.bslice 1 [.k (.str [61])]),
    .call (some 11) 81 [.t 9, .t 10],
    .op (some 8) (.mov (.t 11))])
  (.keep [0, 3, 8] (.cond (.t 8)
   (.seq (.ops [.op (some 12) (.mov (.t 0)),
     .call (some 13) 122 [.t 12],
     .op (some 4) (.mov (.t 13))])
   (.keep [0, 3, 4] (.seq (.ops [.op (some 14) (.mov (.t 0)),
     .op (some 15) (.mov (.t 3)),
     .op (some 16) (.mov (.t 4)),
     .op (some 17) (.build [.int .i64 0, .int .i64 0, .int .i64 0, .int .i64 0, .int .i64 0, .int .i64 0, .str []] [(0, 1, .k (.int .i64 10)), (1, 1, .t 15), (2, 1, .t 16)]),
     .call (some 18) 103 [.t 14, .t 17],
     .op (some 2) (.mov (.t 18))])
   (.keep [2] (.ret)))))
   (.seq (.ops [.op (some 20) (.mov (.t 0)),
     .op (some 21) (.bslice 1 [.k (.str [60])]),
     .call (some 22) 81 [.t 20, .t 21],
     .op (some 19) (.mov (.t 22))])
   (.keep [0, 3, 19] (.cond (.t 19)
    (.seq (.ops [.op (some 23) (.mov (.t 0)),
      .call (some 24) 122 [.t 23],
      .op (some 5) (.mov (.t 24))])
    (.keep [0, 3, 5] (.seq (.ops [.op (some 25) (.mov (.t 0)),
      .op (some 26) (.mov (.t 3)),
      .op (some 27) (.mov (.t 5)),
      .op (some 28) (.build [.int .i64 0, .int .i64 0, .int .i64 0, .int .i64 0, .int .i64 0, .int .i64 0, .str []] [(0, 1, .k (.int .i64 11)), (1, 1, .t 26), (2, 1, .t 27)]),
      .call (some 29) 103 [.t 25, .t 28],
      .op (some 2) (.mov (.t 29))])
    (.keep [2] (.ret)))))
    (.seq (.ops [.op (some 31) (.mov (.t 0)),
      .op (some 32) (.bslice 1 [.k (.str [105, 115]), .k (.str [110, 117, 108, 108])]),
      .call (some 33) 81 [.t 31, .t 32],
      .op (some 30) (.mov (.t 33))])
    (.keep [0, 3, 30] (.cond (.t 30)
     (.seq (.ops [.op (some 34) (.mov (.t 0)),
       .op (some 35) (.mov (.t 3)),
       .op (some 36) (.build [.int .i64 0, .int .i64 0, .int .i64 0, .int .i64 0, .int .i64 0, .int .i64 0, .str []] [(0, 1, .k (.int .i64 4)), (1, 1, .t 35)]),
       .call (some 37) 103 [.t 34, .t 36],
       .op (some 2) (.mov (.t 37))])
     (.keep [2] (.ret)))
     (.skip)))))))))))
 (.keep [3] (.seq (.ops [.op (some 38) (.mov (.t 3)),
   .op (some 2) (.mov (.t 38))])
 (.keep [2] (.ret))))))))
theorem k_c_pcmp_fits : fitsF Tryz.prog 115 ⟨39, k_c_pcmp, [.t 2]⟩ = true := by kernel_rfl
set_option maxHeartbeats 4000000 in
theorem c_pcmp {f : Nat} (ih : RC Tryz.prog 122 (prs f 4)) {s s' : PS} {k : Int} (hs : s.ok) (h : prs (f + 1) 3 s = some (s', k)) : Con Tryz.prog (fun e => Nat.beq e 1001) 115 [.ptr 1000 0] [(1000, .box [.d (.sl 1 (s.tk.map strRow)), .osl 1001 7 0 s.ns.length, int (s.op : Int)]), (1001, .rows 7 (s.ns.map GExprNode.row))] (fun r h => r = int k ∧ h = [(1000, .box [.d (.sl 1 (s'.tk.map strRow)), .osl 1001 7 0 s'.ns.length, int (s'.op : Int)]), (1001, .rows 7 (s'.ns.map GExprNode.row))]) := by
 refine con_of2 k_c_pcmp_fits rfl fun C hP hmv => ?_
 unfold k_c_pcmp
 obtain ⟨s1, l, h1, hx⟩ := cmP_some h
 obtain ⟨ok1, op1⟩ := (prs_ro f 4) _ _ _ hs h1
 refine cx_seq (cx_ops ?_)
 refine ax_q (q_mov rfl) ?_
 refine ax_nil (cx_keep rfl rfl (cx_seq (cx_ops ?_)))
 refine ax_q (q_mov rfl) ?_
 refine ax_call rfl (vcall_own (ih s s1 l hs h1) hP hmv false (fun e => bif Nat.beq e 1000 then 1000 else 1001) [1000, 1001] ⟨rfl, rfl, rfl, rfl, ⟨rfl, rfl, trivial⟩, rfl, rfl, rfl⟩ (.pass rfl rfl .nil) ?_)
 rintro r h ⟨rfl, rfl⟩
 refine ⟨(fun e => bif Nat.beq e 1000 then 1000 else 1001), [], ⟨rfl, rfl, rfl, rfl, mem2 rfl rfl, rfl, rfl, fun h => absurd h Bool.false_ne_true⟩, ?_⟩
 try dsimp only [dpP]
 refine ax_q (q_mov rfl) ?_
 refine ax_nil (cx_keep rfl rfl (cx_seq (cx_block (cx_seq (cx_ops ?_)))))
 refine ax_q (q_mov rfl) ?_
 refine ax_e (e_bsliceD (rows := [strRow [61]]) rfl) ?_
 refine ax_call rfl (vcall_own (c_skip (s := s1) (ts := [[61]]) ok1 (by decide)) hP hmv false (fun e => bif Nat.beq e 1000 then 1000 else 1001) [1000, 1001] ⟨rfl, rfl, rfl, rfl, ⟨rfl, rfl, trivial⟩, rfl, rfl, rfl⟩ (.pass rfl rfl (.pass rfl rfl .nil)) ?_)
 rintro r h ⟨rfl, rfl⟩
 refine ⟨(fun e => bif Nat.beq e 1000 then 1000 else 1001), [], ⟨rfl, rfl, rfl, rfl, mem2 rfl rfl, rfl, rfl, fun h => absurd h Bool.false_ne_true⟩, ?_⟩
 try dsimp only [dpP]
 refine ax_q (q_mov rfl) ?_
 refine ax_nil (cx_keep rfl rfl ?_)
 refine cx_cond rfl (fun h0 => ?_) (fun h0 => ?_)
 ·
  skip
  rw [if_pos h0] at hx
  obtain ⟨s2, r, h3, h4⟩ := cm_two hx
  obtain ⟨ok2, op2⟩ := (prs_ro f 4) _ _ _ (ok1.dp 1) h3
  rw [skP_t h0]
  refine cx_seq (cx_ops ?_)
  refine ax_q (q_mov rfl) ?_
  refine ax_call rfl (vcall_own (ih _ s2 r (ok1.dp 1) h3) hP hmv false (fun e => bif Nat.beq e 1000 then 1000 else 1001) [1000, 1001] ⟨rfl, rfl, rfl, rfl, ⟨rfl, rfl, trivial⟩, rfl, rfl, rfl⟩ (.pass rfl rfl .nil) ?_)
  rintro r h ⟨rfl, rfl⟩
  refine ⟨(fun e => bif Nat.beq e 1000 then 1000 else 1001), [], ⟨rfl, rfl, rfl, rfl, mem2 rfl rfl, rfl, rfl, fun h => absurd h Bool.false_ne_true⟩, ?_⟩
  try dsimp only [dpP]
  refine ax_q (q_mov rfl) ?_
  refine ax_nil (cx_keep rfl rfl (cx_seq (cx_ops ?_)))
  refine ax_q (q_mov rfl) ?_
  refine ax_q (q_mov rfl) ?_
  refine ax_q (q_mov rfl) ?_
  refine ax_q (q_build rfl) ?_
  refine ax_call rfl (vcall_own (c_pnode (n := nd 10 l r) ok2 h4) hP hmv false (fun e => bif Nat.beq e 1000 then 1000 else 1001) [1000, 1001] ⟨rfl, rfl, rfl, rfl, ⟨rfl, rfl, trivial⟩, rfl, rfl, rfl⟩ (.pass rfl rfl (.pass rfl rfl .nil)) ?_)
  rintro r h ⟨rfl, rfl⟩
  refine ⟨(fun e => bif Nat.beq e 1000 then 1000 else 1001), [], ⟨rfl, rfl, rfl, rfl, mem2 rfl rfl, rfl, rfl, fun h => absurd h Bool.false_ne_true⟩, ?_⟩
  try dsimp only [dpP]
  refine ax_q (q_mov rfl) ?_
  refine ax_nil (cx_keep rfl rfl ?_)
  refine cx_ret (retN id [1000, 1001] rfl rfl rfl rfl rfl ?_)
  exact ⟨rfl, rfl⟩
 ·
  skip
  rw [if_neg (by rw [h0]; decide)] at hx
  rw [skP_f h0]
  refine cx_seq (cx_ops ?_)
  refine ax_q (q_mov rfl) ?_
  refine ax_e (e_bsliceD (rows := [strRow [60]]) rfl) ?_
  refine ax_call rfl (vcall_own (c_skip (s := s1) (ts := [[60]]) ok1 (by decide)) hP hmv false (fun e => bif Nat.beq e 1000 then 1000 else 1001) [1000, 1001] ⟨rfl, rfl, rfl, rfl, ⟨rfl, rfl, trivial⟩, rfl, rfl, rfl⟩ (.pass rfl rfl (.pass rfl rfl .nil)) ?_)
  rintro r h ⟨rfl, rfl⟩
  refine ⟨(fun e => bif Nat.beq e 1000 then 1000 else 1001), [], ⟨rfl, rfl, rfl, rfl, mem2 rfl rfl, rfl, rfl, fun h => absurd h Bool.false_ne_true⟩, ?_⟩
  try dsimp only [dpP]
  refine ax_q (q_mov rfl) ?_
  refine ax_nil (cx_keep rfl rfl ?_)
  refine cx_cond rfl (fun h1 => ?_) (fun h1 => ?_)
  ·
   skip
   rw [if_pos h1] at hx
   obtain ⟨s2, r, h3, h4⟩ := cm_two hx
   obtain ⟨ok2, op2⟩ := (prs_ro f 4) _ _ _ (ok1.dp 1) h3
   rw [skP_t h1]
   refine cx_seq (cx_ops ?_)
   refine ax_q (q_mov rfl) ?_
   refine ax_call rfl (vcall_own (ih _ s2 r (ok1.dp 1) h3) hP hmv false (fun e => bif Nat.beq e 1000 then 1000 else 1001) [1000, 1001] ⟨rfl, rfl, rfl, rfl, ⟨rfl, rfl, trivial⟩, rfl, rfl, rfl⟩ (.pass rfl rfl .nil) ?_)
   rintro r h ⟨rfl, rfl⟩
   refine ⟨(fun e => bif Nat.beq e 1000 then 1000 else 1001), [], ⟨rfl, rfl, rfl, rfl, mem2 rfl rfl, rfl, rfl, fun h => absurd h Bool.false_ne_true⟩, ?_⟩
   try dsimp only [dpP]
   refine ax_q (q_mov rfl) ?_
   refine ax_nil (cx_keep rfl rfl (cx_seq (cx_ops ?_)))
   refine ax_q (q_mov rfl) ?_
   refine ax_q (q_mov rfl) ?_
   refine ax_q (q_mov rfl) ?_
   refine ax_q (q_build rfl) ?_
   refine ax_call rfl (vcall_own (c_pnode (n := nd 11 l r) ok2 h4) hP hmv false (fun e => bif Nat.beq e 1000 then 1000 else 1001) [1000, 1001] ⟨rfl, rfl, rfl, rfl, ⟨rfl, rfl, trivial⟩, rfl, rfl, rfl⟩ (.pass rfl rfl (.pass rfl rfl .nil)) ?_)
   rintro r h ⟨rfl, rfl⟩
   refine ⟨(fun e => bif Nat.beq e 1000 then 1000 else 1001), [], ⟨rfl, rfl, rfl, rfl, mem2 rfl rfl, rfl, rfl, fun h => absurd h Bool.false_ne_true⟩, ?_⟩
   try dsimp only [dpP]
   refine ax_q (q_mov rfl) ?_
   refine ax_nil (cx_keep rfl rfl ?_)
   refine cx_ret (retN id [1000, 1001] rfl rfl rfl rfl rfl ?_)
   exact ⟨rfl, rfl⟩
  ·
   skip
   rw [if_neg (by rw [h1]; decide)] at hx
   rw [skP_f h1]
   refine cx_seq (cx_ops ?_)
   refine ax_q (q_mov rfl) ?_
   refine ax_e (e_bsliceD (rows := [strRow [105, 115], strRow [110, 117, 108, 108]]) rfl) ?_
   refine ax_call rfl (vcall_own (c_skip (s := s1) (ts := [[105, 115], [110, 117, 108, 108]]) ok1 (by decide)) hP hmv false (fun e => bif Nat.beq e 1000 then 1000 else 1001) [1000, 1001] ⟨rfl, rfl, rfl, rfl, ⟨rfl, rfl, trivial⟩, rfl, rfl, rfl⟩ (.pass rfl rfl (.pass rfl rfl .nil)) ?_)
   rintro r h ⟨rfl, rfl⟩
   refine ⟨(fun e => bif Nat.beq e 1000 then 1000 else 1001), [], ⟨rfl, rfl, rfl, rfl, mem2 rfl rfl, rfl, rfl, fun h => absurd h Bool.false_ne_true⟩, ?_⟩
   try dsimp only [dpP]
   refine ax_q (q_mov rfl) ?_
   refine ax_nil (cx_keep rfl rfl ?_)
   refine cx_cond rfl (fun h2 => ?_) (fun h2 => ?_)
   ·
    skip
    rw [if_pos h2] at hx
    rw [skP_t h2]
    refine cx_seq (cx_ops ?_)
    refine ax_q (q_mov rfl) ?_
    refine ax_q (q_mov rfl) ?_
    refine ax_q (q_build rfl) ?_
    refine ax_call rfl (vcall_own (c_pnode (n := nd 4 l 0) (ok1.dp 2) hx) hP hmv false (fun e => bif Nat.beq e 1000 then 1000 else 1001) [1000, 1001] ⟨rfl, rfl, rfl, rfl, ⟨rfl, rfl, trivial⟩, rfl, rfl, rfl⟩ (.pass rfl rfl (.pass rfl rfl .nil)) ?_)
    rintro r h ⟨rfl, rfl⟩
    refine ⟨(fun e => bif Nat.beq e 1000 then 1000 else 1001), [], ⟨rfl, rfl, rfl, rfl, mem2 rfl rfl, rfl, rfl, fun h => absurd h Bool.false_ne_true⟩, ?_⟩
    try dsimp only [dpP]
    refine ax_q (q_mov rfl) ?_
    refine ax_nil (cx_keep rfl rfl ?_)
    refine cx_ret (retN id [1000, 1001] rfl rfl rfl rfl rfl ?_)
    exact ⟨rfl, rfl⟩
   ·
    skip
    rw [if_neg (by rw [h2]; decide)] at hx
    rw [skP_f h2]
    cases hx
    refine cx_skip ?_
    refine cx_keep rfl rfl (cx_seq (cx_ops ?_))
    refine ax_q (q_mov rfl) ?_
    refine ax_q (q_mov rfl) ?_
    refine ax_nil (cx_keep rfl rfl ?_)
    refine cx_ret (retN id [1000, 1001] rfl rfl rfl rfl rfl ?_)
    exact ⟨rfl, rfl⟩


/- (ptr loop.example/g00332/impl.parser).not -/
def k_c_pnot : XCode :=
 .seq (.ops [.op (some 2) (.mov (.k (.int .i64 0)))])
 (.keep [0] (.seq (.seq (.ops [.op (some 3) (.mov (.t 0)),
   .op (some 4) (.bslice 1 [.k (.str [110, 111, 116])]),
   .call (some 5) 81 [.t 3, .t 4]])
  (.keep [0, 5] (.cond (.t 5)
  (.seq (.ops [.op (some 6) (.mov (.t 0)),
    .op (some 7) (.mov (.t 0)),
    .op (some 8) (.mov (.t 0)),
    .op (some 9) (.mkbf 104 [.t 8]),
    .call (some 10) 114 [.t 7, .t 9],
    .op (some 11) (.build [.int .i64 0, .int .i64 0, .int .i64 0, .int .i64 0, .int .i64 0, .int .i64 0, .str []] [(0, 1, .k (.int .i64 3)), (1, 1, .t 10)]),
    .call (some 12) 103 [.t 6, .t 11],
    .op (some 2) (.mov (.t 12))])
   (.keep [2] (.ret)))
  (.skip))))
 (.keep [0] (.seq (.ops [.op (some 13) (.mov (.t 0)),
   .call (some 14) 115 [.t 13],
   .op (some 2) (.mov (.t 14))])
 (.keep [2] (.ret))))))
theorem k_c_pnot_fits : fitsF Tryz.prog 104 ⟨15, k_c_pnot, [.t 2]⟩ = true := by kernel_rfl
theorem c_pnot {f : Nat} (ihn : RC Tryz.prog 104 (prs f 2)) (ihc : RC Tryz.prog 115 (prs f 3)) {s s' : PS} {k : Int} (hs : s.ok) (h : prs (f + 1) 2 s = some (s', k)) : Con Tryz.prog (fun e => Nat.beq e 1001) 104 [.ptr 1000 0] [(1000, .box [.d (.sl 1 (s.tk.map strRow)), .osl 1001 7 0 s.ns.length, int (s.op : Int)]), (1001, .rows 7 (s.ns.map GExprNode.row))] (fun r h => r = int k ∧ h = [(1000, .box [.d (.sl 1 (s'.tk.map strRow)), .osl 1001 7 0 s'.ns.length, int (s'.op : Int)]), (1001, .rows 7 (s'.ns.map GExprNode.row))]) := by
 refine con_of2 k_c_pnot_fits rfl fun C hP hmv => ?_
 unfold k_c_pnot
 refine cx_seq (cx_ops ?_)
 refine ax_q (q_mov rfl) ?_
 refine ax_nil (cx_keep rfl rfl (cx_seq (cx_seq (cx_ops ?_))))
 refine ax_q (q_mov rfl) ?_
 refine ax_e (e_bsliceD (rows := [strRow [110, 111, 116]]) rfl) ?_
 refine ax_call rfl (vcall_own (c_skip (s := s) (ts := [[110, 111, 116]]) hs (by decide)) hP hmv false (fun e => bif Nat.beq e 1000 then 1000 else 1001) [1000, 1001] ⟨rfl, rfl, rfl, rfl, ⟨rfl, rfl, trivial⟩, rfl, rfl, rfl⟩ (.pass rfl rfl (.pass rfl rfl .nil)) ?_)
 rintro r h ⟨rfl, rfl⟩
 refine ⟨(fun e => bif Nat.beq e 1000 then 1000 else 1001), [], ⟨rfl, rfl, rfl, rfl, mem2 rfl rfl, rfl, rfl, fun h => absurd h Bool.false_ne_true⟩, ?_⟩
 try dsimp only [dpP]
 refine ax_nil (cx_keep rfl rfl ?_)
 refine cx_cond rfl (fun h0 => ?_) (fun h0 => ?_)
 ·
  skip
  obtain ⟨s1, l, h1, h2⟩ := noP_t h h0
  obtain ⟨ok1, op1⟩ := (prs_ro f 2).wi _ _ _ (hs.dp 1) h1
  rw [skP_t h0]
  refine cx_seq (cx_ops ?_)
  refine ax_q (q_mov rfl) ?_
  refine ax_q (q_mov rfl) ?_
  refine ax_q (q_mov rfl) ?_
  refine ax_q (q_mkbf rfl) ?_
  refine ax_call rfl (vcall_own (c_within ihn (prs_ro f 2) (by kernel_rfl) (hs.dp 1) h1) hP hmv false (fun e => bif Nat.beq e 1000 then 1000 else 1001) [1000, 1001] ⟨rfl, rfl, rfl, rfl, ⟨rfl, rfl, trivial⟩, rfl, rfl, rfl⟩ (.pass rfl rfl (.pass rfl rfl .nil)) ?_)
  rintro r h ⟨rfl, rfl⟩
  refine ⟨(fun e => bif Nat.beq e 1000 then 1000 else 1001), [], ⟨rfl, rfl, rfl, rfl, mem2 rfl rfl, rfl, rfl, fun h => absurd h Bool.false_ne_true⟩, ?_⟩
  try dsimp only [dpP]
  refine ax_q (q_build rfl) ?_
  refine ax_call rfl (vcall_own (c_pnode (n := nd 3 l 0) ok1 h2) hP hmv false (fun e => bif Nat.beq e 1000 then 1000 else 1001) [1000, 1001] ⟨rfl, rfl, rfl, rfl, ⟨rfl, rfl, trivial⟩, rfl, rfl, rfl⟩ (.pass rfl rfl (.pass rfl rfl .nil)) ?_)
  rintro r h ⟨rfl, rfl⟩
  refine ⟨(fun e => bif Nat.beq e 1000 then 1000 else 1001), [], ⟨rfl, rfl, rfl, rfl, mem2 rfl rfl, rfl, rfl, fun h => absurd h Bool.false_ne_true⟩, ?_⟩
  try dsimp only [dpP]
  refine ax_q (q_mov rfl) ?_
  refine ax_nil (cx_keep rfl rfl ?_)
  refine cx_ret (retN id [1000, 1001] rfl rfl rfl rfl rfl ?_)
  exact ⟨rfl, rfl⟩
 ·
  skip
  have hc := noP_f h h0
  rw [skP_f h0]
  refine cx_skip ?_
  refine cx_keep rfl rfl (cx_seq (cx_ops ?_))
  refine ax_q (q_mov rfl) ?_
  refine ax_call rfl (vcall_own (ihc s _ k hs hc) hP hmv false (fun e => bif Nat.beq e 1000 then 1000 else 1001) [1000, 1001] ⟨rfl, rfl, rfl, rfl, ⟨rfl, rfl, trivial⟩, rfl, rfl, rfl⟩ (.pass rfl rfl .nil) ?_)
  rintro r h ⟨rfl, rfl⟩
  refine ⟨(fun e => bif Nat.beq e 1000 then 1000 else 1001), [], ⟨rfl, rfl, rfl, rfl, mem2 rfl rfl, rfl, rfl, fun h => absurd h Bool.false_ne_true⟩, ?_⟩
  try dsimp only [dpP]
  refine ax_q (q_mov rfl) ?_
  refine ax_nil (cx_keep rfl rfl ?_)
  refine cx_ret (retN id [1000, 1001] rfl rfl rfl rfl rfl ?_)
  exact ⟨rfl, rfl⟩


/- (ptr loop.example/g00332/impl.parser).and -/
def k_c_pand : XCode :=
 .seq (.ops [.op (some 2) (.mov (.k (.int .i64 0)))])
 (.keep [0] (.seq (.ops [.op (some 3) (.mov (.t 0)),
   .op (some 4) (.mov (.t 0)),
   .op (some 5) (.mkbf 104 [.t 4]),
   .op (some 6) (.bslice 1 [.k (.int .i64 12)]),
   .call (some 7) 87 [.t 3, .t 5, .t 6],
   .op (some 2) (.mov (.t 7))])
 (.keep [2] (.ret))))
theorem k_c_pand_fits : fitsF Tryz.prog 88 ⟨8, k_c_pand, [.t 2]⟩ = true := by kernel_rfl
theorem c_pand {f : Nat} (ih : RC Tryz.prog 104 (prs f 2)) {s s' : PS} {k : Int} (hs : s.ok) (h : prs (f + 1) 1 s = some (s', k)) : Con Tryz.prog (fun e => Nat.beq e 1001) 88 [.ptr 1000 0] [(1000, .box [.d (.sl 1 (s.tk.map strRow)), .osl 1001 7 0 s.ns.length, int (s.op : Int)]), (1001, .rows 7 (s.ns.map GExprNode.row))] (fun r h => r = int k ∧ h = [(1000, .box [.d (.sl 1 (s'.tk.map strRow)), .osl 1001 7 0 s'.ns.length, int (s'.op : Int)]), (1001, .rows 7 (s'.ns.map GExprNode.row))]) := by
 refine con_of2 k_c_pand_fits rfl fun C hP hmv => ?_
 unfold k_c_pand
 refine cx_seq (cx_ops ?_)
 refine ax_q (q_mov rfl) ?_
 refine ax_nil (cx_keep rfl rfl (cx_seq (cx_ops ?_)))
 refine ax_q (q_mov rfl) ?_
 refine ax_q (q_mov rfl) ?_
 refine ax_q (q_mkbf rfl) ?_
 refine ax_e (e_bsliceD (rows := [intRow 12]) rfl) ?_
 refine ax_call rfl (vcall_own (c_joins (ops := [12]) (f := f) ih (prs_ro f 2) (by kernel_rfl) (by decide) (by decide) hs h) hP hmv false (fun e => bif Nat.beq e 1000 then 1000 else 1001) [1000, 1001] ⟨rfl, rfl, rfl, rfl, ⟨rfl, rfl, trivial⟩, rfl, rfl, rfl⟩ (.pass rfl rfl (.pass rfl rfl (.pass rfl rfl .nil))) ?_)
 rintro r h ⟨rfl, rfl⟩
 refine ⟨(fun e => bif Nat.beq e 1000 then 1000 else 1001), [], ⟨rfl, rfl, rfl, rfl, mem2 rfl rfl, rfl, rfl, fun h => absurd h Bool.false_ne_true⟩, ?_⟩
 try dsimp only [dpP]
 refine ax_q (q_mov rfl) ?_
 refine ax_nil (cx_keep rfl rfl ?_)
 refine cx_ret (retN id [1000, 1001] rfl rfl rfl rfl rfl ?_)
 exact ⟨rfl, rfl⟩


/- (ptr loop.example/g00332/impl.parser).or -/
def k_c_por : XCode :=
 .seq (.ops [.op (some 2) (.mov (.k (.int .i64 0)))])
 (.keep [0] (.seq (.ops [.op (some 3) (.mov (.t 0)),
   .op (some 4) (.mov (.t 0)),
   .op (some 5) (.mkbf 88 [.t 4]),
   .op (some 6) (.bslice 1 [.k (.int .i64 13)]),
   .call (some 7) 87 [.t 3, .t 5, .t 6],
   .op (some 2) (.mov (.t 7))])
 (.keep [2] (.ret))))
theorem k_c_por_fits : fitsF Tryz.prog 56 ⟨8, k_c_por, [.t 2]⟩ = true := by kernel_rfl
theorem c_por {f : Nat} (ih : RC Tryz.prog 88 (prs f 1)) {s s' : PS} {k : Int} (hs : s.ok) (h : prs (f + 1) 0 s = some (s', k)) : Con Tryz.prog (fun e => Nat.beq e 1001) 56 [.ptr 1000 0] [(1000, .box [.d (.sl 1 (s.tk.map strRow)), .osl 1001 7 0 s.ns.length, int (s.op : Int)]), (1001, .rows 7 (s.ns.map GExprNode.row))] (fun r h => r = int k ∧ h = [(1000, .box [.d (.sl 1 (s'.tk.map strRow)), .osl 1001 7 0 s'.ns.length, int (s'.op : Int)]), (1001, .rows 7 (s'.ns.map GExprNode.row))]) := by
 refine con_of2 k_c_por_fits rfl fun C hP hmv => ?_
 unfold k_c_por
 refine cx_seq (cx_ops ?_)
 refine ax_q (q_mov rfl) ?_
 refine ax_nil (cx_keep rfl rfl (cx_seq (cx_ops ?_)))
 refine ax_q (q_mov rfl) ?_
 refine ax_q (q_mov rfl) ?_
 refine ax_q (q_mkbf rfl) ?_
 refine ax_e (e_bsliceD (rows := [intRow 13]) rfl) ?_
 refine ax_call rfl (vcall_own (c_joins (ops := [13]) (f := f) ih (prs_ro f 1) (by kernel_rfl) (by decide) (by decide) hs h) hP hmv false (fun e => bif Nat.beq e 1000 then 1000 else 1001) [1000, 1001] ⟨rfl, rfl, rfl, rfl, ⟨rfl, rfl, trivial⟩, rfl, rfl, rfl⟩ (.pass rfl rfl (.pass rfl rfl (.pass rfl rfl .nil))) ?_)
 rintro r h ⟨rfl, rfl⟩
 refine ⟨(fun e => bif Nat.beq e 1000 then 1000 else 1001), [], ⟨rfl, rfl, rfl, rfl, mem2 rfl rfl, rfl, rfl, fun h => absurd h Bool.false_ne_true⟩, ?_⟩
 try dsimp only [dpP]
 refine ax_q (q_mov rfl) ?_
 refine ax_nil (cx_keep rfl rfl ?_)
 refine cx_ret (retN id [1000, 1001] rfl rfl rfl rfl rfl ?_)
 exact ⟨rfl, rfl⟩

end Go.Proofs.YthdafcdhnjapnaaGreatDoor
