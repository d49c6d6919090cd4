/- The walks: what each function computes, as a contract without a world (part 1). -/
import Derived.Test.YtglpaaehiibfpaaDoorProg
import Derived.Test.YtglpaaehiibfpaaDoorW0
namespace Go.Proofs.YtglpaaehiibfpaaDoor
open Go Go.AM
set_option maxRecDepth 10000
set_option linter.unusedVariables false
set_option linter.unusedSimpArgs false
/- loop.example/g00332/impl.isBinary -/
def k_c_isBinary : XCode :=
 .seq (.ops [.op (some 2) (.mov (.k (.bool false)))])
 (.keep [0] (.seq (.ops [.op (some 3) (.mov (.t 0)),
   .call (some 4) 36 [.t 3, .k (.int .i64 6), .k (.int .i64 13)],
   .op (some 2) (.mov (.t 4))])
 (.keep [2] (.ret))))
theorem k_c_isBinary_fits : fitsF Tryd.prog 57 ⟨5, k_c_isBinary, [.t 2]⟩ = true := by kernel_rfl
theorem c_isBinary {n : Int} : Con Tryd.prog noMv 57 [int n] [] (fun r h => r = bool (inR n 6 13) ∧ h = []) := by
 refine con_of2 k_c_isBinary_fits rfl fun C hP hmv => ?_
 unfold k_c_isBinary
 refine cx_seq ?_
 refine cx_ops ?_
 refine ax_q (q_mov rfl) ?_
 refine ax_nil ?_
 refine cx_keep rfl rfl ?_
 refine cx_seq ?_
 refine cx_ops ?_
 refine ax_q (q_mov rfl) ?_
 first | refine ax_call rfl (vc_pure0 (c_inRange  ) hP rfl rfl ?_) | refine ax_call rfl (vc_lend0 (c_inRange  ) hP (by repeat (first | exact lal_id _ rfl | exact LAL.nil | refine LAL.cons ?_ ?_ | exact la_id _ rfl | exact LA.lend (lend_whole rfl (by first | (simp; done) | (rw [List.length_map]; rfl))) | refine LA.agg ?_ | refine LA.fn ?_ | refine LA.lend ?_ | exact Lend.d _ | exact Lend.zs _ | exact lend_whole rfl (by first | (simp; done) | (rw [List.length_map]; rfl)) | refine Lend.ptr rfl ?_ | refine Lend.fn ?_ | exact LendL.nil | refine LendL.cons ?_ ?_)) rfl rfl ?_)
 refine ax_q (q_mov rfl) ?_
 refine ax_nil ?_
 refine cx_keep rfl rfl ?_
 refine cx_ret (ret0 rfl rfl ?_)
 exact ⟨rfl, rfl⟩


/- loop.example/g00332/impl.depthOf -/
def k_c_depthOf : XCode :=
 .seq (.ops [.op (some 2) (.mov (.k (.int .i64 0)))])
 (.keep [0] (.seq (.ops [.op (some 13) (.bslice 2 []),
   .op (some 3) (.alloc [.nils 2]),
   .op none (.store 1 (.t 3) (.t 13))])
 (.keep [0, 3] (.seq (.ops [.op (some 14) (.mkfn 54 [.t 3]),
   .op (some 4) (.mov (.t 14))])
 (.keep [0, 3, 4] (.seq (.seq (.ops [.op (some 15) (.mov (.t 0)),
   .op (some 16) (.lenS (.t 15)),
   .op (some 17) (.mov (.k (.int .i64 0)))])
  (.keep [3, 4, 15, 16, 17] (.block 0 (.loop (.seq (.ops [.op (some 18) (.bin .lss (.t 17) (.t 16))])
   (.keep [3, 4, 15, 16, 17, 18] (.seq (.cond (.t 18)
    (.skip)
    (.exit 0))
   (.keep [3, 4, 15, 16, 17] (.seq (.block 1 (.seq (.ops [.op (some 19) (.mov (.t 17)),
     .op (some 20) (.iadr 7 (.t 15) (.t 17)),
     .op (some 21) (.loadN 7 (.t 20)),
     .op (some 6) (.alloc [.int .i64 0, .int .i64 0, .int .i64 0, .int .i64 0, .int .i64 0, .int .i64 0, .str []]),
     .op (some 5) (.mov (.t 19)),
     .op none (.store 7 (.t 6) (.t 21))])
    (.keep [3, 4, 5, 6, 15, 16, 17] (.seq (.ops [.op (some 7) (.mov (.k (.int .i64 0))),
     .op (some 8) (.mov (.k (.bool true)))])
    (.keep [3, 4, 5, 6, 7, 15, 16, 17] (.seq (.block 2 (.seq (.ops [.op (some 23) (.fadr (.t 6) 0),
      .op (some 24) (.load1 (.t 23)),
      .op (some 25) (.bin .eql (.t 24) (.k (.int .i64 1))),
      .op (some 22) (.mov (.t 25))])
     (.keep [3, 4, 5, 6, 7, 15, 16, 17, 22] (.cond (.t 22)
     (.ops [.op (some 26) (.fadr (.t 6) 1),
       .op (some 27) (.load1 (.t 26)),
       .op (some 28) (.bin .eql (.t 27) (.k (.int .i64 0))),
       .op (some 29) (.mov (.t 28)),
       .andor 33 true 3 29 [.op (some 30) (.fadr (.t 6) 2), .op (some 31) (.load1 (.t 30)), .op (some 32) (.bin .eql (.t 31) (.k (.int .i64 0)))] (.t 32),
       .op (some 34) (.mov (.t 33)),
       .andor 38 true 8 34 [.op (some 35) (.fadr (.t 6) 3), .op (some 36) (.load1 (.t 35)), .op (some 37) (.bin .eql (.t 36) (.k (.int .i64 0)))] (.t 37),
       .op (some 39) (.mov (.t 38)),
       .andor 43 true 13 39 [.op (some 40) (.fadr (.t 6) 4), .op (some 41) (.loadN 3 (.t 40)), .call (some 42) 55 [.t 41]] (.t 42),
       .op (some 8) (.mov (.t 43))])
     (.seq (.ops [.op (some 45) (.fadr (.t 6) 0),
       .op (some 46) (.load1 (.t 45)),
       .op (some 47) (.bin .eql (.t 46) (.k (.int .i64 2))),
       .op (some 44) (.mov (.t 47))])
      (.keep [3, 4, 5, 6, 7, 15, 16, 17, 44] (.cond (.t 44)
      (.ops [.op (some 48) (.fadr (.t 6) 1),
        .op (some 49) (.load1 (.t 48)),
        .op (some 50) (.bin .eql (.t 49) (.k (.int .i64 0))),
        .op (some 51) (.mov (.t 50)),
        .andor 55 true 3 51 [.op (some 52) (.fadr (.t 6) 2), .op (some 53) (.load1 (.t 52)), .op (some 54) (.bin .eql (.t 53) (.k (.int .i64 0)))] (.t 54),
        .op (some 56) (.mov (.t 55)),
        .andor 60 true 8 56 [.op (some 57) (.fadr (.t 6) 3), .op (some 58) (.load1 (.t 57)), .call (some 59) 47 [.t 58, .k (.int .i64 3)]] (.t 59),
        .op (some 61) (.mov (.t 60)),
        .andor 66 true 13 61 [.op (some 62) (.fadr (.t 6) 4), .op (some 63) (.loadN 3 (.t 62)), .op (some 64) (.build [.int .i64 0, .int .i64 0, .str []] []), .op (some 65) (.eqs false [0, 0, 2] (.t 63) (.t 64))] (.t 65),
        .op (some 8) (.mov (.t 66))])
      (.seq (.ops [.op (some 68) (.fadr (.t 6) 0),
        .op (some 69) (.load1 (.t 68)),
        .call (some 70) 56 [.t 69],
        .op (some 67) (.mov (.t 70))])
       (.keep [3, 4, 5, 6, 7, 15, 16, 17, 67] (.cond (.t 67)
       (.seq (.ops [.op (some 72) (.mov (.t 4)),
         .op (some 73) (.fadr (.t 6) 1),
         .op (some 74) (.load1 (.t 73)),
         .callv (some 75) (.t 72) [.t 74],
         .op (some 71) (.mov (.t 75)),
         .op (some 76) (.ext (.t 71) 0),
         .op (some 77) (.ext (.t 71) 1),
         .op (some 7) (.mov (.t 76)),
         .op (some 8) (.mov (.t 77))])
        (.keep [3, 4, 5, 6, 7, 8, 15, 16, 17] (.ops [.op (some 78) (.mov (.t 8)),
         .op (some 79) (.mov (.t 78)),
         .andor 83 true 1 79 [.op (some 80) (.fadr (.t 6) 2), .op (some 81) (.load1 (.t 80)), .op (some 82) (.bin .eql (.t 81) (.k (.int .i64 0)))] (.t 82),
         .op (some 84) (.mov (.t 83)),
         .andor 88 true 6 84 [.op (some 85) (.fadr (.t 6) 3), .op (some 86) (.load1 (.t 85)), .op (some 87) (.bin .eql (.t 86) (.k (.int .i64 0)))] (.t 87),
         .op (some 89) (.mov (.t 88)),
         .andor 94 true 11 89 [.op (some 90) (.fadr (.t 6) 4), .op (some 91) (.loadN 3 (.t 90)), .op (some 92) (.build [.int .i64 0, .int .i64 0, .str []] []), .op (some 93) (.eqs false [0, 0, 2] (.t 91) (.t 92))] (.t 93),
         .op (some 8) (.mov (.t 94))])))
       (.seq (.ops [.op (some 96) (.fadr (.t 6) 0),
         .op (some 97) (.load1 (.t 96)),
         .call (some 98) 57 [.t 97],
         .op (some 95) (.mov (.t 98))])
        (.keep [3, 4, 5, 6, 7, 15, 16, 17, 95] (.cond (.t 95)
        (.seq (.ops [.op (some 100) (.mov (.t 4)),
          .op (some 101) (.fadr (.t 6) 2),
          .op (some 102) (.load1 (.t 101)),
          .callv (some 103) (.t 100) [.t 102],
          .op (some 99) (.mov (.t 103)),
          .op (some 104) (.ext (.t 99) 0),
          .op (some 105) (.ext (.t 99) 1),
          .op (some 9) (.mov (.t 104)),
          .op (some 10) (.mov (.t 105))])
         (.keep [3, 4, 5, 6, 9, 10, 15, 16, 17] (.seq (.ops [.op (some 107) (.mov (.t 4)),
          .op (some 108) (.fadr (.t 6) 1),
          .op (some 109) (.load1 (.t 108)),
          .callv (some 110) (.t 107) [.t 109],
          .op (some 106) (.mov (.t 110)),
          .op (some 111) (.ext (.t 106) 0),
          .op (some 112) (.ext (.t 106) 1),
          .op (some 11) (.mov (.t 111)),
          .op (some 12) (.mov (.t 112))])
         (.keep [3, 4, 5, 6, 9, 10, 11, 12, 15, 16, 17] (.draw [.op (some 113) (.mov (.t 11)),
          .op (some 114) (.mov (.t 9)),
          .op (some 115) (.mx true (.t 113) (.t 114)),
          .op (some 116) (.mov (.t 10)),
          .op (some 117) (.mov (.t 116)),
          .andor 119 true 4 117 [.op (some 118) (.mov (.t 12))] (.t 118),
          .op (some 120) (.mov (.t 119)),
          .andor 124 true 7 120 [.op (some 121) (.fadr (.t 6) 3), .op (some 122) (.load1 (.t 121)), .op (some 123) (.bin .eql (.t 122) (.k (.int .i64 0)))] (.t 123),
          .op (some 125) (.mov (.t 124)),
          .andor 130 true 12 125 [.op (some 126) (.fadr (.t 6) 4), .op (some 127) (.loadN 3 (.t 126)), .op (some 128) (.build [.int .i64 0, .int .i64 0, .str []] []), .op (some 129) (.eqs false [0, 0, 2] (.t 127) (.t 128))] (.t 129),
          .op (some 7) (.mov (.t 115)),
          .op (some 8) (.mov (.t 130))])))))
        (.ops [.op (some 8) (.mov (.k (.bool false)))]))))))))))))))
    (.keep [3, 4, 5, 7, 8, 15, 16, 17] (.seq (.seq (.ops [.op (some 131) (.mov (.t 8)),
      .op (some 132) (.not (.t 131))])
    (.keep [3, 4, 5, 7, 15, 16, 17, 132] (.cond (.t 132)
     (.seq (.ops [.op (some 2) (.mov (.k (.int .i64 0)))])
     (.keep [2] (.ret)))
     (.skip))))
    (.keep [3, 4, 5, 7, 15, 16, 17] (.ops [.op (some 133) (.load1 (.t 3)),
     .op (some 134) (.mov (.t 5)),
     .op (some 135) (.mov (.t 7)),
     .op (some 136) (.bin .add (.t 135) (.k (.int .i64 1))),
     .op (some 137) (.build [.int .i64 0, .int .i64 0] [(0, 1, .t 134), (1, 1, .t 136)]),
     .op (some 138) (.bslice 2 [.t 137]),
     .op (some 139) (.app 2 16 [.int .i64 0, .int .i64 0] (.t 133) (.t 138)),
     .op none (.store 1 (.t 3) (.t 139))]))))))))))
   (.keep [3, 4, 15, 16, 17] (.ops [.op (some 140) (.bin .add (.t 17) (.k (.int .i64 1))),
    .op (some 17) (.mov (.t 140))])))))))))))
 (.keep [3] (.seq (.seq (.ops [.op (some 141) (.load1 (.t 3)),
   .op (some 142) (.lenS (.t 141)),
   .op (some 143) (.bin .neq (.t 142) (.k (.int .i64 1)))])
  (.keep [3, 143] (.cond (.t 143)
  (.seq (.ops [.op (some 2) (.mov (.k (.int .i64 0)))])
   (.keep [2] (.ret)))
  (.skip))))
 (.keep [3] (.seq (.ops [.op (some 144) (.load1 (.t 3)),
   .op (some 145) (.iadr 2 (.t 144) (.k (.int .i64 0))),
   .op (some 146) (.fadr (.t 145) 1),
   .op (some 147) (.load1 (.t 146)),
   .op (some 2) (.mov (.t 147))])
 (.keep [2] (.ret))))))))))))
theorem k_c_depthOf_fits : fitsF Tryd.prog 37 ⟨148, k_c_depthOf, [.t 2]⟩ = true := by kernel_rfl
theorem c_depthOf {ns : List GExprNode} (hw : ns.length ≤ 1048576) (hv : ∀ x ∈ ns, x.V.T.length ≤ 1048576) : Con Tryd.prog noMv 37 [.d (.sl 7 (ns.map GExprNode.row))] [] (fun r h => r = int (depthF ns) ∧ h = []) := by
 refine con_of2 k_c_depthOf_fits rfl fun C hP hmv => ?_
 unfold k_c_depthOf
 refine cx_seq ?_
 refine cx_ops ?_
 refine ax_q (q_mov rfl) ?_
 refine ax_nil ?_
 refine cx_keep rfl rfl ?_
 refine cx_seq ?_
 refine cx_ops ?_
 refine ax_e (e_bslice rfl (by decide) rfl rfl) ?_
 refine ax_e (e_alloc (by decide) rfl rfl) ?_
 refine ax_e (e_st rfl rfl rfl rfl rfl rfl rfl) ?_
 refine ax_nil ?_
 refine cx_keep rfl rfl ?_
 refine cx_seq ?_
 refine cx_ops ?_
 refine ax_q (q_mkfn rfl) ?_
 refine ax_q (q_mov rfl) ?_
 refine ax_nil ?_
 refine cx_keep rfl rfl ?_
 refine cx_seq ?_
 refine cx_seq ?_
 refine cx_ops ?_
 refine ax_q (q_mov rfl) ?_
 first | refine ax_q (q_lenS_map rfl) ?_ | refine ax_q (q_lenS_osl rfl) ?_ | refine ax_q (q_lenS_zs rfl) ?_ | refine ax_q (q_lenS rfl) ?_
 refine ax_q (q_mov rfl) ?_
 refine ax_nil ?_
 refine cx_keep rfl rfl ?_
 refine cx_block ?_
 refine cx_loopU (fun n (p : Nat × List IDp × List (List D)) => p.1 ≤ ns.length ∧ n = ns.length - p.1 ∧ scanD ns p.1 = some p.2.1 ∧ p.2.2.take p.2.1.length = p.2.1.map prow ∧ p.2.1.length ≤ p.1 ∧ lowS p.2.1 p.1) (fun p => [(17, int p.1)]) (fun p => [(3, .box [.osl 13 2 0 p.2.1.length]), (13, .rows 2 p.2.2)]) ⟨_, (0, [], []), ⟨Nat.zero_le _, rfl, rfl, rfl, Nat.le_refl _, fun p hp => by cases hp⟩, by repeat (first | exact trivial | refine ⟨rfl, ?_⟩ | refine ⟨?_, ?_⟩)⟩ ?_
 rintro n ⟨k, S, rs⟩ ⟨hk, rfl, hs, hrs, hS, hlow⟩
 simp only at hk hs hrs hS hlow ⊢
 refine cx_seq ?_
 refine cx_ops ?_
 refine ax_q (q_ibin rfl rfl rfl) ?_
 refine ax_nil ?_
 refine cx_keep rfl rfl ?_
 refine cx_seq ?_
 refine cx_cond rfl (fun h0 => ?_) (fun h0 => ?_)
 ·
  have h0 := dT h0
  have h0x : k < ns.length := by omega
  have hvk := hv _ (List.getElem_mem h0x)
  have hlw := @okD_low S ns[k] k (by omega) hlow
  have hor := okD_rs (x := ns[k]) hrs
  refine cx_skip ?_
  refine cx_keep rfl rfl ?_
  refine cx_seq ?_
  refine cx_block ?_
  refine cx_seq ?_
  refine cx_ops ?_
  refine ax_q (q_mov rfl) ?_
  refine ax_q (q_ix rfl rfl (mapAt h0x)) ?_
  first | refine ax_q (q_ldN rfl rfl rfl) ?_ | refine ax_q (q_loadN_ip rfl (Nat.le_refl _)) ?_ | refine ax_q (q_loadN_ip rfl (by decide)) ?_ | refine ax_q (q_loadN_rptr rfl rfl (by assumption) (by decide)) ?_ | refine ax_q (q_loadN_rptr rfl rfl (mapAt (by first | assumption | omega)) (by decide)) ?_
  refine ax_e (e_alloc (by decide) rfl rfl) ?_
  refine ax_q (q_mov rfl) ?_
  refine ax_e (e_st rfl rfl rfl rfl rfl rfl rfl) ?_
  refine ax_nil ?_
  refine cx_keep rfl rfl ?_
  refine cx_seq ?_
  refine cx_ops ?_
  refine ax_q (q_mov rfl) ?_
  refine ax_q (q_mov rfl) ?_
  refine ax_nil ?_
  refine cx_keep rfl rfl ?_
  refine cx_seq ?_
  refine cx_block ?_
  refine cx_seq ?_
  refine cx_ops ?_
  refine ax_q (q_fadr_ptr rfl) ?_
  refine ax_q (q_load1_ptr rfl rfl rfl) ?_
  refine ax_q (q_ibin rfl rfl rfl) ?_
  refine ax_q (q_mov rfl) ?_
  refine ax_nil ?_
  refine cx_keep rfl rfl ?_
  refine cx_cond rfl (fun h1 => ?_) (fun h1 => ?_)
  ·
   have h1 := dT h1
   have ho := okD_1 (S := S) h1
   refine cx_ops ?_
   refine ax_q (q_fadr_ptr rfl) ?_
   refine ax_q (q_load1_ptr rfl rfl rfl) ?_
   refine ax_q (q_ibin rfl rfl rfl) ?_
   refine ax_q (q_mov rfl) ?_
   apply ax_and rfl rfl
   ·
    intro g
    have g := dT g
    refine ax_q (q_fadr_ptr rfl) ?_
    refine ax_q (q_load1_ptr rfl rfl rfl) ?_
    refine ax_q (q_ibin rfl rfl rfl) ?_
    exact ax_nil ⟨rfl, by repeat (first | exact trivial | refine ⟨rfl, ?_⟩ | refine ⟨?_, ?_⟩)⟩
   refine ax_q (q_mov rfl) ?_
   apply ax_and rfl rfl
   ·
    intro g
    have g := (fun h => And.intro (dT (and_T h).1) (dT (and_T h).2)) g
    refine ax_q (q_fadr_ptr rfl) ?_
    refine ax_q (q_load1_ptr rfl rfl rfl) ?_
    refine ax_q (q_ibin rfl rfl rfl) ?_
    exact ax_nil ⟨rfl, by repeat (first | exact trivial | refine ⟨rfl, ?_⟩ | refine ⟨?_, ?_⟩)⟩
   refine ax_q (q_mov rfl) ?_
   apply ax_and rfl rfl
   ·
    intro g
    have g := (fun h => And.intro ((fun h => And.intro (dT (and_T h).1) (dT (and_T h).2)) (and_T h).1) (dT (and_T h).2)) g
    refine ax_q (q_fadr_ptr rfl) ?_
    refine ax_q (q_ldN rfl rfl rfl) ?_
    first | refine ax_call rfl (vc_pure0 (c_ValueOK (v := ns[k].V) ?_) hP rfl rfl ?_) | refine ax_call rfl (vc_lend0 (c_ValueOK (v := ns[k].V) ?_) hP (by repeat (first | exact lal_id _ rfl | exact LAL.nil | refine LAL.cons ?_ ?_ | exact la_id _ rfl | exact LA.lend (lend_whole rfl (by first | (simp; done) | (rw [List.length_map]; rfl))) | refine LA.agg ?_ | refine LA.fn ?_ | refine LA.lend ?_ | exact Lend.d _ | exact Lend.zs _ | exact lend_whole rfl (by first | (simp; done) | (rw [List.length_map]; rfl)) | refine Lend.ptr rfl ?_ | refine Lend.fn ?_ | exact LendL.nil | refine LendL.cons ?_ ?_)) rfl rfl ?_)
    ·
     first | assumption | omega | (simp; done) | (simp; omega)
    exact ax_nil ⟨rfl, by repeat (first | exact trivial | refine ⟨rfl, ?_⟩ | refine ⟨?_, ?_⟩)⟩
   refine ax_q (q_mov rfl) ?_
   refine ax_nil ?_
   refine cx_keep rfl rfl ?_
   refine cx_seq ?_
   refine cx_seq ?_
   refine cx_ops ?_
   refine ax_q (q_mov rfl) ?_
   refine ax_q (q_not rfl) ?_
   refine ax_nil ?_
   refine cx_keep rfl rfl ?_
   refine cx_cond rfl (fun h5 => ?_) (fun h5 => ?_)
   ·
    have h5 : (okD S ns[k]).1 = false := by rw [ho] <;> exact bT h5
    refine cx_seq ?_
    refine cx_ops ?_
    refine ax_q (q_mov rfl) ?_
    refine ax_nil ?_
    refine cx_keep rfl rfl ?_
    refine cx_ret (ret0 rfl rfl ?_)
    exact ⟨by rw [depthF_none (k := k + 1) (by omega) (by rw [scan_next h0x hs, stepD_f h5])]; rfl, rfl⟩
   ·
    have h5 : (okD S ns[k]).1 = true := by rw [ho] <;> exact bF h5
    have hs2 := scan_next h0x hs
    rw [stepD_t h5, ho] at hs2
    rw [ho] at hlw hor
    dsimp only at hs2 hlw hor
    refine cx_skip ?_
    refine cx_keep rfl rfl ?_
    refine cx_ops ?_
    refine ax_q (q_load1_ptr rfl rfl rfl) ?_
    refine ax_q (q_mov rfl) ?_
    refine ax_q (q_mov rfl) ?_
    refine ax_q (q_add rfl rfl (by omega)) ?_
    refine ax_q (q_build rfl) ?_
    refine ax_e (e_bslice rfl (by decide) rfl rfl) ?_
    refine ax_e (e_appn rfl rfl (stk_le hor) rfl (src_osl rfl (by simp)) (.inl (by decide)) (hbnd (by omega) (by simp) (by decide)) (stk_len hs2) (stk_app hs2 hor)) ?_
    refine ax_e (e_st rfl rfl rfl rfl rfl rfl rfl) ?_
    refine ax_nil ?_
    refine cx_keep rfl rfl ?_
    refine cx_ops ?_
    refine ax_qe (r' := int ((k + 1 : Nat) : Int)) (q_ibin rfl rfl rfl) (by rw [wi (by omega) (by omega)]; rfl) ?_
    refine ax_q (q_mov rfl) ?_
    refine ax_nil ?_
    exact ⟨_, (k + 1, _, _), by simp only; omega, ⟨by simp only; omega, rfl, hs2, stk_inv hs2, by simp only [List.length_append, List.length_singleton]; omega, by rw [show ((k + 1 : Nat) : Int) = (k : Int) + 1 from by omega]; exact lowS_app hlw.2.2.1 ⟨hlw.1, hlw.2.1⟩⟩, by repeat (first | exact trivial | refine ⟨rfl, ?_⟩ | refine ⟨?_, ?_⟩)⟩
  ·
   have h1 := dF h1
   refine cx_seq ?_
   refine cx_ops ?_
   refine ax_q (q_fadr_ptr rfl) ?_
   refine ax_q (q_load1_ptr rfl rfl rfl) ?_
   refine ax_q (q_ibin rfl rfl rfl) ?_
   refine ax_q (q_mov rfl) ?_
   refine ax_nil ?_
   refine cx_keep rfl rfl ?_
   refine cx_cond rfl (fun h2 => ?_) (fun h2 => ?_)
   ·
    have h2 := dT h2
    have ho := okD_2 (S := S) h1 h2
    refine cx_ops ?_
    refine ax_q (q_fadr_ptr rfl) ?_
    refine ax_q (q_load1_ptr rfl rfl rfl) ?_
    refine ax_q (q_ibin rfl rfl rfl) ?_
    refine ax_q (q_mov rfl) ?_
    apply ax_and rfl rfl
    ·
     intro g
     have g := dT g
     refine ax_q (q_fadr_ptr rfl) ?_
     refine ax_q (q_load1_ptr rfl rfl rfl) ?_
     refine ax_q (q_ibin rfl rfl rfl) ?_
     exact ax_nil ⟨rfl, by repeat (first | exact trivial | refine ⟨rfl, ?_⟩ | refine ⟨?_, ?_⟩)⟩
    refine ax_q (q_mov rfl) ?_
    apply ax_and rfl rfl
    ·
     intro g
     have g := (fun h => And.intro (dT (and_T h).1) (dT (and_T h).2)) g
     refine ax_q (q_fadr_ptr rfl) ?_
     refine ax_q (q_load1_ptr rfl rfl rfl) ?_
     first | refine ax_call rfl (vc_pure0 (c_isPlace  ?_) hP rfl rfl ?_) | refine ax_call rfl (vc_lend0 (c_isPlace  ?_) hP (by repeat (first | exact lal_id _ rfl | exact LAL.nil | refine LAL.cons ?_ ?_ | exact la_id _ rfl | exact LA.lend (lend_whole rfl (by first | (simp; done) | (rw [List.length_map]; rfl))) | refine LA.agg ?_ | refine LA.fn ?_ | refine LA.lend ?_ | exact Lend.d _ | exact Lend.zs _ | exact lend_whole rfl (by first | (simp; done) | (rw [List.length_map]; rfl)) | refine Lend.ptr rfl ?_ | refine Lend.fn ?_ | exact LendL.nil | refine LendL.cons ?_ ?_)) rfl rfl ?_)
     ·
      first | assumption | omega | (simp; done) | (simp; omega)
     exact ax_nil ⟨rfl, by repeat (first | exact trivial | refine ⟨rfl, ?_⟩ | refine ⟨?_, ?_⟩)⟩
    refine ax_q (q_mov rfl) ?_
    apply ax_and rfl rfl
    ·
     intro g
     have g := (fun h => And.intro ((fun h => And.intro (dT (and_T h).1) (dT (and_T h).2)) (and_T h).1) (id (and_T h).2)) g
     refine ax_q (q_fadr_ptr rfl) ?_
     refine ax_q (q_ldN rfl rfl rfl) ?_
     refine ax_q (q_build rfl) ?_
     first | refine ax_q (GValue.q_eqs rfl rfl) ?_ | refine ax_q (q_eqs rfl rfl rfl) ?_
     exact ax_nil ⟨rfl, by repeat (first | exact trivial | refine ⟨rfl, ?_⟩ | refine ⟨?_, ?_⟩)⟩
    refine ax_q (q_mov rfl) ?_
    refine ax_nil ?_
    refine cx_keep rfl rfl ?_
    refine cx_seq ?_
    refine cx_seq ?_
    refine cx_ops ?_
    refine ax_q (q_mov rfl) ?_
    refine ax_q (q_not rfl) ?_
    refine ax_nil ?_
    refine cx_keep rfl rfl ?_
    refine cx_cond rfl (fun h5 => ?_) (fun h5 => ?_)
    ·
     have h5 : (okD S ns[k]).1 = false := by rw [ho] <;> exact bT h5
     refine cx_seq ?_
     refine cx_ops ?_
     refine ax_q (q_mov rfl) ?_
     refine ax_nil ?_
     refine cx_keep rfl rfl ?_
     refine cx_ret (ret0 rfl rfl ?_)
     exact ⟨by rw [depthF_none (k := k + 1) (by omega) (by rw [scan_next h0x hs, stepD_f h5])]; rfl, rfl⟩
    ·
     have h5 : (okD S ns[k]).1 = true := by rw [ho] <;> exact bF h5
     have hs2 := scan_next h0x hs
     rw [stepD_t h5, ho] at hs2
     rw [ho] at hlw hor
     dsimp only at hs2 hlw hor
     refine cx_skip ?_
     refine cx_keep rfl rfl ?_
     refine cx_ops ?_
     refine ax_q (q_load1_ptr rfl rfl rfl) ?_
     refine ax_q (q_mov rfl) ?_
     refine ax_q (q_mov rfl) ?_
     refine ax_q (q_add rfl rfl (by omega)) ?_
     refine ax_q (q_build rfl) ?_
     refine ax_e (e_bslice rfl (by decide) rfl rfl) ?_
     refine ax_e (e_appn rfl rfl (stk_le hor) rfl (src_osl rfl (by simp)) (.inl (by decide)) (hbnd (by omega) (by simp) (by decide)) (stk_len hs2) (stk_app hs2 hor)) ?_
     refine ax_e (e_st rfl rfl rfl rfl rfl rfl rfl) ?_
     refine ax_nil ?_
     refine cx_keep rfl rfl ?_
     refine cx_ops ?_
     refine ax_qe (r' := int ((k + 1 : Nat) : Int)) (q_ibin rfl rfl rfl) (by rw [wi (by omega) (by omega)]; rfl) ?_
     refine ax_q (q_mov rfl) ?_
     refine ax_nil ?_
     exact ⟨_, (k + 1, _, _), by simp only; omega, ⟨by simp only; omega, rfl, hs2, stk_inv hs2, by simp only [List.length_append, List.length_singleton]; omega, by rw [show ((k + 1 : Nat) : Int) = (k : Int) + 1 from by omega]; exact lowS_app hlw.2.2.1 ⟨hlw.1, hlw.2.1⟩⟩, by repeat (first | exact trivial | refine ⟨rfl, ?_⟩ | refine ⟨?_, ?_⟩)⟩
   ·
    have h2 := dF h2
    refine cx_seq ?_
    refine cx_ops ?_
    refine ax_q (q_fadr_ptr rfl) ?_
    refine ax_q (q_load1_ptr rfl rfl rfl) ?_
    first | refine ax_call rfl (vc_pure0 (c_isUnary  ) hP rfl rfl ?_) | refine ax_call rfl (vc_lend0 (c_isUnary  ) hP (by repeat (first | exact lal_id _ rfl | exact LAL.nil | refine LAL.cons ?_ ?_ | exact la_id _ rfl | exact LA.lend (lend_whole rfl (by first | (simp; done) | (rw [List.length_map]; rfl))) | refine LA.agg ?_ | refine LA.fn ?_ | refine LA.lend ?_ | exact Lend.d _ | exact Lend.zs _ | exact lend_whole rfl (by first | (simp; done) | (rw [List.length_map]; rfl)) | refine Lend.ptr rfl ?_ | refine Lend.fn ?_ | exact LendL.nil | refine LendL.cons ?_ ?_)) rfl rfl ?_)
    refine ax_q (q_mov rfl) ?_
    refine ax_nil ?_
    refine cx_keep rfl rfl ?_
    refine cx_cond rfl (fun h3 => ?_) (fun h3 => ?_)
    ·
     skip
     have ho := okD_3 (S := S) h1 h2 h3
     refine cx_seq ?_
     refine cx_ops ?_
     refine ax_q (q_mov rfl) ?_
     refine ax_q (q_fadr_ptr rfl) ?_
     refine ax_q (q_load1_ptr rfl rfl rfl) ?_
     refine ax_callv rfl (by rw [hP]; kernel_rfl) rfl (vcall_own (c_depthOf1 (S := S) (rs := rs) (a := ns[k].A) ?_ ?_) hP hmv false (fun e => bif Nat.beq e 1000 then 3 else 13) [1000, 1001] ⟨rfl, rfl, rfl, rfl, ⟨rfl, rfl, trivial⟩, rfl, rfl, rfl⟩ (.pass rfl rfl (.pass rfl rfl .nil)) ?_)
     ·
      omega
     ·
      exact hrs
     rintro r h ⟨rfl, rfl⟩
     refine ⟨fun e => bif Nat.beq e 1000 then 3 else 13, [], ⟨rfl, rfl, rfl, rfl, mem2 rfl rfl, rfl, rfl, fun h => absurd h Bool.false_ne_true⟩, ?_⟩
     refine ax_q (q_mov rfl) ?_
     refine ax_q (q_ext rfl rfl) ?_
     refine ax_q (q_ext rfl rfl) ?_
     refine ax_q (q_mov rfl) ?_
     refine ax_q (q_mov rfl) ?_
     refine ax_nil ?_
     refine cx_keep rfl rfl ?_
     refine cx_ops ?_
     refine ax_q (q_mov rfl) ?_
     refine ax_q (q_mov rfl) ?_
     apply ax_and rfl rfl
     ·
      intro g
      refine ax_q (q_fadr_ptr rfl) ?_
      refine ax_q (q_load1_ptr rfl rfl rfl) ?_
      refine ax_q (q_ibin rfl rfl rfl) ?_
      exact ax_nil ⟨rfl, by repeat (first | exact trivial | refine ⟨rfl, ?_⟩ | refine ⟨?_, ?_⟩)⟩
     refine ax_q (q_mov rfl) ?_
     apply ax_and rfl rfl
     ·
      intro g
      have g := (fun h => And.intro (id (and_T h).1) (dT (and_T h).2)) g
      refine ax_q (q_fadr_ptr rfl) ?_
      refine ax_q (q_load1_ptr rfl rfl rfl) ?_
      refine ax_q (q_ibin rfl rfl rfl) ?_
      exact ax_nil ⟨rfl, by repeat (first | exact trivial | refine ⟨rfl, ?_⟩ | refine ⟨?_, ?_⟩)⟩
     refine ax_q (q_mov rfl) ?_
     apply ax_and rfl rfl
     ·
      intro g
      have g := (fun h => And.intro ((fun h => And.intro (id (and_T h).1) (dT (and_T h).2)) (and_T h).1) (dT (and_T h).2)) g
      refine ax_q (q_fadr_ptr rfl) ?_
      refine ax_q (q_ldN rfl rfl rfl) ?_
      refine ax_q (q_build rfl) ?_
      first | refine ax_q (GValue.q_eqs rfl rfl) ?_ | refine ax_q (q_eqs rfl rfl rfl) ?_
      exact ax_nil ⟨rfl, by repeat (first | exact trivial | refine ⟨rfl, ?_⟩ | refine ⟨?_, ?_⟩)⟩
     refine ax_q (q_mov rfl) ?_
     refine ax_nil ?_
     refine cx_keep rfl rfl ?_
     refine cx_seq ?_
     refine cx_seq ?_
     refine cx_ops ?_
     refine ax_q (q_mov rfl) ?_
     refine ax_q (q_not rfl) ?_
     refine ax_nil ?_
     refine cx_keep rfl rfl ?_
     refine cx_cond rfl (fun h5 => ?_) (fun h5 => ?_)
     ·
      have h5 : (okD S ns[k]).1 = false := by rw [ho] <;> exact bT h5
      refine cx_seq ?_
      refine cx_ops ?_
      refine ax_q (q_mov rfl) ?_
      refine ax_nil ?_
      refine cx_keep rfl rfl ?_
      refine cx_ret (ret0 rfl rfl ?_)
      exact ⟨by rw [depthF_none (k := k + 1) (by omega) (by rw [scan_next h0x hs, stepD_f h5])]; rfl, rfl⟩
     ·
      have h5 : (okD S ns[k]).1 = true := by rw [ho] <;> exact bF h5
      have hs2 := scan_next h0x hs
      rw [stepD_t h5, ho] at hs2
      rw [ho] at hlw hor
      dsimp only at hs2 hlw hor
      refine cx_skip ?_
      refine cx_keep rfl rfl ?_
      refine cx_ops ?_
      refine ax_q (q_load1_ptr rfl rfl rfl) ?_
      refine ax_q (q_mov rfl) ?_
      refine ax_q (q_mov rfl) ?_
      refine ax_q (q_add rfl rfl (by omega)) ?_
      refine ax_q (q_build rfl) ?_
      refine ax_e (e_bslice rfl (by decide) rfl rfl) ?_
      refine ax_e (e_appn rfl rfl (stk_le hor) rfl (src_osl rfl (by simp)) (.inl (by decide)) (hbnd (by omega) (by simp) (by decide)) (stk_len hs2) (stk_app hs2 hor)) ?_
      refine ax_e (e_st rfl rfl rfl rfl rfl rfl rfl) ?_
      refine ax_nil ?_
      refine cx_keep rfl rfl ?_
      refine cx_ops ?_
      refine ax_qe (r' := int ((k + 1 : Nat) : Int)) (q_ibin rfl rfl rfl) (by rw [wi (by omega) (by omega)]; rfl) ?_
      refine ax_q (q_mov rfl) ?_
      refine ax_nil ?_
      exact ⟨_, (k + 1, _, _), by simp only; omega, ⟨by simp only; omega, rfl, hs2, stk_inv hs2, by simp only [List.length_append, List.length_singleton]; omega, by rw [show ((k + 1 : Nat) : Int) = (k : Int) + 1 from by omega]; exact lowS_app hlw.2.2.1 ⟨hlw.1, hlw.2.1⟩⟩, by repeat (first | exact trivial | refine ⟨rfl, ?_⟩ | refine ⟨?_, ?_⟩)⟩
    ·
     skip
     refine cx_seq ?_
     refine cx_ops ?_
     refine ax_q (q_fadr_ptr rfl) ?_
     refine ax_q (q_load1_ptr rfl rfl rfl) ?_
     first | refine ax_call rfl (vc_pure0 (c_isBinary  ) hP rfl rfl ?_) | refine ax_call rfl (vc_lend0 (c_isBinary  ) hP (by repeat (first | exact lal_id _ rfl | exact LAL.nil | refine LAL.cons ?_ ?_ | exact la_id _ rfl | exact LA.lend (lend_whole rfl (by first | (simp; done) | (rw [List.length_map]; rfl))) | refine LA.agg ?_ | refine LA.fn ?_ | refine LA.lend ?_ | exact Lend.d _ | exact Lend.zs _ | exact lend_whole rfl (by first | (simp; done) | (rw [List.length_map]; rfl)) | refine Lend.ptr rfl ?_ | refine Lend.fn ?_ | exact LendL.nil | refine LendL.cons ?_ ?_)) rfl rfl ?_)
     refine ax_q (q_mov rfl) ?_
     refine ax_nil ?_
     refine cx_keep rfl rfl ?_
     refine cx_cond rfl (fun h4 => ?_) (fun h4 => ?_)
     ·
      skip
      have ho := okD_4 (S := S) h1 h2 h3 h4
      refine cx_seq ?_
      refine cx_ops ?_
      refine ax_q (q_mov rfl) ?_
      refine ax_q (q_fadr_ptr rfl) ?_
      refine ax_q (q_load1_ptr rfl rfl rfl) ?_
      refine ax_callv rfl (by rw [hP]; kernel_rfl) rfl (vcall_own (c_depthOf1 (S := S) (rs := rs) (a := ns[k].B) ?_ ?_) hP hmv false (fun e => bif Nat.beq e 1000 then 3 else 13) [1000, 1001] ⟨rfl, rfl, rfl, rfl, ⟨rfl, rfl, trivial⟩, rfl, rfl, rfl⟩ (.pass rfl rfl (.pass rfl rfl .nil)) ?_)
      ·
       omega
      ·
       exact hrs
      rintro r h ⟨rfl, rfl⟩
      refine ⟨fun e => bif Nat.beq e 1000 then 3 else 13, [], ⟨rfl, rfl, rfl, rfl, mem2 rfl rfl, rfl, rfl, fun h => absurd h Bool.false_ne_true⟩, ?_⟩
      refine ax_q (q_mov rfl) ?_
      refine ax_q (q_ext rfl rfl) ?_
      refine ax_q (q_ext rfl rfl) ?_
      refine ax_q (q_mov rfl) ?_
      refine ax_q (q_mov rfl) ?_
      refine ax_nil ?_
      refine cx_keep rfl rfl ?_
      refine cx_seq ?_
      refine cx_ops ?_
      refine ax_q (q_mov rfl) ?_
      refine ax_q (q_fadr_ptr rfl) ?_
      refine ax_q (q_load1_ptr rfl rfl rfl) ?_
      have hpl := @popF_len S ns[k].B
      refine ax_callv rfl (by rw [hP]; kernel_rfl) rfl (vcall_own (c_depthOf1 (S := (popF S ns[k].B).2.2) (rs := rs) (a := ns[k].A) ?_ ?_) hP hmv false (fun e => bif Nat.beq e 1000 then 3 else 13) [1000, 1001] ⟨rfl, rfl, rfl, rfl, ⟨rfl, rfl, trivial⟩, rfl, rfl, rfl⟩ (.pass rfl rfl (.pass rfl rfl .nil)) ?_)
      ·
       omega
      ·
       exact popF_rs hrs
      rintro r h ⟨rfl, rfl⟩
      refine ⟨fun e => bif Nat.beq e 1000 then 3 else 13, [], ⟨rfl, rfl, rfl, rfl, mem2 rfl rfl, rfl, rfl, fun h => absurd h Bool.false_ne_true⟩, ?_⟩
      refine ax_q (q_mov rfl) ?_
      refine ax_q (q_ext rfl rfl) ?_
      refine ax_q (q_ext rfl rfl) ?_
      refine ax_q (q_mov rfl) ?_
      refine ax_q (q_mov rfl) ?_
      refine ax_nil ?_
      refine cx_keep rfl rfl ?_
      refine cx_draw ?_
      refine ax_q (q_mov rfl) ?_
      refine ax_q (q_mov rfl) ?_
      refine ax_qe (r' := int (mxI (popF (popF S ns[k].B).2.2 ns[k].A).1 (popF S ns[k].B).1)) (q_mx rfl rfl) (rfl) ?_
      refine ax_q (q_mov rfl) ?_
      refine ax_q (q_mov rfl) ?_
      apply ax_and rfl rfl
      ·
       intro g
       refine ax_q (q_mov rfl) ?_
       exact ax_nil ⟨rfl, by repeat (first | exact trivial | refine ⟨rfl, ?_⟩ | refine ⟨?_, ?_⟩)⟩
      refine ax_q (q_mov rfl) ?_
      apply ax_and rfl rfl
      ·
       intro g
       have g := (fun h => And.intro (id (and_T h).1) (id (and_T h).2)) g
       refine ax_q (q_fadr_ptr rfl) ?_
       refine ax_q (q_load1_ptr rfl rfl rfl) ?_
       refine ax_q (q_ibin rfl rfl rfl) ?_
       exact ax_nil ⟨rfl, by repeat (first | exact trivial | refine ⟨rfl, ?_⟩ | refine ⟨?_, ?_⟩)⟩
      refine ax_q (q_mov rfl) ?_
      apply ax_and rfl rfl
      ·
       intro g
       have g := (fun h => And.intro ((fun h => And.intro (id (and_T h).1) (id (and_T h).2)) (and_T h).1) (dT (and_T h).2)) g
       refine ax_q (q_fadr_ptr rfl) ?_
       refine ax_q (q_ldN rfl rfl rfl) ?_
       refine ax_q (q_build rfl) ?_
       first | refine ax_q (GValue.q_eqs rfl rfl) ?_ | refine ax_q (q_eqs rfl rfl rfl) ?_
       exact ax_nil ⟨rfl, by repeat (first | exact trivial | refine ⟨rfl, ?_⟩ | refine ⟨?_, ?_⟩)⟩
      refine ax_q (q_mov rfl) ?_
      refine ax_q (q_mov rfl) ?_
      refine ax_nil ?_
      refine cx_keep rfl rfl ?_
      refine cx_seq ?_
      refine cx_seq ?_
      refine cx_ops ?_
      refine ax_q (q_mov rfl) ?_
      refine ax_q (q_not rfl) ?_
      refine ax_nil ?_
      refine cx_keep rfl rfl ?_
      refine cx_cond rfl (fun h5 => ?_) (fun h5 => ?_)
      ·
       have h5 : (okD S ns[k]).1 = false := by rw [ho] <;> exact bT h5
       refine cx_seq ?_
       refine cx_ops ?_
       refine ax_q (q_mov rfl) ?_
       refine ax_nil ?_
       refine cx_keep rfl rfl ?_
       refine cx_ret (ret0 rfl rfl ?_)
       exact ⟨by rw [depthF_none (k := k + 1) (by omega) (by rw [scan_next h0x hs, stepD_f h5])]; rfl, rfl⟩
      ·
       have h5 : (okD S ns[k]).1 = true := by rw [ho] <;> exact bF h5
       have hs2 := scan_next h0x hs
       rw [stepD_t h5, ho] at hs2
       rw [ho] at hlw hor
       dsimp only at hs2 hlw hor
       refine cx_skip ?_
       refine cx_keep rfl rfl ?_
       refine cx_ops ?_
       refine ax_q (q_load1_ptr rfl rfl rfl) ?_
       refine ax_q (q_mov rfl) ?_
       refine ax_q (q_mov rfl) ?_
       refine ax_q (q_add rfl rfl (by omega)) ?_
       refine ax_q (q_build rfl) ?_
       refine ax_e (e_bslice rfl (by decide) rfl rfl) ?_
       refine ax_e (e_appn rfl rfl (stk_le hor) rfl (src_osl rfl (by simp)) (.inl (by decide)) (hbnd (by omega) (by simp) (by decide)) (stk_len hs2) (stk_app hs2 hor)) ?_
       refine ax_e (e_st rfl rfl rfl rfl rfl rfl rfl) ?_
       refine ax_nil ?_
       refine cx_keep rfl rfl ?_
       refine cx_ops ?_
       refine ax_qe (r' := int ((k + 1 : Nat) : Int)) (q_ibin rfl rfl rfl) (by rw [wi (by omega) (by omega)]; rfl) ?_
       refine ax_q (q_mov rfl) ?_
       refine ax_nil ?_
       exact ⟨_, (k + 1, _, _), by simp only; omega, ⟨by simp only; omega, rfl, hs2, stk_inv hs2, by simp only [List.length_append, List.length_singleton]; omega, by rw [show ((k + 1 : Nat) : Int) = (k : Int) + 1 from by omega]; exact lowS_app hlw.2.2.1 ⟨hlw.1, hlw.2.1⟩⟩, by repeat (first | exact trivial | refine ⟨rfl, ?_⟩ | refine ⟨?_, ?_⟩)⟩
     ·
      skip
      have ho := okD_5 (S := S) h1 h2 h3 h4
      refine cx_ops ?_
      refine ax_q (q_mov rfl) ?_
      refine ax_nil ?_
      refine cx_keep rfl rfl ?_
      refine cx_seq ?_
      refine cx_seq ?_
      refine cx_ops ?_
      refine ax_q (q_mov rfl) ?_
      refine ax_q (q_not rfl) ?_
      refine ax_nil ?_
      refine cx_keep rfl rfl ?_
      refine cx_cond rfl (fun h5 => ?_) (fun h5 => ?_)
      ·
       have h5 : (okD S ns[k]).1 = false := by rw [ho] <;> exact bT h5
       refine cx_seq ?_
       refine cx_ops ?_
       refine ax_q (q_mov rfl) ?_
       refine ax_nil ?_
       refine cx_keep rfl rfl ?_
       refine cx_ret (ret0 rfl rfl ?_)
       exact ⟨by rw [depthF_none (k := k + 1) (by omega) (by rw [scan_next h0x hs, stepD_f h5])]; rfl, rfl⟩
      ·
       have h5 : (okD S ns[k]).1 = true := by rw [ho] <;> exact bF h5
       have hs2 := scan_next h0x hs
       rw [stepD_t h5, ho] at hs2
       rw [ho] at hlw hor
       dsimp only at hs2 hlw hor
       refine cx_skip ?_
       refine cx_keep rfl rfl ?_
       refine cx_ops ?_
       refine ax_q (q_load1_ptr rfl rfl rfl) ?_
       refine ax_q (q_mov rfl) ?_
       refine ax_q (q_mov rfl) ?_
       refine ax_q (q_add rfl rfl (by omega)) ?_
       refine ax_q (q_build rfl) ?_
       refine ax_e (e_bslice rfl (by decide) rfl rfl) ?_
       refine ax_e (e_appn rfl rfl (stk_le hor) rfl (src_osl rfl (by simp)) (.inl (by decide)) (hbnd (by omega) (by simp) (by decide)) (stk_len hs2) (stk_app hs2 hor)) ?_
       refine ax_e (e_st rfl rfl rfl rfl rfl rfl rfl) ?_
       refine ax_nil ?_
       refine cx_keep rfl rfl ?_
       refine cx_ops ?_
       refine ax_qe (r' := int ((k + 1 : Nat) : Int)) (q_ibin rfl rfl rfl) (by rw [wi (by omega) (by omega)]; rfl) ?_
       refine ax_q (q_mov rfl) ?_
       refine ax_nil ?_
       exact ⟨_, (k + 1, _, _), by simp only; omega, ⟨by simp only; omega, rfl, hs2, stk_inv hs2, by simp only [List.length_append, List.length_singleton]; omega, by rw [show ((k + 1 : Nat) : Int) = (k : Int) + 1 from by omega]; exact lowS_app hlw.2.2.1 ⟨hlw.1, hlw.2.1⟩⟩, by repeat (first | exact trivial | refine ⟨rfl, ?_⟩ | refine ⟨?_, ?_⟩)⟩
 ·
  have h0 := dF h0
  have h0x : k = ns.length := by omega
  subst h0x
  refine cx_exit rfl ?_
  refine cx_keep rfl rfl ?_
  refine cx_seq ?_
  refine cx_seq ?_
  refine cx_ops ?_
  refine ax_q (q_load1_ptr rfl rfl rfl) ?_
  first | refine ax_q (q_lenS_map rfl) ?_ | refine ax_q (q_lenS_osl rfl) ?_ | refine ax_q (q_lenS_zs rfl) ?_ | refine ax_q (q_lenS rfl) ?_
  refine ax_q (q_ibin rfl rfl rfl) ?_
  refine ax_nil ?_
  refine cx_keep rfl rfl ?_
  refine cx_cond rfl (fun h6 => ?_) (fun h6 => ?_)
  ·
   have h6 := nT h6
   refine cx_seq ?_
   refine cx_ops ?_
   refine ax_q (q_mov rfl) ?_
   refine ax_nil ?_
   refine cx_keep rfl rfl ?_
   refine cx_ret (ret0 rfl rfl ?_)
   exact ⟨by rw [depthF_no hs h6]; rfl, rfl⟩
  ·
   have h6 := nF h6
   refine cx_skip ?_
   refine cx_keep rfl rfl ?_
   refine cx_seq ?_
   refine cx_ops ?_
   refine ax_q (q_load1_ptr rfl rfl rfl) ?_
   refine ax_q (q_ixoI rfl rfl (by omega) (by omega)) ?_
   first | refine ax_q (q_fadr_ptr rfl) ?_ | refine ax_q (q_fadr_rptr rfl) ?_ | refine ax_q (q_fadr_ip rfl) ?_
   refine ax_q (q_load1_rptr (r := prow (S.getD 0 (0, 0))) rfl rfl (row0 hrs h6) rfl) ?_
   refine ax_q (q_mov rfl) ?_
   refine ax_nil ?_
   refine cx_keep rfl rfl ?_
   refine cx_ret (ret0 rfl rfl ?_)
   exact ⟨by rw [depthF_yes hs h6]; rfl, rfl⟩


/- loop.example/g00332/impl.ExprOK -/
def k_c_ExprOK : XCode :=
 .seq (.ops [.op (some 1) (.box (.t 0)),
   .op (some 2) (.mov (.k (.bool false)))])
 (.keep [1] (.seq (.ops [.op (some 3) (.fadr (.t 1) 0),
   .op (some 4) (.load1 (.t 3)),
   .op (some 5) (.lenS (.t 4)),
   .call (some 6) 36 [.t 5, .k (.int .i64 1), .k (.int .i64 40)],
   .op (some 7) (.mov (.t 6)),
   .andor 12 true 4 7 [.op (some 8) (.fadr (.t 1) 0), .op (some 9) (.load1 (.t 8)), .call (some 10) 37 [.t 9], .call (some 11) 36 [.t 10, .k (.int .i64 1), .k (.int .i64 12)]] (.t 11),
   .op (some 2) (.mov (.t 12))])
 (.keep [2] (.ret))))
theorem k_c_ExprOK_fits : fitsF Tryd.prog 19 ⟨13, k_c_ExprOK, [.t 2]⟩ = true := by kernel_rfl
theorem c_ExprOK {e : GExpr} (hw : e.Nodes.length ≤ 1048576) (hv : ∀ x ∈ e.Nodes, x.V.T.length ≤ 1048576) : Con Tryd.prog noMv 19 [e.av] [] (fun r h => r = bool (exprOK e) ∧ h = []) := by
 refine con_of2 k_c_ExprOK_fits rfl fun C hP hmv => ?_
 unfold k_c_ExprOK
 refine cx_seq ?_
 refine cx_ops ?_
 refine ax_e (e_box rfl rfl (by decide) rfl rfl rfl) ?_
 refine ax_q (q_mov rfl) ?_
 refine ax_nil ?_
 refine cx_keep rfl rfl ?_
 refine cx_seq ?_
 refine cx_ops ?_
 refine ax_q (q_fadr_ptr rfl) ?_
 refine ax_q (q_load1_ptr rfl rfl rfl) ?_
 first | refine ax_q (q_lenS_map rfl) ?_ | refine ax_q (q_lenS_osl rfl) ?_ | refine ax_q (q_lenS_zs rfl) ?_ | refine ax_q (q_lenS rfl) ?_
 first | refine ax_call rfl (vc_pure0 (c_inRange  ) hP rfl rfl ?_) | refine ax_call rfl (vc_lend0 (c_inRange  ) hP (by repeat (first | exact lal_id _ rfl | exact LAL.nil | refine LAL.cons ?_ ?_ | exact la_id _ rfl | exact LA.lend (lend_whole rfl (by first | (simp; done) | (rw [List.length_map]; rfl))) | refine LA.agg ?_ | refine LA.fn ?_ | refine LA.lend ?_ | exact Lend.d _ | exact Lend.zs _ | exact lend_whole rfl (by first | (simp; done) | (rw [List.length_map]; rfl)) | refine Lend.ptr rfl ?_ | refine Lend.fn ?_ | exact LendL.nil | refine LendL.cons ?_ ?_)) rfl rfl ?_)
 refine ax_q (q_mov rfl) ?_
 apply ax_and rfl rfl
 ·
  intro g
  refine ax_q (q_fadr_ptr rfl) ?_
  refine ax_q (q_load1_ptr rfl rfl rfl) ?_
  first | refine ax_call rfl (vc_pure0 (c_depthOf (ns := e.Nodes) ?_ ?_) hP rfl rfl ?_) | refine ax_call rfl (vc_lend0 (c_depthOf (ns := e.Nodes) ?_ ?_) hP (by repeat (first | exact lal_id _ rfl | exact LAL.nil | refine LAL.cons ?_ ?_ | exact la_id _ rfl | exact LA.lend (lend_whole rfl (by first | (simp; done) | (rw [List.length_map]; rfl))) | refine LA.agg ?_ | refine LA.fn ?_ | refine LA.lend ?_ | exact Lend.d _ | exact Lend.zs _ | exact lend_whole rfl (by first | (simp; done) | (rw [List.length_map]; rfl)) | refine Lend.ptr rfl ?_ | refine Lend.fn ?_ | exact LendL.nil | refine LendL.cons ?_ ?_)) rfl rfl ?_)
  ·
   first | assumption | omega | (simp; done) | (simp; omega)
  ·
   first | assumption | omega | (simp; done) | (simp; omega)
  first | refine ax_call rfl (vc_pure0 (c_inRange  ) hP rfl rfl ?_) | refine ax_call rfl (vc_lend0 (c_inRange  ) hP (by repeat (first | exact lal_id _ rfl | exact LAL.nil | refine LAL.cons ?_ ?_ | exact la_id _ rfl | exact LA.lend (lend_whole rfl (by first | (simp; done) | (rw [List.length_map]; rfl))) | refine LA.agg ?_ | refine LA.fn ?_ | refine LA.lend ?_ | exact Lend.d _ | exact Lend.zs _ | exact lend_whole rfl (by first | (simp; done) | (rw [List.length_map]; rfl)) | refine Lend.ptr rfl ?_ | refine Lend.fn ?_ | exact LendL.nil | refine LendL.cons ?_ ?_)) rfl rfl ?_)
  exact ax_nil ⟨rfl, by repeat (first | exact trivial | refine ⟨rfl, ?_⟩ | refine ⟨?_, ?_⟩)⟩
 refine ax_q (q_mov rfl) ?_
 refine ax_nil ?_
 refine cx_keep rfl rfl ?_
 refine cx_ret (ret0 rfl rfl ?_)
 exact ⟨by rw [← exprOK_i]; rfl, rfl⟩


/- (loop.example/g00332/impl.Expr).hasNone -/
def k_c_hasNone : XCode :=
 .seq (.ops [.op (some 1) (.box (.t 0)),
   .op (some 2) (.mov (.k (.bool false)))])
 (.keep [1] (.seq (.ops [.op (some 3) (.fadr (.t 1) 0),
   .op (some 4) (.load1 (.t 3)),
   .op (some 5) (.lenS (.t 4)),
   .op (some 6) (.bin .eql (.t 5) (.k (.int .i64 0))),
   .op (some 2) (.mov (.t 6))])
 (.keep [2] (.ret))))
theorem k_c_hasNone_fits : fitsF Tryd.prog 45 ⟨7, k_c_hasNone, [.t 2]⟩ = true := by kernel_rfl
theorem c_hasNone {e : GExpr} : Con Tryd.prog noMv 45 [e.av] [] (fun r h => r = bool (noneE e) ∧ h = []) := by
 refine con_of2 k_c_hasNone_fits rfl fun C hP hmv => ?_
 unfold k_c_hasNone
 refine cx_seq ?_
 refine cx_ops ?_
 refine ax_e (e_box rfl rfl (by decide) rfl rfl rfl) ?_
 refine ax_q (q_mov rfl) ?_
 refine ax_nil ?_
 refine cx_keep rfl rfl ?_
 refine cx_seq ?_
 refine cx_ops ?_
 refine ax_q (q_fadr_ptr rfl) ?_
 refine ax_q (q_load1_ptr rfl rfl rfl) ?_
 first | refine ax_q (q_lenS_map rfl) ?_ | refine ax_q (q_lenS_osl rfl) ?_ | refine ax_q (q_lenS_zs rfl) ?_ | refine ax_q (q_lenS rfl) ?_
 refine ax_q (q_ibin rfl rfl rfl) ?_
 refine ax_q (q_mov rfl) ?_
 refine ax_nil ?_
 refine cx_keep rfl rfl ?_
 refine cx_ret (ret0 rfl rfl ?_)
 exact ⟨rfl, rfl⟩


/- loop.example/g00332/impl.isTable -/
def k_c_isTable : XCode :=
 .seq (.ops [.op (some 2) (.mov (.k (.bool false)))])
 (.keep [0] (.seq (.ops [.op (some 3) (.mov (.t 0)),
   .call (some 4) 36 [.t 3, .k (.int .i64 1), .k (.int .i64 3)],
   .op (some 2) (.mov (.t 4))])
 (.keep [2] (.ret))))
theorem k_c_isTable_fits : fitsF Tryd.prog 46 ⟨5, k_c_isTable, [.t 2]⟩ = true := by kernel_rfl
theorem c_isTable {n : Int} : Con Tryd.prog noMv 46 [int n] [] (fun r h => r = bool (inR n 1 3) ∧ h = []) := by
 refine con_of2 k_c_isTable_fits rfl fun C hP hmv => ?_
 unfold k_c_isTable
 refine cx_seq ?_
 refine cx_ops ?_
 refine ax_q (q_mov rfl) ?_
 refine ax_nil ?_
 refine cx_keep rfl rfl ?_
 refine cx_seq ?_
 refine cx_ops ?_
 refine ax_q (q_mov rfl) ?_
 first | refine ax_call rfl (vc_pure0 (c_inRange  ) hP rfl rfl ?_) | refine ax_call rfl (vc_lend0 (c_inRange  ) hP (by repeat (first | exact lal_id _ rfl | exact LAL.nil | refine LAL.cons ?_ ?_ | exact la_id _ rfl | exact LA.lend (lend_whole rfl (by first | (simp; done) | (rw [List.length_map]; rfl))) | refine LA.agg ?_ | refine LA.fn ?_ | refine LA.lend ?_ | exact Lend.d _ | exact Lend.zs _ | exact lend_whole rfl (by first | (simp; done) | (rw [List.length_map]; rfl)) | refine Lend.ptr rfl ?_ | refine Lend.fn ?_ | exact LendL.nil | refine LendL.cons ?_ ?_)) rfl rfl ?_)
 refine ax_q (q_mov rfl) ?_
 refine ax_nil ?_
 refine cx_keep rfl rfl ?_
 refine cx_ret (ret0 rfl rfl ?_)
 exact ⟨rfl, rfl⟩


/- loop.example/g00332/impl.isId -/
def k_c_isId : XCode :=
 .seq (.ops [.op (some 2) (.mov (.k (.bool false)))])
 (.keep [0] (.seq (.ops [.op (some 3) (.mov (.t 0)),
   .call (some 4) 36 [.t 3, .k (.int .i64 0), .k (.int .i64 1000)],
   .op (some 2) (.mov (.t 4))])
 (.keep [2] (.ret))))
theorem k_c_isId_fits : fitsF Tryd.prog 58 ⟨5, k_c_isId, [.t 2]⟩ = true := by kernel_rfl
theorem c_isId {n : Int} : Con Tryd.prog noMv 58 [int n] [] (fun r h => r = bool (inR n 0 1000) ∧ h = []) := by
 refine con_of2 k_c_isId_fits rfl fun C hP hmv => ?_
 unfold k_c_isId
 refine cx_seq ?_
 refine cx_ops ?_
 refine ax_q (q_mov rfl) ?_
 refine ax_nil ?_
 refine cx_keep rfl rfl ?_
 refine cx_seq ?_
 refine cx_ops ?_
 refine ax_q (q_mov rfl) ?_
 first | refine ax_call rfl (vc_pure0 (c_inRange  ) hP rfl rfl ?_) | refine ax_call rfl (vc_lend0 (c_inRange  ) hP (by repeat (first | exact lal_id _ rfl | exact LAL.nil | refine LAL.cons ?_ ?_ | exact la_id _ rfl | exact LA.lend (lend_whole rfl (by first | (simp; done) | (rw [List.length_map]; rfl))) | refine LA.agg ?_ | refine LA.fn ?_ | refine LA.lend ?_ | exact Lend.d _ | exact Lend.zs _ | exact lend_whole rfl (by first | (simp; done) | (rw [List.length_map]; rfl)) | refine Lend.ptr rfl ?_ | refine Lend.fn ?_ | exact LendL.nil | refine LendL.cons ?_ ?_)) rfl rfl ?_)
 refine ax_q (q_mov rfl) ?_
 refine ax_nil ?_
 refine cx_keep rfl rfl ?_
 refine cx_ret (ret0 rfl rfl ?_)
 exact ⟨rfl, rfl⟩


/- loop.example/g00332/impl.rowOK -/
def k_c_rowOK : XCode :=
 .seq (.ops [.op (some 1) (.box (.t 0)),
   .op (some 2) (.mov (.k (.bool false)))])
 (.keep [1] (.seq (.ops [.op (some 3) (.fadr (.t 1) 0),
   .op (some 4) (.load1 (.t 3)),
   .call (some 5) 58 [.t 4],
   .op (some 6) (.mov (.t 5)),
   .andor 10 true 3 6 [.op (some 7) (.fadr (.t 1) 1), .op (some 8) (.loadN 3 (.t 7)), .call (some 9) 55 [.t 8]] (.t 9),
   .op (some 11) (.mov (.t 10)),
   .andor 16 true 8 11 [.op (some 12) (.fadr (.t 1) 1), .op (some 13) (.fadr (.t 12) 0), .op (some 14) (.load1 (.t 13)), .op (some 15) (.bin .neq (.t 14) (.k (.int .i64 2)))] (.t 15),
   .op (some 17) (.mov (.t 16)),
   .andor 21 true 14 17 [.op (some 18) (.fadr (.t 1) 4), .op (some 19) (.loadN 3 (.t 18)), .call (some 20) 55 [.t 19]] (.t 20),
   .op (some 22) (.mov (.t 21)),
   .andor 27 true 19 22 [.op (some 23) (.fadr (.t 1) 4), .op (some 24) (.fadr (.t 23) 0), .op (some 25) (.load1 (.t 24)), .op (some 26) (.bin .neq (.t 25) (.k (.int .i64 1)))] (.t 26),
   .op (some 2) (.mov (.t 27))])
 (.keep [2] (.ret))))
theorem k_c_rowOK_fits : fitsF Tryd.prog 48 ⟨28, k_c_rowOK, [.t 2]⟩ = true := by kernel_rfl
theorem c_rowOK {a : GRow} (hv : a.N.T.length ≤ 1048576) (hw : a.Name.T.length ≤ 1048576) : Con Tryd.prog noMv 48 [a.av] [] (fun r h => r = bool (rowOK a) ∧ h = []) := by
 refine con_of2 k_c_rowOK_fits rfl fun C hP hmv => ?_
 unfold k_c_rowOK
 refine cx_seq ?_
 refine cx_ops ?_
 refine ax_e (e_box rfl rfl (by decide) rfl rfl rfl) ?_
 refine ax_q (q_mov rfl) ?_
 refine ax_nil ?_
 refine cx_keep rfl rfl ?_
 refine cx_seq ?_
 refine cx_ops ?_
 refine ax_q (q_fadr_ptr rfl) ?_
 refine ax_q (q_load1_ptr rfl rfl rfl) ?_
 first | refine ax_call rfl (vc_pure0 (c_isId  ) hP rfl rfl ?_) | refine ax_call rfl (vc_lend0 (c_isId  ) hP (by repeat (first | exact lal_id _ rfl | exact LAL.nil | refine LAL.cons ?_ ?_ | exact la_id _ rfl | exact LA.lend (lend_whole rfl (by first | (simp; done) | (rw [List.length_map]; rfl))) | refine LA.agg ?_ | refine LA.fn ?_ | refine LA.lend ?_ | exact Lend.d _ | exact Lend.zs _ | exact lend_whole rfl (by first | (simp; done) | (rw [List.length_map]; rfl)) | refine Lend.ptr rfl ?_ | refine Lend.fn ?_ | exact LendL.nil | refine LendL.cons ?_ ?_)) rfl rfl ?_)
 refine ax_q (q_mov rfl) ?_
 apply ax_and rfl rfl
 ·
  intro g
  refine ax_q (q_fadr_ptr rfl) ?_
  refine ax_q (q_ldN rfl rfl rfl) ?_
  first | refine ax_call rfl (vc_pure0 (c_ValueOK (v := a.N) ?_) hP rfl rfl ?_) | refine ax_call rfl (vc_lend0 (c_ValueOK (v := a.N) ?_) hP (by repeat (first | exact lal_id _ rfl | exact LAL.nil | refine LAL.cons ?_ ?_ | exact la_id _ rfl | exact LA.lend (lend_whole rfl (by first | (simp; done) | (rw [List.length_map]; rfl))) | refine LA.agg ?_ | refine LA.fn ?_ | refine LA.lend ?_ | exact Lend.d _ | exact Lend.zs _ | exact lend_whole rfl (by first | (simp; done) | (rw [List.length_map]; rfl)) | refine Lend.ptr rfl ?_ | refine Lend.fn ?_ | exact LendL.nil | refine LendL.cons ?_ ?_)) rfl rfl ?_)
  ·
   first | assumption | omega | (simp; done) | (simp; omega)
  exact ax_nil ⟨rfl, by repeat (first | exact trivial | refine ⟨rfl, ?_⟩ | refine ⟨?_, ?_⟩)⟩
 refine ax_q (q_mov rfl) ?_
 apply ax_and rfl rfl
 ·
  intro g
  have g := (fun h => And.intro (id (and_T h).1) (id (and_T h).2)) g
  refine ax_q (q_fadr_ptr rfl) ?_
  refine ax_q (q_fadr_ptr rfl) ?_
  refine ax_q (q_load1_ptr rfl rfl rfl) ?_
  refine ax_q (q_ibin rfl rfl rfl) ?_
  exact ax_nil ⟨rfl, by repeat (first | exact trivial | refine ⟨rfl, ?_⟩ | refine ⟨?_, ?_⟩)⟩
 refine ax_q (q_mov rfl) ?_
 apply ax_and rfl rfl
 ·
  intro g
  have g := (fun h => And.intro ((fun h => And.intro (id (and_T h).1) (id (and_T h).2)) (and_T h).1) (nT (and_T h).2)) g
  refine ax_q (q_fadr_ptr rfl) ?_
  refine ax_q (q_ldN rfl rfl rfl) ?_
  first | refine ax_call rfl (vc_pure0 (c_ValueOK (v := a.Name) ?_) hP rfl rfl ?_) | refine ax_call rfl (vc_lend0 (c_ValueOK (v := a.Name) ?_) hP (by repeat (first | exact lal_id _ rfl | exact LAL.nil | refine LAL.cons ?_ ?_ | exact la_id _ rfl | exact LA.lend (lend_whole rfl (by first | (simp; done) | (rw [List.length_map]; rfl))) | refine LA.agg ?_ | refine LA.fn ?_ | refine LA.lend ?_ | exact Lend.d _ | exact Lend.zs _ | exact lend_whole rfl (by first | (simp; done) | (rw [List.length_map]; rfl)) | refine Lend.ptr rfl ?_ | refine Lend.fn ?_ | exact LendL.nil | refine LendL.cons ?_ ?_)) rfl rfl ?_)
  ·
   first | assumption | omega | (simp; done) | (simp; omega)
  exact ax_nil ⟨rfl, by repeat (first | exact trivial | refine ⟨rfl, ?_⟩ | refine ⟨?_, ?_⟩)⟩
 refine ax_q (q_mov rfl) ?_
 apply ax_and rfl rfl
 ·
  intro g
  have g := (fun h => And.intro ((fun h => And.intro ((fun h => And.intro (id (and_T h).1) (id (and_T h).2)) (and_T h).1) (nT (and_T h).2)) (and_T h).1) (id (and_T h).2)) g
  refine ax_q (q_fadr_ptr rfl) ?_
  refine ax_q (q_fadr_ptr rfl) ?_
  refine ax_q (q_load1_ptr rfl rfl rfl) ?_
  refine ax_q (q_ibin rfl rfl rfl) ?_
  exact ax_nil ⟨rfl, by repeat (first | exact trivial | refine ⟨rfl, ?_⟩ | refine ⟨?_, ?_⟩)⟩
 refine ax_q (q_mov rfl) ?_
 refine ax_nil ?_
 refine cx_keep rfl rfl ?_
 refine cx_ret (ret0 rfl rfl ?_)
 exact ⟨by rw [← rowOK_i] <;> rfl, rfl⟩


/- loop.example/g00332/impl.StmtOK -/
def k_c_StmtOK : XCode :=
 .seq (.ops [.op (some 1) (.box (.t 0)),
   .op (some 2) (.mov (.k (.bool false)))])
 (.keep [1] (.seq (.draw [.op (some 6) (.fadr (.t 1) 2),
   .op (some 7) (.loadN 7 (.t 6)),
   .op (some 8) (.build [.int .i64 0, .int .i64 0, .int .i64 0, .str [], .int .i64 0, .int .i64 0, .str []] []),
   .op (some 9) (.eqs false [0, 0, 0, 2, 0, 0, 2] (.t 7) (.t 8)),
   .op (some 10) (.fadr (.t 1) 12),
   .op (some 11) (.load1 (.t 10)),
   .op (some 12) (.bin .neq (.t 11) (.k (.int .i64 0))),
   .op (some 13) (.mov (.t 12)),
   .andor 16 false 7 13 [.op (some 14) (.fadr (.t 1) 13), .op (some 15) (.load1 (.t 14))] (.t 15),
   .op (some 3) (.mov (.t 9)),
   .op (some 4) (.mov (.t 16))])
 (.keep [1, 3, 4] (.seq (.ops [.op (some 17) (.fadr (.t 1) 11),
   .op (some 18) (.loadN 1 (.t 17)),
   .call (some 19) 45 [.t 18],
   .op (some 20) (.mov (.t 19)),
   .andor 24 false 3 20 [.op (some 21) (.fadr (.t 1) 11), .op (some 22) (.loadN 1 (.t 21)), .call (some 23) 19 [.t 22]] (.t 23),
   .op (some 5) (.mov (.t 24))])
 (.keep [1, 3, 4, 5] (.seq (.seq (.ops [.op (some 25) (.fadr (.t 1) 1),
   .op (some 26) (.load1 (.t 25)),
   .call (some 27) 46 [.t 26],
   .op (some 28) (.not (.t 27)),
   .op (some 29) (.mov (.t 28)),
   .andor 32 false 4 29 [.op (some 30) (.mov (.t 5)), .op (some 31) (.not (.t 30))] (.t 31)])
  (.keep [1, 3, 4, 32] (.cond (.t 32)
  (.seq (.ops [.op (some 2) (.mov (.k (.bool false)))])
   (.keep [2] (.ret)))
  (.skip))))
 (.keep [1, 3, 4] (.seq (.seq (.ops [.op (some 33) (.fadr (.t 1) 0),
   .op (some 34) (.load1 (.t 33))])
  (.keep [1, 3, 4, 34] (.block 0 (.seq (.ops [.op (some 36) (.bin .eql (.t 34) (.k (.int .i64 1))),
    .op (some 35) (.mov (.t 36))])
  (.keep [1, 3, 4, 34, 35] (.cond (.t 35)
   (.seq (.ops [.op (some 37) (.mov (.t 3)),
     .op (some 38) (.mov (.t 37)),
     .andor 42 true 1 38 [.op (some 39) (.fadr (.t 1) 9), .op (some 40) (.load1 (.t 39)), .op (some 41) (.bin .eql (.t 40) (.k (.int .i64 0)))] (.t 41),
     .op (some 43) (.mov (.t 42)),
     .andor 47 true 6 43 [.op (some 44) (.fadr (.t 1) 10), .op (some 45) (.loadN 1 (.t 44)), .call (some 46) 45 [.t 45]] (.t 46),
     .op (some 48) (.mov (.t 47)),
     .andor 52 true 11 48 [.op (some 49) (.fadr (.t 1) 12), .op (some 50) (.load1 (.t 49)), .call (some 51) 47 [.t 50, .k (.int .i64 3)]] (.t 51),
     .op (some 2) (.mov (.t 52))])
   (.keep [2] (.ret)))
   (.seq (.ops [.op (some 54) (.bin .eql (.t 34) (.k (.int .i64 2))),
     .op (some 53) (.mov (.t 54))])
   (.keep [1, 3, 4, 34, 53] (.cond (.t 53)
    (.seq (.ops [.op (some 55) (.fadr (.t 1) 2),
      .op (some 56) (.loadN 7 (.t 55)),
      .call (some 57) 48 [.t 56],
      .op (some 58) (.mov (.t 57)),
      .andor 62 true 3 58 [.op (some 59) (.fadr (.t 1) 9), .op (some 60) (.load1 (.t 59)), .op (some 61) (.bin .eql (.t 60) (.k (.int .i64 0)))] (.t 61),
      .op (some 63) (.mov (.t 62)),
      .andor 67 true 8 63 [.op (some 64) (.fadr (.t 1) 10), .op (some 65) (.loadN 1 (.t 64)), .call (some 66) 45 [.t 65]] (.t 66),
      .op (some 68) (.mov (.t 67)),
      .andor 72 true 13 68 [.op (some 69) (.fadr (.t 1) 11), .op (some 70) (.loadN 1 (.t 69)), .call (some 71) 45 [.t 70]] (.t 71),
      .op (some 73) (.mov (.t 72)),
      .andor 76 true 18 73 [.op (some 74) (.mov (.t 4)), .op (some 75) (.not (.t 74))] (.t 75),
      .op (some 2) (.mov (.t 76))])
    (.keep [2] (.ret)))
    (.seq (.ops [.op (some 78) (.bin .eql (.t 34) (.k (.int .i64 3))),
      .op (some 77) (.mov (.t 78))])
    (.keep [1, 3, 4, 77] (.cond (.t 77)
     (.seq (.ops [.op (some 79) (.mov (.t 3)),
       .op (some 80) (.mov (.t 79)),
       .andor 84 true 1 80 [.op (some 81) (.fadr (.t 1) 9), .op (some 82) (.load1 (.t 81)), .call (some 83) 36 [.t 82, .k (.int .i64 1), .k (.int .i64 2)]] (.t 83),
       .op (some 85) (.mov (.t 84)),
       .andor 89 true 6 85 [.op (some 86) (.fadr (.t 1) 10), .op (some 87) (.loadN 1 (.t 86)), .call (some 88) 19 [.t 87]] (.t 88),
       .op (some 90) (.mov (.t 89)),
       .andor 93 true 11 90 [.op (some 91) (.mov (.t 4)), .op (some 92) (.not (.t 91))] (.t 92),
       .op (some 2) (.mov (.t 93))])
     (.keep [2] (.ret)))
     (.skip)))))))))))))
 (.keep [1, 3, 4] (.seq (.ops [.op (some 94) (.fadr (.t 1) 0),
   .op (some 95) (.load1 (.t 94)),
   .op (some 96) (.bin .eql (.t 95) (.k (.int .i64 4))),
   .op (some 97) (.mov (.t 96)),
   .andor 99 true 3 97 [.op (some 98) (.mov (.t 3))] (.t 98),
   .op (some 100) (.mov (.t 99)),
   .andor 104 true 6 100 [.op (some 101) (.fadr (.t 1) 9), .op (some 102) (.load1 (.t 101)), .op (some 103) (.bin .eql (.t 102) (.k (.int .i64 0)))] (.t 103),
   .op (some 105) (.mov (.t 104)),
   .andor 109 true 11 105 [.op (some 106) (.fadr (.t 1) 10), .op (some 107) (.loadN 1 (.t 106)), .call (some 108) 45 [.t 107]] (.t 108),
   .op (some 110) (.mov (.t 109)),
   .andor 113 true 16 110 [.op (some 111) (.mov (.t 4)), .op (some 112) (.not (.t 111))] (.t 112),
   .op (some 2) (.mov (.t 113))])
 (.keep [2] (.ret))))))))))))
theorem k_c_StmtOK_fits : fitsF Tryd.prog 26 ⟨114, k_c_StmtOK, [.t 2]⟩ = true := by kernel_rfl
theorem c_StmtOK {s : GStmt} (hs0 : s.Set.Nodes.length ≤ 1048576) (hs1 : ∀ x ∈ s.Set.Nodes, x.V.T.length ≤ 1048576) (hw0 : s.Where.Nodes.length ≤ 1048576) (hw1 : ∀ x ∈ s.Where.Nodes, x.V.T.length ≤ 1048576) (hr0 : s.Row.N.T.length ≤ 1048576) (hr1 : s.Row.Name.T.length ≤ 1048576) : Con Tryd.prog noMv 26 [s.av] [] (fun r h => r = bool (stmtOK s) ∧ h = []) := by
 refine con_of2 k_c_StmtOK_fits rfl fun C hP hmv => ?_
 unfold k_c_StmtOK
 refine cx_seq ?_
 refine cx_ops ?_
 refine ax_e (e_box rfl rfl (by decide) rfl rfl rfl) ?_
 refine ax_q (q_mov rfl) ?_
 refine ax_nil ?_
 refine cx_keep rfl rfl ?_
 refine cx_seq ?_
 refine cx_draw ?_
 refine ax_q (q_fadr_ptr rfl) ?_
 refine ax_q (q_ldN rfl rfl rfl) ?_
 refine ax_q (q_build rfl) ?_
 first | refine ax_q (GRow.q_eqs rfl rfl) ?_ | refine ax_q (q_eqs rfl rfl rfl) ?_
 refine ax_q (q_fadr_ptr rfl) ?_
 refine ax_q (q_load1_ptr rfl rfl rfl) ?_
 refine ax_q (q_ibin rfl rfl rfl) ?_
 refine ax_q (q_mov rfl) ?_
 apply ax_or rfl rfl
 ·
  intro g
  have g := nF g
  refine ax_q (q_fadr_ptr rfl) ?_
  refine ax_q (q_load1_ptr rfl rfl rfl) ?_
  exact ax_nil ⟨rfl, by repeat (first | exact trivial | refine ⟨rfl, ?_⟩ | refine ⟨?_, ?_⟩)⟩
 refine ax_q (q_mov rfl) ?_
 refine ax_q (q_mov rfl) ?_
 refine ax_nil ?_
 refine cx_keep rfl rfl ?_
 refine cx_seq ?_
 refine cx_ops ?_
 refine ax_q (q_fadr_ptr rfl) ?_
 refine ax_q (q_ldN rfl rfl rfl) ?_
 first | refine ax_call rfl (vc_pure0 (c_hasNone (e := s.Where) ) hP rfl rfl ?_) | refine ax_call rfl (vc_lend0 (c_hasNone (e := s.Where) ) hP (by repeat (first | exact lal_id _ rfl | exact LAL.nil | refine LAL.cons ?_ ?_ | exact la_id _ rfl | exact LA.lend (lend_whole rfl (by first | (simp; done) | (rw [List.length_map]; rfl))) | refine LA.agg ?_ | refine LA.fn ?_ | refine LA.lend ?_ | exact Lend.d _ | exact Lend.zs _ | exact lend_whole rfl (by first | (simp; done) | (rw [List.length_map]; rfl)) | refine Lend.ptr rfl ?_ | refine Lend.fn ?_ | exact LendL.nil | refine LendL.cons ?_ ?_)) rfl rfl ?_)
 refine ax_q (q_mov rfl) ?_
 apply ax_or rfl rfl
 ·
  intro g
  refine ax_q (q_fadr_ptr rfl) ?_
  refine ax_q (q_ldN rfl rfl rfl) ?_
  first | refine ax_call rfl (vc_pure0 (c_ExprOK (e := s.Where) ?_ ?_) hP rfl rfl ?_) | refine ax_call rfl (vc_lend0 (c_ExprOK (e := s.Where) ?_ ?_) hP (by repeat (first | exact lal_id _ rfl | exact LAL.nil | refine LAL.cons ?_ ?_ | exact la_id _ rfl | exact LA.lend (lend_whole rfl (by first | (simp; done) | (rw [List.length_map]; rfl))) | refine LA.agg ?_ | refine LA.fn ?_ | refine LA.lend ?_ | exact Lend.d _ | exact Lend.zs _ | exact lend_whole rfl (by first | (simp; done) | (rw [List.length_map]; rfl)) | refine Lend.ptr rfl ?_ | refine Lend.fn ?_ | exact LendL.nil | refine LendL.cons ?_ ?_)) rfl rfl ?_)
  ·
   first | assumption | omega | (simp; done) | (simp; omega)
  ·
   first | assumption | omega | (simp; done) | (simp; omega)
  exact ax_nil ⟨rfl, by repeat (first | exact trivial | refine ⟨rfl, ?_⟩ | refine ⟨?_, ?_⟩)⟩
 refine ax_q (q_mov rfl) ?_
 refine ax_nil ?_
 refine cx_keep rfl rfl ?_
 refine cx_seq ?_
 refine cx_seq ?_
 refine cx_ops ?_
 refine ax_q (q_fadr_ptr rfl) ?_
 refine ax_q (q_load1_ptr rfl rfl rfl) ?_
 first | refine ax_call rfl (vc_pure0 (c_isTable  ) hP rfl rfl ?_) | refine ax_call rfl (vc_lend0 (c_isTable  ) hP (by repeat (first | exact lal_id _ rfl | exact LAL.nil | refine LAL.cons ?_ ?_ | exact la_id _ rfl | exact LA.lend (lend_whole rfl (by first | (simp; done) | (rw [List.length_map]; rfl))) | refine LA.agg ?_ | refine LA.fn ?_ | refine LA.lend ?_ | exact Lend.d _ | exact Lend.zs _ | exact lend_whole rfl (by first | (simp; done) | (rw [List.length_map]; rfl)) | refine Lend.ptr rfl ?_ | refine Lend.fn ?_ | exact LendL.nil | refine LendL.cons ?_ ?_)) rfl rfl ?_)
 refine ax_q (q_not rfl) ?_
 refine ax_q (q_mov rfl) ?_
 apply ax_or rfl rfl
 ·
  intro g
  have g := bF g
  refine ax_q (q_mov rfl) ?_
  refine ax_q (q_not rfl) ?_
  exact ax_nil ⟨rfl, by repeat (first | exact trivial | refine ⟨rfl, ?_⟩ | refine ⟨?_, ?_⟩)⟩
 refine ax_nil ?_
 refine cx_keep rfl rfl ?_
 refine cx_cond rfl (fun h0 => ?_) (fun h0 => ?_)
 ·
  have h0 : (!inR s.Table 1 3 || !(noneE s.Where || exprOK s.Where)) = true := h0
  refine cx_seq ?_
  refine cx_ops ?_
  refine ax_q (q_mov rfl) ?_
  refine ax_nil ?_
  refine cx_keep rfl rfl ?_
  refine cx_ret (ret0 rfl rfl ?_)
  have e : stmtOK s = false := stmt_bad (by
   rw [Bool.or_eq_true] at h0
   exact h0.imp bT bT)
  exact ⟨by rw [e]; rfl, rfl⟩
 ·
  have h0 : (!inR s.Table 1 3 || !(noneE s.Where || exprOK s.Where)) = false := h0
  have ⟨ht, hw⟩ : inR s.Table 1 3 = true ∧ (noneE s.Where || exprOK s.Where) = true := by
   rw [Bool.or_eq_false_iff] at h0
   exact ⟨bF h0.1, bF h0.2⟩
  refine cx_skip ?_
  refine cx_keep rfl rfl ?_
  refine cx_seq ?_
  refine cx_seq ?_
  refine cx_ops ?_
  refine ax_q (q_fadr_ptr rfl) ?_
  refine ax_q (q_load1_ptr rfl rfl rfl) ?_
  refine ax_nil ?_
  refine cx_keep rfl rfl ?_
  refine cx_block ?_
  refine cx_seq ?_
  refine cx_ops ?_
  refine ax_q (q_ibin rfl rfl rfl) ?_
  refine ax_q (q_mov rfl) ?_
  refine ax_nil ?_
  refine cx_keep rfl rfl ?_
  refine cx_cond rfl (fun h1 => ?_) (fun h1 => ?_)
  ·
   have h1 := dT h1
   refine cx_seq ?_
   refine cx_ops ?_
   refine ax_q (q_mov rfl) ?_
   refine ax_q (q_mov rfl) ?_
   apply ax_and rfl rfl
   ·
    intro g
    refine ax_q (q_fadr_ptr rfl) ?_
    refine ax_q (q_load1_ptr rfl rfl rfl) ?_
    refine ax_q (q_ibin rfl rfl rfl) ?_
    exact ax_nil ⟨rfl, by repeat (first | exact trivial | refine ⟨rfl, ?_⟩ | refine ⟨?_, ?_⟩)⟩
   refine ax_q (q_mov rfl) ?_
   apply ax_and rfl rfl
   ·
    intro g
    have g := (fun h => And.intro (id (and_T h).1) (dT (and_T h).2)) g
    refine ax_q (q_fadr_ptr rfl) ?_
    refine ax_q (q_ldN rfl rfl rfl) ?_
    first | refine ax_call rfl (vc_pure0 (c_hasNone (e := s.Set) ) hP rfl rfl ?_) | refine ax_call rfl (vc_lend0 (c_hasNone (e := s.Set) ) hP (by repeat (first | exact lal_id _ rfl | exact LAL.nil | refine LAL.cons ?_ ?_ | exact la_id _ rfl | exact LA.lend (lend_whole rfl (by first | (simp; done) | (rw [List.length_map]; rfl))) | refine LA.agg ?_ | refine LA.fn ?_ | refine LA.lend ?_ | exact Lend.d _ | exact Lend.zs _ | exact lend_whole rfl (by first | (simp; done) | (rw [List.length_map]; rfl)) | refine Lend.ptr rfl ?_ | refine Lend.fn ?_ | exact LendL.nil | refine LendL.cons ?_ ?_)) rfl rfl ?_)
    exact ax_nil ⟨rfl, by repeat (first | exact trivial | refine ⟨rfl, ?_⟩ | refine ⟨?_, ?_⟩)⟩
   refine ax_q (q_mov rfl) ?_
   apply ax_and rfl rfl
   ·
    intro g
    have g := (fun h => And.intro ((fun h => And.intro (id (and_T h).1) (dT (and_T h).2)) (and_T h).1) (id (and_T h).2)) g
    refine ax_q (q_fadr_ptr rfl) ?_
    refine ax_q (q_load1_ptr rfl rfl rfl) ?_
    first | refine ax_call rfl (vc_pure0 (c_isPlace  ?_) hP rfl rfl ?_) | refine ax_call rfl (vc_lend0 (c_isPlace  ?_) hP (by repeat (first | exact lal_id _ rfl | exact LAL.nil | refine LAL.cons ?_ ?_ | exact la_id _ rfl | exact LA.lend (lend_whole rfl (by first | (simp; done) | (rw [List.length_map]; rfl))) | refine LA.agg ?_ | refine LA.fn ?_ | refine LA.lend ?_ | exact Lend.d _ | exact Lend.zs _ | exact lend_whole rfl (by first | (simp; done) | (rw [List.length_map]; rfl)) | refine Lend.ptr rfl ?_ | refine Lend.fn ?_ | exact LendL.nil | refine LendL.cons ?_ ?_)) rfl rfl ?_)
    ·
     first | assumption | omega | (simp; done) | (simp; omega)
    exact ax_nil ⟨rfl, by repeat (first | exact trivial | refine ⟨rfl, ?_⟩ | refine ⟨?_, ?_⟩)⟩
   refine ax_q (q_mov rfl) ?_
   refine ax_nil ?_
   refine cx_keep rfl rfl ?_
   refine cx_ret (ret0 rfl rfl ?_)
   exact ⟨by rw [← stmt_1 ht hw h1]; rfl, rfl⟩
  ·
   have h1 := dF h1
   refine cx_seq ?_
   refine cx_ops ?_
   refine ax_q (q_ibin rfl rfl rfl) ?_
   refine ax_q (q_mov rfl) ?_
   refine ax_nil ?_
   refine cx_keep rfl rfl ?_
   refine cx_cond rfl (fun h2 => ?_) (fun h2 => ?_)
   ·
    have h2 := dT h2
    refine cx_seq ?_
    refine cx_ops ?_
    refine ax_q (q_fadr_ptr rfl) ?_
    refine ax_q (q_ldN rfl rfl rfl) ?_
    first | refine ax_call rfl (vc_pure0 (c_rowOK (a := s.Row) ?_ ?_) hP rfl rfl ?_) | refine ax_call rfl (vc_lend0 (c_rowOK (a := s.Row) ?_ ?_) hP (by repeat (first | exact lal_id _ rfl | exact LAL.nil | refine LAL.cons ?_ ?_ | exact la_id _ rfl | exact LA.lend (lend_whole rfl (by first | (simp; done) | (rw [List.length_map]; rfl))) | refine LA.agg ?_ | refine LA.fn ?_ | refine LA.lend ?_ | exact Lend.d _ | exact Lend.zs _ | exact lend_whole rfl (by first | (simp; done) | (rw [List.length_map]; rfl)) | refine Lend.ptr rfl ?_ | refine Lend.fn ?_ | exact LendL.nil | refine LendL.cons ?_ ?_)) rfl rfl ?_)
    ·
     first | assumption | omega | (simp; done) | (simp; omega)
    ·
     first | assumption | omega | (simp; done) | (simp; omega)
    refine ax_q (q_mov rfl) ?_
    apply ax_and rfl rfl
    ·
     intro g
     refine ax_q (q_fadr_ptr rfl) ?_
     refine ax_q (q_load1_ptr rfl rfl rfl) ?_
     refine ax_q (q_ibin rfl rfl rfl) ?_
     exact ax_nil ⟨rfl, by repeat (first | exact trivial | refine ⟨rfl, ?_⟩ | refine ⟨?_, ?_⟩)⟩
    refine ax_q (q_mov rfl) ?_
    apply ax_and rfl rfl
    ·
     intro g
     have g := (fun h => And.intro (id (and_T h).1) (dT (and_T h).2)) g
     refine ax_q (q_fadr_ptr rfl) ?_
     refine ax_q (q_ldN rfl rfl rfl) ?_
     first | refine ax_call rfl (vc_pure0 (c_hasNone (e := s.Set) ) hP rfl rfl ?_) | refine ax_call rfl (vc_lend0 (c_hasNone (e := s.Set) ) hP (by repeat (first | exact lal_id _ rfl | exact LAL.nil | refine LAL.cons ?_ ?_ | exact la_id _ rfl | exact LA.lend (lend_whole rfl (by first | (simp; done) | (rw [List.length_map]; rfl))) | refine LA.agg ?_ | refine LA.fn ?_ | refine LA.lend ?_ | exact Lend.d _ | exact Lend.zs _ | exact lend_whole rfl (by first | (simp; done) | (rw [List.length_map]; rfl)) | refine Lend.ptr rfl ?_ | refine Lend.fn ?_ | exact LendL.nil | refine LendL.cons ?_ ?_)) rfl rfl ?_)
     exact ax_nil ⟨rfl, by repeat (first | exact trivial | refine ⟨rfl, ?_⟩ | refine ⟨?_, ?_⟩)⟩
    refine ax_q (q_mov rfl) ?_
    apply ax_and rfl rfl
    ·
     intro g
     have g := (fun h => And.intro ((fun h => And.intro (id (and_T h).1) (dT (and_T h).2)) (and_T h).1) (id (and_T h).2)) g
     refine ax_q (q_fadr_ptr rfl) ?_
     refine ax_q (q_ldN rfl rfl rfl) ?_
     first | refine ax_call rfl (vc_pure0 (c_hasNone (e := s.Where) ) hP rfl rfl ?_) | refine ax_call rfl (vc_lend0 (c_hasNone (e := s.Where) ) hP (by repeat (first | exact lal_id _ rfl | exact LAL.nil | refine LAL.cons ?_ ?_ | exact la_id _ rfl | exact LA.lend (lend_whole rfl (by first | (simp; done) | (rw [List.length_map]; rfl))) | refine LA.agg ?_ | refine LA.fn ?_ | refine LA.lend ?_ | exact Lend.d _ | exact Lend.zs _ | exact lend_whole rfl (by first | (simp; done) | (rw [List.length_map]; rfl)) | refine Lend.ptr rfl ?_ | refine Lend.fn ?_ | exact LendL.nil | refine LendL.cons ?_ ?_)) rfl rfl ?_)
     exact ax_nil ⟨rfl, by repeat (first | exact trivial | refine ⟨rfl, ?_⟩ | refine ⟨?_, ?_⟩)⟩
    refine ax_q (q_mov rfl) ?_
    apply ax_and rfl rfl
    ·
     intro g
     have g := (fun h => And.intro ((fun h => And.intro ((fun h => And.intro (id (and_T h).1) (dT (and_T h).2)) (and_T h).1) (id (and_T h).2)) (and_T h).1) (id (and_T h).2)) g
     refine ax_q (q_mov rfl) ?_
     refine ax_q (q_not rfl) ?_
     exact ax_nil ⟨rfl, by repeat (first | exact trivial | refine ⟨rfl, ?_⟩ | refine ⟨?_, ?_⟩)⟩
    refine ax_q (q_mov rfl) ?_
    refine ax_nil ?_
    refine cx_keep rfl rfl ?_
    refine cx_ret (ret0 rfl rfl ?_)
    exact ⟨by rw [← stmt_2 ht hw h2]; rfl, rfl⟩
   ·
    have h2 := dF h2
    refine cx_seq ?_
    refine cx_ops ?_
    refine ax_q (q_ibin rfl rfl rfl) ?_
    refine ax_q (q_mov rfl) ?_
    refine ax_nil ?_
    refine cx_keep rfl rfl ?_
    refine cx_cond rfl (fun h3 => ?_) (fun h3 => ?_)
    ·
     have h3 := dT h3
     refine cx_seq ?_
     refine cx_ops ?_
     refine ax_q (q_mov rfl) ?_
     refine ax_q (q_mov rfl) ?_
     apply ax_and rfl rfl
     ·
      intro g
      refine ax_q (q_fadr_ptr rfl) ?_
      refine ax_q (q_load1_ptr rfl rfl rfl) ?_
      first | refine ax_call rfl (vc_pure0 (c_inRange  ) hP rfl rfl ?_) | refine ax_call rfl (vc_lend0 (c_inRange  ) hP (by repeat (first | exact lal_id _ rfl | exact LAL.nil | refine LAL.cons ?_ ?_ | exact la_id _ rfl | exact LA.lend (lend_whole rfl (by first | (simp; done) | (rw [List.length_map]; rfl))) | refine LA.agg ?_ | refine LA.fn ?_ | refine LA.lend ?_ | exact Lend.d _ | exact Lend.zs _ | exact lend_whole rfl (by first | (simp; done) | (rw [List.length_map]; rfl)) | refine Lend.ptr rfl ?_ | refine Lend.fn ?_ | exact LendL.nil | refine LendL.cons ?_ ?_)) rfl rfl ?_)
      exact ax_nil ⟨rfl, by repeat (first | exact trivial | refine ⟨rfl, ?_⟩ | refine ⟨?_, ?_⟩)⟩
     refine ax_q (q_mov rfl) ?_
     apply ax_and rfl rfl
     ·
      intro g
      have g := (fun h => And.intro (id (and_T h).1) (id (and_T h).2)) g
      refine ax_q (q_fadr_ptr rfl) ?_
      refine ax_q (q_ldN rfl rfl rfl) ?_
      first | refine ax_call rfl (vc_pure0 (c_ExprOK (e := s.Set) ?_ ?_) hP rfl rfl ?_) | refine ax_call rfl (vc_lend0 (c_ExprOK (e := s.Set) ?_ ?_) hP (by repeat (first | exact lal_id _ rfl | exact LAL.nil | refine LAL.cons ?_ ?_ | exact la_id _ rfl | exact LA.lend (lend_whole rfl (by first | (simp; done) | (rw [List.length_map]; rfl))) | refine LA.agg ?_ | refine LA.fn ?_ | refine LA.lend ?_ | exact Lend.d _ | exact Lend.zs _ | exact lend_whole rfl (by first | (simp; done) | (rw [List.length_map]; rfl)) | refine Lend.ptr rfl ?_ | refine Lend.fn ?_ | exact LendL.nil | refine LendL.cons ?_ ?_)) rfl rfl ?_)
      ·
       first | assumption | omega | (simp; done) | (simp; omega)
      ·
       first | assumption | omega | (simp; done) | (simp; omega)
      exact ax_nil ⟨rfl, by repeat (first | exact trivial | refine ⟨rfl, ?_⟩ | refine ⟨?_, ?_⟩)⟩
     refine ax_q (q_mov rfl) ?_
     apply ax_and rfl rfl
     ·
      intro g
      have g := (fun h => And.intro ((fun h => And.intro (id (and_T h).1) (id (and_T h).2)) (and_T h).1) (id (and_T h).2)) g
      refine ax_q (q_mov rfl) ?_
      refine ax_q (q_not rfl) ?_
      exact ax_nil ⟨rfl, by repeat (first | exact trivial | refine ⟨rfl, ?_⟩ | refine ⟨?_, ?_⟩)⟩
     refine ax_q (q_mov rfl) ?_
     refine ax_nil ?_
     refine cx_keep rfl rfl ?_
     refine cx_ret (ret0 rfl rfl ?_)
     exact ⟨by rw [← stmt_3 ht hw h3]; rfl, rfl⟩
    ·
     have h3 := dF h3
     refine cx_skip ?_
     refine cx_keep rfl rfl ?_
     refine cx_seq ?_
     refine cx_ops ?_
     refine ax_q (q_fadr_ptr rfl) ?_
     refine ax_q (q_load1_ptr rfl rfl rfl) ?_
     refine ax_q (q_ibin rfl rfl rfl) ?_
     refine ax_q (q_mov rfl) ?_
     apply ax_and rfl rfl
     ·
      intro g
      have g := dT g
      refine ax_q (q_mov rfl) ?_
      exact ax_nil ⟨rfl, by repeat (first | exact trivial | refine ⟨rfl, ?_⟩ | refine ⟨?_, ?_⟩)⟩
     refine ax_q (q_mov rfl) ?_
     apply ax_and rfl rfl
     ·
      intro g
      have g := (fun h => And.intro (dT (and_T h).1) (id (and_T h).2)) g
      refine ax_q (q_fadr_ptr rfl) ?_
      refine ax_q (q_load1_ptr rfl rfl rfl) ?_
      refine ax_q (q_ibin rfl rfl rfl) ?_
      exact ax_nil ⟨rfl, by repeat (first | exact trivial | refine ⟨rfl, ?_⟩ | refine ⟨?_, ?_⟩)⟩
     refine ax_q (q_mov rfl) ?_
     apply ax_and rfl rfl
     ·
      intro g
      have g := (fun h => And.intro ((fun h => And.intro (dT (and_T h).1) (id (and_T h).2)) (and_T h).1) (dT (and_T h).2)) g
      refine ax_q (q_fadr_ptr rfl) ?_
      refine ax_q (q_ldN rfl rfl rfl) ?_
      first | refine ax_call rfl (vc_pure0 (c_hasNone (e := s.Set) ) hP rfl rfl ?_) | refine ax_call rfl (vc_lend0 (c_hasNone (e := s.Set) ) hP (by repeat (first | exact lal_id _ rfl | exact LAL.nil | refine LAL.cons ?_ ?_ | exact la_id _ rfl | exact LA.lend (lend_whole rfl (by first | (simp; done) | (rw [List.length_map]; rfl))) | refine LA.agg ?_ | refine LA.fn ?_ | refine LA.lend ?_ | exact Lend.d _ | exact Lend.zs _ | exact lend_whole rfl (by first | (simp; done) | (rw [List.length_map]; rfl)) | refine Lend.ptr rfl ?_ | refine Lend.fn ?_ | exact LendL.nil | refine LendL.cons ?_ ?_)) rfl rfl ?_)
      exact ax_nil ⟨rfl, by repeat (first | exact trivial | refine ⟨rfl, ?_⟩ | refine ⟨?_, ?_⟩)⟩
     refine ax_q (q_mov rfl) ?_
     apply ax_and rfl rfl
     ·
      intro g
      have g := (fun h => And.intro ((fun h => And.intro ((fun h => And.intro (dT (and_T h).1) (id (and_T h).2)) (and_T h).1) (dT (and_T h).2)) (and_T h).1) (id (and_T h).2)) g
      refine ax_q (q_mov rfl) ?_
      refine ax_q (q_not rfl) ?_
      exact ax_nil ⟨rfl, by repeat (first | exact trivial | refine ⟨rfl, ?_⟩ | refine ⟨?_, ?_⟩)⟩
     refine ax_q (q_mov rfl) ?_
     refine ax_nil ?_
     refine cx_keep rfl rfl ?_
     refine cx_ret (ret0 rfl rfl ?_)
     exact ⟨by rw [← stmt_4 ht hw h1 h2 h3]; rfl, rfl⟩


/- loop.example/g00332/impl.valueText -/
def k_c_valueText : XCode :=
 .seq (.ops [.op (some 1) (.box (.t 0)),
   .op (some 2) (.mov (.k (.str [])))])
 (.keep [1] (.seq (.seq (.ops [.op (some 3) (.fadr (.t 1) 0),
   .op (some 4) (.load1 (.t 3))])
  (.keep [1, 4] (.block 0 (.seq (.ops [.op (some 6) (.bin .eql (.t 4) (.k (.int .i64 0))),
    .op (some 5) (.mov (.t 6))])
  (.keep [1, 4, 5] (.cond (.t 5)
   (.seq (.ops [.op (some 2) (.mov (.k (.str [110, 117, 108, 108])))])
   (.keep [2] (.ret)))
   (.seq (.ops [.op (some 8) (.bin .eql (.t 4) (.k (.int .i64 1))),
     .op (some 7) (.mov (.t 8))])
   (.keep [1, 7] (.cond (.t 7)
    (.seq (.ops [.op (some 9) (.fadr (.t 1) 1),
      .op (some 10) (.load1 (.t 9)),
      .call (some 11) 59 [.t 10],
      .op (some 2) (.mov (.t 11))])
    (.keep [2] (.ret)))
    (.skip))))))))))
 (.keep [1] (.seq (.ops [.op (some 12) (.fadr (.t 1) 2),
   .op (some 13) (.load1 (.t 12)),
   .op (some 14) (.bin .add (.k (.str [39])) (.t 13)),
   .op (some 15) (.bin .add (.t 14) (.k (.str [39]))),
   .op (some 2) (.mov (.t 15))])
 (.keep [2] (.ret))))))
theorem k_c_valueText_fits : fitsF Tryd.prog 49 ⟨16, k_c_valueText, [.t 2]⟩ = true := by kernel_rfl
theorem c_valueText {v : GValue} (hv : valueOK v = true) : Con Tryd.prog noMv 49 [v.av] [] (fun r h => r = str (vtextF v) ∧ h = []) := by
 refine con_of2 k_c_valueText_fits rfl fun C hP hmv => ?_
 unfold k_c_valueText
 have htl := vOK_t hv
 refine cx_seq ?_
 refine cx_ops ?_
 refine ax_e (e_box rfl rfl (by decide) rfl rfl rfl) ?_
 refine ax_q (q_mov rfl) ?_
 refine ax_nil ?_
 refine cx_keep rfl rfl ?_
 refine cx_seq ?_
 refine cx_seq ?_
 refine cx_ops ?_
 refine ax_q (q_fadr_ptr rfl) ?_
 refine ax_q (q_load1_ptr rfl rfl rfl) ?_
 refine ax_nil ?_
 refine cx_keep rfl rfl ?_
 refine cx_block ?_
 refine cx_seq ?_
 refine cx_ops ?_
 refine ax_q (q_ibin rfl rfl rfl) ?_
 refine ax_q (q_mov rfl) ?_
 refine ax_nil ?_
 refine cx_keep rfl rfl ?_
 refine cx_cond rfl (fun h0 => ?_) (fun h0 => ?_)
 ·
  have h0 := dT h0
  refine cx_seq ?_
  refine cx_ops ?_
  refine ax_q (q_mov rfl) ?_
  refine ax_nil ?_
  refine cx_keep rfl rfl ?_
  refine cx_ret (ret0 rfl rfl ?_)
  exact ⟨by rw [vtext_0 h0]; rfl, rfl⟩
 ·
  have h0 := dF h0
  refine cx_seq ?_
  refine cx_ops ?_
  refine ax_q (q_ibin rfl rfl rfl) ?_
  refine ax_q (q_mov rfl) ?_
  refine ax_nil ?_
  refine cx_keep rfl rfl ?_
  refine cx_cond rfl (fun h1 => ?_) (fun h1 => ?_)
  ·
   have h1 := dT h1
   have hvn := vOK_n hv h1
   refine cx_seq ?_
   refine cx_ops ?_
   refine ax_q (q_fadr_ptr rfl) ?_
   refine ax_q (q_load1_ptr rfl rfl rfl) ?_
   first | refine ax_call rfl (vc_pure0 (c_Itoa  ?_ ?_) hP rfl rfl ?_) | refine ax_call rfl (vc_lend0 (c_Itoa  ?_ ?_) hP (by repeat (first | exact lal_id _ rfl | exact LAL.nil | refine LAL.cons ?_ ?_ | exact la_id _ rfl | exact LA.lend (lend_whole rfl (by first | (simp; done) | (rw [List.length_map]; rfl))) | refine LA.agg ?_ | refine LA.fn ?_ | refine LA.lend ?_ | exact Lend.d _ | exact Lend.zs _ | exact lend_whole rfl (by first | (simp; done) | (rw [List.length_map]; rfl)) | refine Lend.ptr rfl ?_ | refine Lend.fn ?_ | exact LendL.nil | refine LendL.cons ?_ ?_)) rfl rfl ?_)
   ·
    first | assumption | omega | (simp; done) | (simp; omega)
   ·
    first | assumption | omega | (simp; done) | (simp; omega)
   refine ax_q (q_mov rfl) ?_
   refine ax_nil ?_
   refine cx_keep rfl rfl ?_
   refine cx_ret (ret0 rfl rfl ?_)
   exact ⟨by rw [vtext_1 h1]; rfl, rfl⟩
  ·
   have h1 := dF h1
   refine cx_skip ?_
   refine cx_keep rfl rfl ?_
   refine cx_seq ?_
   refine cx_ops ?_
   refine ax_q (q_fadr_ptr rfl) ?_
   refine ax_q (q_load1_ptr rfl rfl rfl) ?_
   refine ax_qe (r' := str (39 :: v.T)) (q_sbin_add rfl rfl (by simp; omega)) (rfl) ?_
   refine ax_qe (r' := str ((39 :: v.T) ++ [39])) (q_sbin_add rfl rfl (by simp; omega)) (rfl) ?_
   refine ax_q (q_mov rfl) ?_
   refine ax_nil ?_
   refine cx_keep rfl rfl ?_
   refine cx_ret (ret0 rfl rfl ?_)
   exact ⟨by rw [vtext_2 h0 h1]; rfl, rfl⟩


/- loop.example/g00332/impl.nodeText -/
def k_c_nodeText : XCode :=
 .seq (.ops [.op (some 2) (.box (.t 0)),
   .op (some 4) (.mov (.k (.str [])))])
 (.keep [1, 2] (.seq (.ops [.op (some 6) (.fadr (.t 2) 0),
   .op (some 7) (.load1 (.t 6)),
   .op (some 8) (.mov (.t 1)),
   .op (some 9) (.iadr 7 (.t 7) (.t 8)),
   .op (some 10) (.loadN 7 (.t 9)),
   .op (some 5) (.alloc [.int .i64 0, .int .i64 0, .int .i64 0, .int .i64 0, .int .i64 0, .int .i64 0, .str []]),
   .op none (.store 7 (.t 5) (.t 10))])
 (.keep [2, 5] (.seq (.seq (.ops [.op (some 11) (.fadr (.t 5) 0),
   .op (some 12) (.load1 (.t 11))])
  (.keep [2, 5, 12] (.block 0 (.seq (.ops [.op (some 14) (.bin .eql (.t 12) (.k (.int .i64 1))),
    .op (some 13) (.mov (.t 14))])
  (.keep [2, 5, 12, 13] (.cond (.t 13)
   (.seq (.ops [.op (some 15) (.fadr (.t 5) 4),
     .op (some 16) (.loadN 3 (.t 15)),
     .call (some 17) 49 [.t 16],
     .op (some 4) (.mov (.t 17))])
   (.keep [4] (.ret)))
   (.seq (.ops [.op (some 19) (.bin .eql (.t 12) (.k (.int .i64 2))),
     .op (some 18) (.mov (.t 19))])
   (.keep [2, 5, 12, 18] (.cond (.t 18)
    (.seq (.ops [.op (some 20) (.fadr (.t 5) 3),
      .op (some 21) (.load1 (.t 20)),
      .op (some 22) (.iadrA 1 3 (.g 0) (.t 21)),
      .op (some 23) (.load1 (.t 22)),
      .op (some 4) (.mov (.t 23))])
    (.keep [4] (.ret)))
    (.seq (.ops [.op (some 25) (.bin .eql (.t 12) (.k (.int .i64 3))),
      .op (some 24) (.mov (.t 25))])
    (.keep [2, 5, 12, 24] (.cond (.t 24)
     (.seq (.ops [.op (some 26) (.loadN 1 (.t 2)),
       .op (some 27) (.fadr (.t 5) 1),
       .op (some 28) (.load1 (.t 27)),
       .call (some 29) 38 [.t 26, .t 28],
       .op (some 30) (.bin .add (.k (.str [40, 110, 111, 116, 32])) (.t 29)),
       .op (some 31) (.bin .add (.t 30) (.k (.str [41]))),
       .op (some 4) (.mov (.t 31))])
     (.keep [4] (.ret)))
     (.seq (.ops [.op (some 33) (.bin .eql (.t 12) (.k (.int .i64 4))),
       .op (some 32) (.mov (.t 33))])
     (.keep [2, 5, 12, 32] (.cond (.t 32)
      (.seq (.ops [.op (some 34) (.loadN 1 (.t 2)),
        .op (some 35) (.fadr (.t 5) 1),
        .op (some 36) (.load1 (.t 35)),
        .call (some 37) 38 [.t 34, .t 36],
        .op (some 38) (.bin .add (.k (.str [40])) (.t 37)),
        .op (some 39) (.bin .add (.t 38) (.k (.str [32, 105, 115, 32, 110, 117, 108, 108, 41]))),
        .op (some 4) (.mov (.t 39))])
      (.keep [4] (.ret)))
      (.seq (.ops [.op (some 41) (.bin .eql (.t 12) (.k (.int .i64 5))),
        .op (some 40) (.mov (.t 41))])
      (.keep [2, 5, 40] (.cond (.t 40)
       (.seq (.ops [.op (some 42) (.loadN 1 (.t 2)),
         .op (some 43) (.fadr (.t 5) 1),
         .op (some 44) (.load1 (.t 43)),
         .call (some 45) 38 [.t 42, .t 44],
         .op (some 46) (.bin .add (.k (.str [40, 45, 32, 40])) (.t 45)),
         .op (some 47) (.bin .add (.t 46) (.k (.str [41, 41]))),
         .op (some 4) (.mov (.t 47))])
       (.keep [4] (.ret)))
       (.skip)))))))))))))))))))
 (.keep [2, 5] (.seq (.draw [.op (some 48) (.loadN 1 (.t 2)),
   .op (some 49) (.fadr (.t 5) 1),
   .op (some 50) (.load1 (.t 49)),
   .call (some 51) 38 [.t 48, .t 50],
   .op (some 52) (.bin .add (.k (.str [40])) (.t 51)),
   .op (some 53) (.bin .add (.t 52) (.k (.str [32]))),
   .op (some 54) (.fadr (.t 5) 0),
   .op (some 55) (.load1 (.t 54)),
   .op (some 56) (.bin .sub (.t 55) (.k (.int .i64 6))),
   .op (some 57) (.iadrA 1 8 (.g 1) (.t 56)),
   .op (some 58) (.load1 (.t 57)),
   .op (some 59) (.bin .add (.t 53) (.t 58)),
   .op (some 60) (.bin .add (.t 59) (.k (.str [32]))),
   .op (some 61) (.loadN 1 (.t 2)),
   .op (some 62) (.fadr (.t 5) 2),
   .op (some 63) (.load1 (.t 62)),
   .call (some 64) 38 [.t 61, .t 63],
   .op (some 65) (.bin .add (.t 60) (.t 64)),
   .op (some 66) (.bin .add (.t 65) (.k (.str [41]))),
   .op (some 4) (.mov (.t 66))])
 (.keep [4] (.ret))))))))
theorem k_c_nodeText_fits : fitsF Tryd.prog 38 ⟨67, k_c_nodeText, [.t 4]⟩ = true := by kernel_rfl
set_option maxHeartbeats 4000000 in
theorem c_nodeText {e : GExpr} {f : Nat} {i : Int} (hw : e.Nodes.length ≤ 1048576) (hi : 0 ≤ i) (hf : i < f) (hl : i < e.Nodes.length) (ht : (T e.Nodes i).2.2 = true) (hfm : f ≤ 41) : Con Tryd.prog noMv 38 [e.av, int i] [] (fun r h => r = str (etF e.Nodes f i) ∧ h = []) := by
 induction f generalizing i with
 | zero => exact absurd hf (by omega)
 | succ f ih =>
  refine con_of2 k_c_nodeText_fits rfl fun C hP hmv => ?_
  unfold k_c_nodeText
  obtain ⟨j, rfl⟩ : ∃ j : Nat, i = (j : Int) := ⟨i.toNat, by omega⟩
  have hj : j < e.Nodes.length := by omega
  have hTV := T_V hj ht
  refine cx_seq ?_
  refine cx_ops ?_
  refine ax_e (e_box rfl rfl (by decide) rfl rfl rfl) ?_
  refine ax_q (q_mov rfl) ?_
  refine ax_nil ?_
  refine cx_keep rfl rfl ?_
  refine cx_seq ?_
  refine cx_ops ?_
  refine ax_q (q_fadr_ptr rfl) ?_
  refine ax_q (q_load1_ptr rfl rfl rfl) ?_
  refine ax_q (q_mov rfl) ?_
  refine ax_q (q_ix rfl rfl (mapAt hj)) ?_
  first | refine ax_q (q_ldN rfl rfl rfl) ?_ | refine ax_q (q_loadN_ip rfl (Nat.le_refl _)) ?_ | refine ax_q (q_loadN_ip rfl (by decide)) ?_ | refine ax_q (q_loadN_rptr rfl rfl (by assumption) (by decide)) ?_ | refine ax_q (q_loadN_rptr rfl rfl (mapAt (by first | assumption | omega)) (by decide)) ?_
  refine ax_e (e_alloc (by decide) rfl rfl) ?_
  refine ax_e (e_st rfl rfl rfl rfl rfl rfl rfl) ?_
  refine ax_nil ?_
  refine cx_keep rfl rfl ?_
  refine cx_seq ?_
  refine cx_seq ?_
  refine cx_ops ?_
  refine ax_q (q_fadr_ptr rfl) ?_
  refine ax_q (q_load1_ptr rfl rfl rfl) ?_
  refine ax_nil ?_
  refine cx_keep rfl rfl ?_
  refine cx_block ?_
  refine cx_seq ?_
  refine cx_ops ?_
  refine ax_q (q_ibin rfl rfl rfl) ?_
  refine ax_q (q_mov rfl) ?_
  refine ax_nil ?_
  refine cx_keep rfl rfl ?_
  refine cx_cond rfl (fun h0 => ?_) (fun h0 => ?_)
  ·
   have h0 := dT h0
   have hv0 := T_1 hj ht h0
   refine cx_seq ?_
   refine cx_ops ?_
   refine ax_q (q_fadr_ptr rfl) ?_
   refine ax_q (q_ldN rfl rfl rfl) ?_
   first | refine ax_call rfl (vc_pure0 (c_valueText (v := e.Nodes[j].V) ?_) hP rfl rfl ?_) | refine ax_call rfl (vc_lend0 (c_valueText (v := e.Nodes[j].V) ?_) hP (by repeat (first | exact lal_id _ rfl | exact LAL.nil | refine LAL.cons ?_ ?_ | exact la_id _ rfl | exact LA.lend (lend_whole rfl (by first | (simp; done) | (rw [List.length_map]; rfl))) | refine LA.agg ?_ | refine LA.fn ?_ | refine LA.lend ?_ | exact Lend.d _ | exact Lend.zs _ | exact lend_whole rfl (by first | (simp; done) | (rw [List.length_map]; rfl)) | refine Lend.ptr rfl ?_ | refine Lend.fn ?_ | exact LendL.nil | refine LendL.cons ?_ ?_)) rfl rfl ?_)
   ·
    first | assumption | omega | (simp; done) | (simp; omega)
   refine ax_q (q_mov rfl) ?_
   refine ax_nil ?_
   refine cx_keep rfl rfl ?_
   refine cx_ret (ret0 rfl rfl ?_)
   exact ⟨by rw [etF_1 hj h0]; rfl, rfl⟩
  ·
   have h0 := dF h0
   refine cx_seq ?_
   refine cx_ops ?_
   refine ax_q (q_ibin rfl rfl rfl) ?_
   refine ax_q (q_mov rfl) ?_
   refine ax_nil ?_
   refine cx_keep rfl rfl ?_
   refine cx_cond rfl (fun h1 => ?_) (fun h1 => ?_)
   ·
    have h1 := dT h1
    have hc := hTV.2 h1
    refine cx_seq ?_
    refine cx_ops ?_
    refine ax_q (q_fadr_ptr rfl) ?_
    refine ax_q (q_load1_ptr rfl rfl rfl) ?_
    refine ax_qe (r' := .d (.ip (.str (colT e.Nodes[j].Column) :: ((colsL.drop ((e.Nodes[j].Column).toNat + 1)).map D.str)))) (q_iadrG (n := e.Nodes[j].Column) colsL gtab_cols (by rw [hP]; kernel_rfl) rfl rfl (by omega) (by omega)) (by rw [col_drop (by omega)]) ?_
    first | refine ax_q (q_load1_ptr rfl rfl rfl) ?_ | refine ax_q (q_load1_ip rfl) ?_ | refine ax_q (q_load1_rptr rfl rfl rfl rfl) ?_ | refine ax_q (q_load1_rptr rfl rfl (by assumption) rfl) ?_ | refine ax_q (q_load1_rptr rfl rfl (mapAt (by first | assumption | omega)) rfl) ?_
    refine ax_q (q_mov rfl) ?_
    refine ax_nil ?_
    refine cx_keep rfl rfl ?_
    refine cx_ret (ret0 rfl rfl ?_)
    exact ⟨by rw [etF_2 hj h1]; rfl, rfl⟩
   ·
    have h1 := dF h1
    obtain ⟨⟨hA0, hA1, hAt, hAs⟩, hB⟩ := T_kids hj ht h0 h1
    have hla := etF_le (f := f) hA0 (by omega) (by omega) hAt (by omega)
    refine cx_seq ?_
    refine cx_ops ?_
    refine ax_q (q_ibin rfl rfl rfl) ?_
    refine ax_q (q_mov rfl) ?_
    refine ax_nil ?_
    refine cx_keep rfl rfl ?_
    refine cx_cond rfl (fun h2 => ?_) (fun h2 => ?_)
    ·
     have h2 := dT h2
     refine cx_seq ?_
     refine cx_ops ?_
     refine ax_q (q_ldN rfl rfl rfl) ?_
     refine ax_q (q_fadr_ptr rfl) ?_
     refine ax_q (q_load1_ptr rfl rfl rfl) ?_
     first | refine ax_call rfl (vc_pure0 (ih (i := e.Nodes[j].A) ?_ ?_ ?_ ?_ ?_) hP rfl rfl ?_) | refine ax_call rfl (vc_lend0 (ih (i := e.Nodes[j].A) ?_ ?_ ?_ ?_ ?_) hP (by repeat (first | exact lal_id _ rfl | exact LAL.nil | refine LAL.cons ?_ ?_ | exact la_id _ rfl | exact LA.lend (lend_whole rfl (by first | (simp; done) | (rw [List.length_map]; rfl))) | refine LA.agg ?_ | refine LA.fn ?_ | refine LA.lend ?_ | exact Lend.d _ | exact Lend.zs _ | exact lend_whole rfl (by first | (simp; done) | (rw [List.length_map]; rfl)) | refine Lend.ptr rfl ?_ | refine Lend.fn ?_ | exact LendL.nil | refine LendL.cons ?_ ?_)) rfl rfl ?_)
     ·
      first | assumption | omega | (simp; done) | (simp; omega)
     ·
      first | assumption | omega | (simp; done) | (simp; omega)
     ·
      first | assumption | omega | (simp; done) | (simp; omega)
     ·
      first | assumption | omega | (simp; done) | (simp; omega)
     ·
      first | assumption | omega | (simp; done) | (simp; omega)
     refine ax_qe (r' := str ([40, 110, 111, 116, 32] ++ etF e.Nodes f e.Nodes[j].A)) (q_sbin_add rfl rfl (by simp; omega)) (rfl) ?_
     refine ax_qe (r' := str (([40, 110, 111, 116, 32] ++ etF e.Nodes f e.Nodes[j].A) ++ [41])) (q_sbin_add rfl rfl (by simp; omega)) (rfl) ?_
     refine ax_q (q_mov rfl) ?_
     refine ax_nil ?_
     refine cx_keep rfl rfl ?_
     refine cx_ret (ret0 rfl rfl ?_)
     exact ⟨by rw [etF_3 hj h2]; rfl, rfl⟩
    ·
     have h2 := dF h2
     refine cx_seq ?_
     refine cx_ops ?_
     refine ax_q (q_ibin rfl rfl rfl) ?_
     refine ax_q (q_mov rfl) ?_
     refine ax_nil ?_
     refine cx_keep rfl rfl ?_
     refine cx_cond rfl (fun h3 => ?_) (fun h3 => ?_)
     ·
      have h3 := dT h3
      refine cx_seq ?_
      refine cx_ops ?_
      refine ax_q (q_ldN rfl rfl rfl) ?_
      refine ax_q (q_fadr_ptr rfl) ?_
      refine ax_q (q_load1_ptr rfl rfl rfl) ?_
      first | refine ax_call rfl (vc_pure0 (ih (i := e.Nodes[j].A) ?_ ?_ ?_ ?_ ?_) hP rfl rfl ?_) | refine ax_call rfl (vc_lend0 (ih (i := e.Nodes[j].A) ?_ ?_ ?_ ?_ ?_) hP (by repeat (first | exact lal_id _ rfl | exact LAL.nil | refine LAL.cons ?_ ?_ | exact la_id _ rfl | exact LA.lend (lend_whole rfl (by first | (simp; done) | (rw [List.length_map]; rfl))) | refine LA.agg ?_ | refine LA.fn ?_ | refine LA.lend ?_ | exact Lend.d _ | exact Lend.zs _ | exact lend_whole rfl (by first | (simp; done) | (rw [List.length_map]; rfl)) | refine Lend.ptr rfl ?_ | refine Lend.fn ?_ | exact LendL.nil | refine LendL.cons ?_ ?_)) rfl rfl ?_)
      ·
       first | assumption | omega | (simp; done) | (simp; omega)
      ·
       first | assumption | omega | (simp; done) | (simp; omega)
      ·
       first | assumption | omega | (simp; done) | (simp; omega)
      ·
       first | assumption | omega | (simp; done) | (simp; omega)
      ·
       first | assumption | omega | (simp; done) | (simp; omega)
      refine ax_qe (r' := str ([40] ++ etF e.Nodes f e.Nodes[j].A)) (q_sbin_add rfl rfl (by simp; omega)) (rfl) ?_
      refine ax_qe (r' := str (([40] ++ etF e.Nodes f e.Nodes[j].A) ++ [32, 105, 115, 32, 110, 117, 108, 108, 41])) (q_sbin_add rfl rfl (by simp; omega)) (rfl) ?_
      refine ax_q (q_mov rfl) ?_
      refine ax_nil ?_
      refine cx_keep rfl rfl ?_
      refine cx_ret (ret0 rfl rfl ?_)
      exact ⟨by rw [etF_4 hj h3]; rfl, rfl⟩
     ·
      have h3 := dF h3
      refine cx_seq ?_
      refine cx_ops ?_
      refine ax_q (q_ibin rfl rfl rfl) ?_
      refine ax_q (q_mov rfl) ?_
      refine ax_nil ?_
      refine cx_keep rfl rfl ?_
      refine cx_cond rfl (fun h4 => ?_) (fun h4 => ?_)
      ·
       have h4 := dT h4
       refine cx_seq ?_
       refine cx_ops ?_
       refine ax_q (q_ldN rfl rfl rfl) ?_
       refine ax_q (q_fadr_ptr rfl) ?_
       refine ax_q (q_load1_ptr rfl rfl rfl) ?_
       first | refine ax_call rfl (vc_pure0 (ih (i := e.Nodes[j].A) ?_ ?_ ?_ ?_ ?_) hP rfl rfl ?_) | refine ax_call rfl (vc_lend0 (ih (i := e.Nodes[j].A) ?_ ?_ ?_ ?_ ?_) hP (by repeat (first | exact lal_id _ rfl | exact LAL.nil | refine LAL.cons ?_ ?_ | exact la_id _ rfl | exact LA.lend (lend_whole rfl (by first | (simp; done) | (rw [List.length_map]; rfl))) | refine LA.agg ?_ | refine LA.fn ?_ | refine LA.lend ?_ | exact Lend.d _ | exact Lend.zs _ | exact lend_whole rfl (by first | (simp; done) | (rw [List.length_map]; rfl)) | refine Lend.ptr rfl ?_ | refine Lend.fn ?_ | exact LendL.nil | refine LendL.cons ?_ ?_)) rfl rfl ?_)
       ·
        first | assumption | omega | (simp; done) | (simp; omega)
       ·
        first | assumption | omega | (simp; done) | (simp; omega)
       ·
        first | assumption | omega | (simp; done) | (simp; omega)
       ·
        first | assumption | omega | (simp; done) | (simp; omega)
       ·
        first | assumption | omega | (simp; done) | (simp; omega)
       refine ax_qe (r' := str ([40, 45, 32, 40] ++ etF e.Nodes f e.Nodes[j].A)) (q_sbin_add rfl rfl (by simp; omega)) (rfl) ?_
       refine ax_qe (r' := str (([40, 45, 32, 40] ++ etF e.Nodes f e.Nodes[j].A) ++ [41, 41])) (q_sbin_add rfl rfl (by simp; omega)) (rfl) ?_
       refine ax_q (q_mov rfl) ?_
       refine ax_nil ?_
       refine cx_keep rfl rfl ?_
       refine cx_ret (ret0 rfl rfl ?_)
       exact ⟨by rw [etF_5 hj h4]; rfl, rfl⟩
      ·
       have h4 := dF h4
              
       have ho := op_un hj ht h0 h1 h2 h3 h4
       obtain ⟨hB0, hB1, hBt, hBs⟩ := hB (by omega)
       have hlb := etF_le (f := f) hB0 (by omega) (by omega) hBt (by omega)
       have hls := sgnT_len ho
       refine cx_skip ?_
       refine cx_keep rfl rfl ?_
       refine cx_seq ?_
       refine cx_draw ?_
       refine ax_q (q_ldN rfl rfl rfl) ?_
       refine ax_q (q_fadr_ptr rfl) ?_
       refine ax_q (q_load1_ptr rfl rfl rfl) ?_
       first | refine ax_callq rfl (ih (i := e.Nodes[j].A) ?_ ?_ ?_ ?_ ?_) hP (lal_id _ rfl) rfl ?_ | refine ax_callq rfl (ih (i := e.Nodes[j].A) ?_ ?_ ?_ ?_ ?_) hP (by repeat (first | exact lal_id _ rfl | exact LAL.nil | refine LAL.cons ?_ ?_ | exact la_id _ rfl | exact LA.lend (lend_whole rfl (by first | (simp; done) | (rw [List.length_map]; rfl))) | refine LA.agg ?_ | refine LA.fn ?_ | refine LA.lend ?_ | exact Lend.d _ | exact Lend.zs _ | exact lend_whole rfl (by first | (simp; done) | (rw [List.length_map]; rfl)) | refine Lend.ptr rfl ?_ | refine Lend.fn ?_ | exact LendL.nil | refine LendL.cons ?_ ?_)) rfl ?_
       ·
        first | assumption | omega | (simp; done) | (simp; omega)
       ·
        first | assumption | omega | (simp; done) | (simp; omega)
       ·
        first | assumption | omega | (simp; done) | (simp; omega)
       ·
        first | assumption | omega | (simp; done) | (simp; omega)
       ·
        first | assumption | omega | (simp; done) | (simp; omega)
       refine ax_qe (r' := str ([40] ++ etF e.Nodes f e.Nodes[j].A)) (q_sbin_add rfl rfl (by simp; omega)) (rfl) ?_
       refine ax_qe (r' := str (([40] ++ etF e.Nodes f e.Nodes[j].A) ++ [32])) (q_sbin_add rfl rfl (by simp; omega)) (rfl) ?_
       refine ax_q (q_fadr_ptr rfl) ?_
       refine ax_q (q_load1_ptr rfl rfl rfl) ?_
       refine ax_q (q_sub rfl rfl (by omega)) ?_
       refine ax_qe (r' := .d (.ip (.str (sgnT e.Nodes[j].Op) :: ((sgnsL.drop (((e.Nodes[j].Op) - 6).toNat + 1)).map D.str)))) (q_iadrG (n := e.Nodes[j].Op - 6) sgnsL gtab_sgns (by rw [hP]; kernel_rfl) rfl rfl (by omega) (by omega)) (by rw [sgn_drop (by omega)]) ?_
       first | refine ax_q (q_load1_ptr rfl rfl rfl) ?_ | refine ax_q (q_load1_ip rfl) ?_ | refine ax_q (q_load1_rptr rfl rfl rfl rfl) ?_ | refine ax_q (q_load1_rptr rfl rfl (by assumption) rfl) ?_ | refine ax_q (q_load1_rptr rfl rfl (mapAt (by first | assumption | omega)) rfl) ?_
       refine ax_qe (r' := str ((([40] ++ etF e.Nodes f e.Nodes[j].A) ++ [32]) ++ sgnT e.Nodes[j].Op)) (q_sbin_add rfl rfl (by simp; omega)) (rfl) ?_
       refine ax_qe (r' := str (((([40] ++ etF e.Nodes f e.Nodes[j].A) ++ [32]) ++ sgnT e.Nodes[j].Op) ++ [32])) (q_sbin_add rfl rfl (by simp; omega)) (rfl) ?_
       refine ax_q (q_ldN rfl rfl rfl) ?_
       refine ax_q (q_fadr_ptr rfl) ?_
       refine ax_q (q_load1_ptr rfl rfl rfl) ?_
       first | refine ax_callq rfl (ih (i := e.Nodes[j].B) ?_ ?_ ?_ ?_ ?_) hP (lal_id _ rfl) rfl ?_ | refine ax_callq rfl (ih (i := e.Nodes[j].B) ?_ ?_ ?_ ?_ ?_) hP (by repeat (first | exact lal_id _ rfl | exact LAL.nil | refine LAL.cons ?_ ?_ | exact la_id _ rfl | exact LA.lend (lend_whole rfl (by first | (simp; done) | (rw [List.length_map]; rfl))) | refine LA.agg ?_ | refine LA.fn ?_ | refine LA.lend ?_ | exact Lend.d _ | exact Lend.zs _ | exact lend_whole rfl (by first | (simp; done) | (rw [List.length_map]; rfl)) | refine Lend.ptr rfl ?_ | refine Lend.fn ?_ | exact LendL.nil | refine LendL.cons ?_ ?_)) rfl ?_
       ·
        first | assumption | omega | (simp; done) | (simp; omega)
       ·
        first | assumption | omega | (simp; done) | (simp; omega)
       ·
        first | assumption | omega | (simp; done) | (simp; omega)
       ·
        first | assumption | omega | (simp; done) | (simp; omega)
       ·
        first | assumption | omega | (simp; done) | (simp; omega)
       refine ax_qe (r' := str ((((([40] ++ etF e.Nodes f e.Nodes[j].A) ++ [32]) ++ sgnT e.Nodes[j].Op) ++ [32]) ++ etF e.Nodes f e.Nodes[j].B)) (q_sbin_add rfl rfl (by simp; omega)) (rfl) ?_
       refine ax_qe (r' := str (((((([40] ++ etF e.Nodes f e.Nodes[j].A) ++ [32]) ++ sgnT e.Nodes[j].Op) ++ [32]) ++ etF e.Nodes f e.Nodes[j].B) ++ [41])) (q_sbin_add rfl rfl (by simp; omega)) (rfl) ?_
       refine ax_q (q_mov rfl) ?_
       refine ax_nil ?_
       refine cx_keep rfl rfl ?_
       refine cx_ret (ret0 rfl rfl ?_)
       exact ⟨by rw [etF_6 hj h0 h1 h2 h3 h4]; rfl, rfl⟩


/- loop.example/g00332/impl.exprText -/
def k_c_exprText : XCode :=
 .seq (.ops [.op (some 1) (.box (.t 0)),
   .op (some 2) (.mov (.k (.str [])))])
 (.keep [1] (.seq (.ops [.op (some 3) (.loadN 1 (.t 1)),
   .op (some 4) (.fadr (.t 1) 0),
   .op (some 5) (.load1 (.t 4)),
   .op (some 6) (.lenS (.t 5)),
   .op (some 7) (.bin .sub (.t 6) (.k (.int .i64 1))),
   .call (some 8) 38 [.t 3, .t 7],
   .op (some 2) (.mov (.t 8))])
 (.keep [2] (.ret))))
theorem k_c_exprText_fits : fitsF Tryd.prog 20 ⟨9, k_c_exprText, [.t 2]⟩ = true := by kernel_rfl
theorem c_exprText {e : GExpr} (he : exprOK e = true) : Con Tryd.prog noMv 20 [e.av] [] (fun r h => r = str (exT e) ∧ h = []) := by
 refine con_of2 k_c_exprText_fits rfl fun C hP hmv => ?_
 unfold k_c_exprText
 obtain ⟨hz0, hz1, hz2, hz3, _⟩ := comp_hyps he
 have hn40 := exprOK_n he
 refine cx_seq ?_
 refine cx_ops ?_
 refine ax_e (e_box rfl rfl (by decide) rfl rfl rfl) ?_
 refine ax_q (q_mov rfl) ?_
 refine ax_nil ?_
 refine cx_keep rfl rfl ?_
 refine cx_seq ?_
 refine cx_ops ?_
 refine ax_q (q_ldN rfl rfl rfl) ?_
 refine ax_q (q_fadr_ptr rfl) ?_
 refine ax_q (q_load1_ptr rfl rfl rfl) ?_
 first | refine ax_q (q_lenS_map rfl) ?_ | refine ax_q (q_lenS_osl rfl) ?_ | refine ax_q (q_lenS_zs rfl) ?_ | refine ax_q (q_lenS rfl) ?_
 refine ax_q (q_sub rfl rfl (by omega)) ?_
 first | refine ax_call rfl (vc_pure0 (c_nodeText (f := e.Nodes.length + 1) ?_ ?_ ?_ ?_ ?_ ?_) hP rfl rfl ?_) | refine ax_call rfl (vc_lend0 (c_nodeText (f := e.Nodes.length + 1) ?_ ?_ ?_ ?_ ?_ ?_) hP (by repeat (first | exact lal_id _ rfl | exact LAL.nil | refine LAL.cons ?_ ?_ | exact la_id _ rfl | exact LA.lend (lend_whole rfl (by first | (simp; done) | (rw [List.length_map]; rfl))) | refine LA.agg ?_ | refine LA.fn ?_ | refine LA.lend ?_ | exact Lend.d _ | exact Lend.zs _ | exact lend_whole rfl (by first | (simp; done) | (rw [List.length_map]; rfl)) | refine Lend.ptr rfl ?_ | refine Lend.fn ?_ | exact LendL.nil | refine LendL.cons ?_ ?_)) rfl rfl ?_)
 ·
  first | assumption | omega | (simp; done) | (simp; omega)
 ·
  first | assumption | omega | (simp; done) | (simp; omega)
 ·
  first | assumption | omega | (simp; done) | (simp; omega)
 ·
  first | assumption | omega | (simp; done) | (simp; omega)
 ·
  first | assumption | omega | (simp; done) | (simp; omega)
 ·
  first | assumption | omega | (simp; done) | (simp; omega)
 refine ax_q (q_mov rfl) ?_
 refine ax_nil ?_
 refine cx_keep rfl rfl ?_
 refine cx_ret (ret0 rfl rfl ?_)
 exact ⟨rfl, rfl⟩


/- loop.example/g00332/impl.numberValue -/
def k_c_numberValue : XCode :=
 .seq (.ops [.op (some 2) (.alloc [.int .i64 0, .int .i64 0, .str []])])
 (.keep [0, 2] (.seq (.ops [.op (some 3) (.mov (.t 0)),
   .op (some 4) (.build [.int .i64 0, .int .i64 0, .str []] [(0, 1, .k (.int .i64 1)), (1, 1, .t 3)]),
   .op none (.store 3 (.t 2) (.t 4))])
 (.keep [2] (.ret))))
theorem k_c_numberValue_fits : fitsF Tryd.prog 50 ⟨5, k_c_numberValue, [.cN 2 3]⟩ = true := by kernel_rfl
theorem c_numberValue {n : Int} : Con Tryd.prog noMv 50 [int n] [] (fun r h => r = (vI n).av ∧ h = []) := by
 refine con_of2 k_c_numberValue_fits rfl fun C hP hmv => ?_
 unfold k_c_numberValue
 refine cx_seq ?_
 refine cx_ops ?_
 refine ax_e (e_alloc (by decide) rfl rfl) ?_
 refine ax_nil ?_
 refine cx_keep rfl rfl ?_
 refine cx_seq ?_
 refine cx_ops ?_
 refine ax_q (q_mov rfl) ?_
 refine ax_q (q_build rfl) ?_
 refine ax_e (e_st rfl rfl rfl rfl rfl rfl rfl) ?_
 refine ax_nil ?_
 refine cx_keep rfl rfl ?_
 refine cx_ret (ret0 rfl rfl ?_)
 exact ⟨rfl, rfl⟩


/- loop.example/g00332/impl.rowText -/
def k_c_rowText : XCode :=
 .seq (.ops [.op (some 1) (.box (.t 0)),
   .op (some 2) (.mov (.k (.str [])))])
 (.keep [1] (.seq (.drawE [[], [0], [0, 1], [0, 1, 2], [0, 1, 2, 3], [], [5], [0, 1, 2, 3, 5, 6], [0, 1, 2, 3, 4, 5, 6, 7], [0, 1, 2, 3, 4, 5, 6, 7, 8], [], [10], [0, 1, 2, 3, 5, 6, 7, 10, 11], [0, 1, 2, 3, 4, 5, 6, 7, 8, 9, 10, 11, 12], [0, 1, 2, 3, 4, 5, 6, 7, 8, 9, 10, 11, 12, 13]] [.op (some 3) (.fadr (.t 1) 0),
   .op (some 4) (.load1 (.t 3)),
   .call (some 5) 50 [.t 4],
   .call (some 6) 49 [.t 5],
   .op (some 7) (.bin .add (.t 6) (.k (.str [32]))),
   .op (some 8) (.fadr (.t 1) 1),
   .op (some 9) (.loadN 3 (.t 8)),
   .call (some 10) 49 [.t 9],
   .op (some 11) (.bin .add (.t 7) (.t 10)),
   .op (some 12) (.bin .add (.t 11) (.k (.str [32]))),
   .op (some 13) (.fadr (.t 1) 4),
   .op (some 14) (.loadN 3 (.t 13)),
   .call (some 15) 49 [.t 14]]
  [.op (some 16) (.bin .add (.t 12) (.t 15)),
   .op (some 2) (.mov (.t 16))])
 (.keep [2] (.ret))))
theorem k_c_rowText_fits : fitsF Tryd.prog 51 ⟨17, k_c_rowText, [.t 2]⟩ = true := by kernel_rfl
set_option maxHeartbeats 2000000 in
theorem c_rowText {x : GRow} (hr : rowOK x = true) : Con Tryd.prog noMv 51 [x.av] [] (fun r h => r = str (rtextF x) ∧ h = []) := by
 refine con_of2 k_c_rowText_fits rfl fun C hP hmv => ?_
 unfold k_c_rowText
 obtain ⟨hr1, hr2, hr3⟩ := rowOK_p hr
 have hv1 : valueOK (vI x.Id) = true := vOK_int (by omega)
 have t1 := vtext_le hv1
 have t2 := vtext_le hr2
 have t3 := vtext_le hr3
 refine cx_seq ?_
 refine cx_ops ?_
 refine ax_e (e_box rfl rfl (by decide) rfl rfl rfl) ?_
 refine ax_q (q_mov rfl) ?_
 refine ax_nil ?_
 refine cx_keep rfl rfl ?_
 refine cx_seq ?_
 refine cx_drawL 0 3 (fun _ => false) (fun _ => true) [] ([]) [[1], [3], [4], [5], [6], [1], [8], [9], [7, 10], [11], [1], [13], [14]] [[], [], [], [], [], [], [], [], [], [], [], [], []] rfl ?_
 first | refine ⟨⟨3, _, []⟩, .inl ⟨rfl, rfl, rfl, locl_of (loc_q (q_fadr_ptr rfl))⟩, ?_⟩
 first | refine ⟨_, .inr ⟨rfl, _, rfl, .inr ⟨rfl, rfl, .inl rfl, rfl, rfl⟩, loc_q (q_load1_ptr rfl rfl rfl)⟩, ?_⟩
 first | refine ⟨_, .inr ⟨rfl, _, rfl, .inr ⟨rfl, rfl, .inl rfl, rfl, rfl⟩, loc_call (fun i => 5 + 200 * i) false rfl (c_numberValue  ) hP (.inr ⟨rfl, rfl, rfl⟩) rfl rfl (fun h => by cases h)⟩, ?_⟩ | refine ⟨_, .inr ⟨rfl, _, rfl, .inr ⟨rfl, rfl, .inl rfl, rfl, rfl⟩, loc_call (fun i => 5 + 200 * i) true rfl (c_numberValue  ) hP (.inl ⟨rfl, (by repeat (first | exact lal_id _ rfl | exact LAL.nil | refine LAL.cons ?_ ?_ | exact la_id _ rfl | exact LA.lend (lend_whole rfl (by first | (simp; done) | (rw [List.length_map]; rfl))) | refine LA.agg ?_ | refine LA.fn ?_ | refine LA.lend ?_ | exact Lend.d _ | exact Lend.zs _ | exact lend_whole rfl (by first | (simp; done) | (rw [List.length_map]; rfl)) | refine Lend.ptr rfl ?_ | refine Lend.fn ?_ | exact LendL.nil | refine LendL.cons ?_ ?_))⟩) rfl rfl (fun _ => ⟨rfl, noisl_of (by repeat (first | exact trivial | refine ⟨noisl_map (fun _ => rfl), ?_⟩ | refine ⟨?_, ?_⟩))⟩)⟩, ?_⟩
 first | refine ⟨_, .inr ⟨rfl, _, rfl, .inr ⟨rfl, rfl, .inl rfl, rfl, rfl⟩, loc_call (fun i => 6 + 200 * i) false rfl (c_valueText (v := vI x.Id) (by first | assumption | omega | (simp; done) | (simp; omega))) hP (.inr ⟨rfl, rfl, rfl⟩) rfl rfl (fun h => by cases h)⟩, ?_⟩ | refine ⟨_, .inr ⟨rfl, _, rfl, .inr ⟨rfl, rfl, .inl rfl, rfl, rfl⟩, loc_call (fun i => 6 + 200 * i) true rfl (c_valueText (v := vI x.Id) (by first | assumption | omega | (simp; done) | (simp; omega))) hP (.inl ⟨rfl, (by repeat (first | exact lal_id _ rfl | exact LAL.nil | refine LAL.cons ?_ ?_ | exact la_id _ rfl | exact LA.lend (lend_whole rfl (by first | (simp; done) | (rw [List.length_map]; rfl))) | refine LA.agg ?_ | refine LA.fn ?_ | refine LA.lend ?_ | exact Lend.d _ | exact Lend.zs _ | exact lend_whole rfl (by first | (simp; done) | (rw [List.length_map]; rfl)) | refine Lend.ptr rfl ?_ | refine Lend.fn ?_ | exact LendL.nil | refine LendL.cons ?_ ?_))⟩) rfl rfl (fun _ => ⟨rfl, noisl_of (by repeat (first | exact trivial | refine ⟨noisl_map (fun _ => rfl), ?_⟩ | refine ⟨?_, ?_⟩))⟩)⟩, ?_⟩
 first | refine ⟨_, .inr ⟨rfl, _, rfl, .inr ⟨rfl, rfl, .inl rfl, rfl, rfl⟩, loc_qe (r' := str (vtextF (vI x.Id) ++ [32])) (q_sbin_add rfl rfl (by simp; omega)) (rfl)⟩, ?_⟩
 first | refine ⟨_, .inr ⟨rfl, _, rfl, .inr ⟨rfl, rfl, .inr rfl, rfl, rfl⟩, loc_q (q_fadr_ptr rfl)⟩, ?_⟩
 first | refine ⟨_, .inr ⟨rfl, _, rfl, .inr ⟨rfl, rfl, .inr rfl, rfl, rfl⟩, loc_q (q_ldN rfl rfl rfl)⟩, ?_⟩
 first | refine ⟨_, .inr ⟨rfl, _, rfl, .inr ⟨rfl, rfl, .inl rfl, rfl, rfl⟩, loc_call (fun i => 10 + 200 * i) false rfl (c_valueText (v := x.N) (by first | assumption | omega | (simp; done) | (simp; omega))) hP (.inr ⟨rfl, rfl, rfl⟩) rfl rfl (fun h => by cases h)⟩, ?_⟩ | refine ⟨_, .inr ⟨rfl, _, rfl, .inr ⟨rfl, rfl, .inl rfl, rfl, rfl⟩, loc_call (fun i => 10 + 200 * i) true rfl (c_valueText (v := x.N) (by first | assumption | omega | (simp; done) | (simp; omega))) hP (.inl ⟨rfl, (by repeat (first | exact lal_id _ rfl | exact LAL.nil | refine LAL.cons ?_ ?_ | exact la_id _ rfl | exact LA.lend (lend_whole rfl (by first | (simp; done) | (rw [List.length_map]; rfl))) | refine LA.agg ?_ | refine LA.fn ?_ | refine LA.lend ?_ | exact Lend.d _ | exact Lend.zs _ | exact lend_whole rfl (by first | (simp; done) | (rw [List.length_map]; rfl)) | refine Lend.ptr rfl ?_ | refine Lend.fn ?_ | exact LendL.nil | refine LendL.cons ?_ ?_))⟩) rfl rfl (fun _ => ⟨rfl, noisl_of (by repeat (first | exact trivial | refine ⟨noisl_map (fun _ => rfl), ?_⟩ | refine ⟨?_, ?_⟩))⟩)⟩, ?_⟩
 first | refine ⟨_, .inr ⟨rfl, _, rfl, .inr ⟨rfl, rfl, .inl rfl, rfl, rfl⟩, loc_qe (r' := str (vtextF (vI x.Id) ++ [32] ++ vtextF x.N)) (q_sbin_add rfl rfl (by simp; omega)) (rfl)⟩, ?_⟩
 first | refine ⟨_, .inr ⟨rfl, _, rfl, .inr ⟨rfl, rfl, .inl rfl, rfl, rfl⟩, loc_qe (r' := str (vtextF (vI x.Id) ++ [32] ++ vtextF x.N ++ [32])) (q_sbin_add rfl rfl (by simp; omega)) (rfl)⟩, ?_⟩
 first | refine ⟨_, .inr ⟨rfl, _, rfl, .inr ⟨rfl, rfl, .inr rfl, rfl, rfl⟩, loc_q (q_fadr_ptr rfl)⟩, ?_⟩
 first | refine ⟨_, .inr ⟨rfl, _, rfl, .inr ⟨rfl, rfl, .inr rfl, rfl, rfl⟩, loc_q (q_ldN rfl rfl rfl)⟩, ?_⟩
 first | refine ⟨_, .inr ⟨rfl, _, rfl, .inr ⟨rfl, rfl, .inl rfl, rfl, rfl⟩, loc_call (fun i => 15 + 200 * i) false rfl (c_valueText (v := x.Name) (by first | assumption | omega | (simp; done) | (simp; omega))) hP (.inr ⟨rfl, rfl, rfl⟩) rfl rfl (fun h => by cases h)⟩, ?_⟩ | refine ⟨_, .inr ⟨rfl, _, rfl, .inr ⟨rfl, rfl, .inl rfl, rfl, rfl⟩, loc_call (fun i => 15 + 200 * i) true rfl (c_valueText (v := x.Name) (by first | assumption | omega | (simp; done) | (simp; omega))) hP (.inl ⟨rfl, (by repeat (first | exact lal_id _ rfl | exact LAL.nil | refine LAL.cons ?_ ?_ | exact la_id _ rfl | exact LA.lend (lend_whole rfl (by first | (simp; done) | (rw [List.length_map]; rfl))) | refine LA.agg ?_ | refine LA.fn ?_ | refine LA.lend ?_ | exact Lend.d _ | exact Lend.zs _ | exact lend_whole rfl (by first | (simp; done) | (rw [List.length_map]; rfl)) | refine Lend.ptr rfl ?_ | refine Lend.fn ?_ | exact LendL.nil | refine LendL.cons ?_ ?_))⟩) rfl rfl (fun _ => ⟨rfl, noisl_of (by repeat (first | exact trivial | refine ⟨noisl_map (fun _ => rfl), ?_⟩ | refine ⟨?_, ?_⟩))⟩)⟩, ?_⟩
 refine ⟨rfl, ?_⟩
 refine ax_qe (r' := str (vtextF (vI x.Id) ++ [32] ++ vtextF x.N ++ [32] ++ vtextF x.Name)) (q_sbin_add rfl rfl (by simp; omega)) (rfl) ?_
 refine ax_q (q_mov rfl) ?_
 refine ax_nil ?_
 refine cx_keep rfl rfl ?_
 refine cx_ret (ret0 rfl rfl ?_)
 exact ⟨rfl, rfl⟩


/- loop.example/g00332/impl.stmtText -/
def k_c_stmtText : XCode :=
 .seq (.ops [.op (some 1) (.box (.t 0)),
   .op (some 2) (.mov (.k (.str [])))])
 (.keep [1] (.seq (.ops [.op (some 5) (.fadr (.t 1) 1),
   .op (some 6) (.load1 (.t 5)),
   .call (some 7) 50 [.t 6],
   .call (some 8) 49 [.t 7],
   .op (some 3) (.mov (.t 8)),
   .op (some 4) (.mov (.k (.str [])))])
 (.keep [1, 3] (.seq (.seq (.ops [.op (some 9) (.fadr (.t 1) 0),
   .op (some 10) (.load1 (.t 9))])
  (.keep [1, 3, 10] (.block 0 (.seq (.ops [.op (some 14) (.bin .eql (.t 10) (.k (.int .i64 1))),
    .op (some 13) (.mov (.t 14))])
  (.keep [1, 3, 10, 13] (.cond (.t 13)
   (.ops [.op (some 15) (.mov (.t 3)),
    .op (some 16) (.bin .add (.k (.str [115, 101, 108, 101, 99, 116, 32])) (.t 15)),
    .op (some 4) (.mov (.t 16))])
   (.seq (.ops [.op (some 18) (.bin .eql (.t 10) (.k (.int .i64 2))),
     .op (some 17) (.mov (.t 18))])
   (.keep [1, 3, 10, 17] (.cond (.t 17)
    (.seq (.ops [.op (some 19) (.mov (.t 3)),
      .op (some 20) (.bin .add (.k (.str [105, 110, 115, 101, 114, 116, 32])) (.t 19)),
      .op (some 21) (.bin .add (.t 20) (.k (.str [32]))),
      .op (some 22) (.fadr (.t 1) 2),
      .op (some 23) (.loadN 7 (.t 22)),
      .call (some 24) 51 [.t 23],
      .op (some 25) (.bin .add (.t 21) (.t 24)),
      .op (some 2) (.mov (.t 25))])
    (.keep [2] (.ret)))
    (.seq (.ops [.op (some 27) (.bin .eql (.t 10) (.k (.int .i64 3))),
      .op (some 26) (.mov (.t 27))])
    (.keep [1, 3, 26] (.cond (.t 26)
     (.draw [.op (some 28) (.mov (.t 3)),
      .op (some 29) (.bin .add (.k (.str [117, 112, 100, 97, 116, 101, 32])) (.t 28)),
      .op (some 30) (.bin .add (.t 29) (.k (.str [32, 115, 101, 116, 32]))),
      .op (some 31) (.fadr (.t 1) 9),
      .op (some 32) (.load1 (.t 31)),
      .op (some 33) (.iadrA 1 3 (.g 0) (.t 32)),
      .op (some 34) (.load1 (.t 33)),
      .op (some 35) (.bin .add (.t 30) (.t 34)),
      .op (some 36) (.bin .add (.t 35) (.k (.str [32, 61, 32]))),
      .op (some 37) (.fadr (.t 1) 10),
      .op (some 38) (.loadN 1 (.t 37)),
      .call (some 39) 20 [.t 38],
      .op (some 40) (.bin .add (.t 36) (.t 39)),
      .op (some 4) (.mov (.t 40))])
     (.ops [.op (some 11) (.mov (.t 3)),
      .op (some 12) (.bin .add (.k (.str [100, 101, 108, 101, 116, 101, 32])) (.t 11)),
      .op (some 4) (.mov (.t 12))])))))))))))))
 (.keep [1, 4] (.seq (.seq (.ops [.op (some 41) (.fadr (.t 1) 11),
   .op (some 42) (.loadN 1 (.t 41)),
   .call (some 43) 45 [.t 42],
   .op (some 44) (.not (.t 43))])
  (.keep [1, 4, 44] (.cond (.t 44)
  (.ops [.op (some 45) (.mov (.t 4)),
    .op (some 46) (.fadr (.t 1) 11),
    .op (some 47) (.loadN 1 (.t 46)),
    .call (some 48) 20 [.t 47],
    .op (some 49) (.bin .add (.k (.str [32, 119, 104, 101, 114, 101, 32])) (.t 48)),
    .op (some 50) (.bin .add (.t 45) (.t 49)),
    .op (some 4) (.mov (.t 50))])
  (.skip))))
 (.keep [1, 4] (.seq (.seq (.ops [.op (some 51) (.fadr (.t 1) 12),
   .op (some 52) (.load1 (.t 51)),
   .op (some 53) (.bin .neq (.t 52) (.k (.int .i64 0))),
   .op (some 54) (.mov (.t 53)),
   .andor 57 false 3 54 [.op (some 55) (.fadr (.t 1) 13), .op (some 56) (.load1 (.t 55))] (.t 56)])
  (.keep [1, 4, 57] (.cond (.t 57)
  (.ops [.op (some 58) (.mov (.t 4)),
    .op (some 59) (.fadr (.t 1) 12),
    .op (some 60) (.load1 (.t 59)),
    .op (some 61) (.iadrA 1 3 (.g 0) (.t 60)),
    .op (some 62) (.load1 (.t 61)),
    .op (some 63) (.bin .add (.k (.str [32, 111, 114, 100, 101, 114, 32])) (.t 62)),
    .op (some 64) (.bin .add (.t 58) (.t 63)),
    .op (some 4) (.mov (.t 64))])
  (.skip))))
 (.keep [1, 4] (.seq (.seq (.ops [.op (some 65) (.fadr (.t 1) 13),
   .op (some 66) (.load1 (.t 65))])
  (.keep [4, 66] (.cond (.t 66)
  (.ops [.op (some 67) (.mov (.t 4)),
    .op (some 68) (.bin .add (.t 67) (.k (.str [32, 100, 101, 115, 99]))),
    .op (some 4) (.mov (.t 68))])
  (.skip))))
 (.keep [4] (.seq (.ops [.op (some 69) (.mov (.t 4)),
   .op (some 2) (.mov (.t 69))])
 (.keep [2] (.ret))))))))))))))
theorem k_c_stmtText_fits : fitsF Tryd.prog 27 ⟨70, k_c_stmtText, [.t 2]⟩ = true := by kernel_rfl
set_option maxHeartbeats 8000000 in
theorem c_stmtText {s : GStmt} (hs : stmtOK s = true) : Con Tryd.prog noMv 27 [s.av] [] (fun r h => r = str (stT s) ∧ h = []) := by
 refine con_of2 k_c_stmtText_fits rfl fun C hP hmv => ?_
 unfold k_c_stmtText
 obtain ⟨hk, htb, hwh, hk2, hk3, hor, hk1, hzr, hnn⟩ := stOK_p hs
 have hlt := itoa_len (dgM_small (n := s.Table) (by omega))
 have hlo := colT_len hor
 have hls := selT_len hk
 have hva : valueOK (vI s.Table) = true := vOK_int (by omega)
 have hvl := vtext_le hva
 refine cx_seq ?_
 refine cx_ops ?_
 refine ax_e (e_box rfl rfl (by decide) rfl rfl rfl) ?_
 refine ax_q (q_mov rfl) ?_
 refine ax_nil ?_
 refine cx_keep rfl rfl ?_
 refine cx_seq ?_
 refine cx_ops ?_
 refine ax_q (q_fadr_ptr rfl) ?_
 refine ax_q (q_load1_ptr rfl rfl rfl) ?_
 first | refine ax_call rfl (vc_pure0 (c_numberValue (n := s.Table) ) hP rfl rfl ?_) | refine ax_call rfl (vc_lend0 (c_numberValue (n := s.Table) ) hP (by repeat (first | exact lal_id _ rfl | exact LAL.nil | refine LAL.cons ?_ ?_ | exact la_id _ rfl | exact LA.lend (lend_whole rfl (by first | (simp; done) | (rw [List.length_map]; rfl))) | refine LA.agg ?_ | refine LA.fn ?_ | refine LA.lend ?_ | exact Lend.d _ | exact Lend.zs _ | exact lend_whole rfl (by first | (simp; done) | (rw [List.length_map]; rfl)) | refine Lend.ptr rfl ?_ | refine Lend.fn ?_ | exact LendL.nil | refine LendL.cons ?_ ?_)) rfl rfl ?_)
 first | refine ax_call rfl (vc_pure0 (c_valueText (v := vI s.Table) ?_) hP rfl rfl ?_) | refine ax_call rfl (vc_lend0 (c_valueText (v := vI s.Table) ?_) hP (by repeat (first | exact lal_id _ rfl | exact LAL.nil | refine LAL.cons ?_ ?_ | exact la_id _ rfl | exact LA.lend (lend_whole rfl (by first | (simp; done) | (rw [List.length_map]; rfl))) | refine LA.agg ?_ | refine LA.fn ?_ | refine LA.lend ?_ | exact Lend.d _ | exact Lend.zs _ | exact lend_whole rfl (by first | (simp; done) | (rw [List.length_map]; rfl)) | refine Lend.ptr rfl ?_ | refine Lend.fn ?_ | exact LendL.nil | refine LendL.cons ?_ ?_)) rfl rfl ?_)
 ·
  first | assumption | omega | (simp; done) | (simp; omega)
 refine ax_q (q_mov rfl) ?_
 refine ax_q (q_mov rfl) ?_
 refine ax_nil ?_
 refine cx_keep rfl rfl ?_
 refine cx_seq ?_
 refine cx_seq ?_
 refine cx_ops ?_
 refine ax_q (q_fadr_ptr rfl) ?_
 refine ax_q (q_load1_ptr rfl rfl rfl) ?_
 refine ax_nil ?_
 refine cx_keep rfl rfl ?_
 refine cx_block ?_
 refine cx_seq ?_
 refine cx_ops ?_
 refine ax_q (q_ibin rfl rfl rfl) ?_
 refine ax_q (q_mov rfl) ?_
 refine ax_nil ?_
 refine cx_keep rfl rfl ?_
 refine cx_cond rfl (fun h0 => ?_) (fun h0 => ?_)
 ·
  have h0 := dT h0
  have ea := stT_1 h0
  refine cx_ops ?_
  refine ax_q (q_mov rfl) ?_
  refine ax_q (q_sbin_add rfl rfl (by simp only [List.length_append, List.length_cons, List.length_nil]; omega)) ?_
  refine ax_q (q_mov rfl) ?_
  refine ax_nil ?_
  refine cx_keep rfl rfl ?_
  refine cx_seq ?_
  refine cx_seq ?_
  refine cx_ops ?_
  refine ax_q (q_fadr_ptr rfl) ?_
  refine ax_q (q_ldN rfl rfl rfl) ?_
  first | refine ax_call rfl (vc_pure0 (c_hasNone (e := s.Where) ) hP rfl rfl ?_) | refine ax_call rfl (vc_lend0 (c_hasNone (e := s.Where) ) hP (by repeat (first | exact lal_id _ rfl | exact LAL.nil | refine LAL.cons ?_ ?_ | exact la_id _ rfl | exact LA.lend (lend_whole rfl (by first | (simp; done) | (rw [List.length_map]; rfl))) | refine LA.agg ?_ | refine LA.fn ?_ | refine LA.lend ?_ | exact Lend.d _ | exact Lend.zs _ | exact lend_whole rfl (by first | (simp; done) | (rw [List.length_map]; rfl)) | refine Lend.ptr rfl ?_ | refine Lend.fn ?_ | exact LendL.nil | refine LendL.cons ?_ ?_)) rfl rfl ?_)
  refine ax_q (q_not rfl) ?_
  refine ax_nil ?_
  refine cx_keep rfl rfl ?_
  refine cx_cond rfl (fun h3 => ?_) (fun h3 => ?_)
  ·
   have h3 := bT h3
   have hwe := hwh h3
   have hwl : (etF s.Where.Nodes (s.Where.Nodes.length + 1) ((s.Where.Nodes.length : Int) - 1)).length ≤ 100000000000000 := exT_le hwe
   have hwl2 := exT_le hwe
   obtain ⟨hz0, hz1, hz2, hz3, _⟩ := comp_hyps hwe
   have hn40 := exprOK_n hwe
   have ew := fun a => sxW_t (a := a) h3
   refine cx_ops ?_
   refine ax_q (q_mov rfl) ?_
   refine ax_q (q_fadr_ptr rfl) ?_
   refine ax_q (q_ldN rfl rfl rfl) ?_
   first | refine ax_call rfl (vc_pure0 (c_exprText (e := s.Where) ?_) hP rfl rfl ?_) | refine ax_call rfl (vc_lend0 (c_exprText (e := s.Where) ?_) hP (by repeat (first | exact lal_id _ rfl | exact LAL.nil | refine LAL.cons ?_ ?_ | exact la_id _ rfl | exact LA.lend (lend_whole rfl (by first | (simp; done) | (rw [List.length_map]; rfl))) | refine LA.agg ?_ | refine LA.fn ?_ | refine LA.lend ?_ | exact Lend.d _ | exact Lend.zs _ | exact lend_whole rfl (by first | (simp; done) | (rw [List.length_map]; rfl)) | refine Lend.ptr rfl ?_ | refine Lend.fn ?_ | exact LendL.nil | refine LendL.cons ?_ ?_)) rfl rfl ?_)
   ·
    first | assumption | omega | (simp; done) | (simp; omega)
   refine ax_q (q_sbin_add rfl rfl (by simp only [List.length_append, List.length_cons, List.length_nil]; omega)) ?_
   refine ax_q (q_sbin_add rfl rfl (by simp only [List.length_append, List.length_cons, List.length_nil]; omega)) ?_
   refine ax_q (q_mov rfl) ?_
   refine ax_nil ?_
   refine cx_keep rfl rfl ?_
   refine cx_seq ?_
   refine cx_seq ?_
   refine cx_ops ?_
   refine ax_q (q_fadr_ptr rfl) ?_
   refine ax_q (q_load1_ptr rfl rfl rfl) ?_
   refine ax_q (q_ibin rfl rfl rfl) ?_
   refine ax_q (q_mov rfl) ?_
   apply ax_or rfl rfl
   ·
    intro g
    have g := nF g
    refine ax_q (q_fadr_ptr rfl) ?_
    refine ax_q (q_load1_ptr rfl rfl rfl) ?_
    exact ax_nil ⟨rfl, by repeat (first | exact trivial | refine ⟨rfl, ?_⟩ | refine ⟨?_, ?_⟩)⟩
   refine ax_nil ?_
   refine cx_keep rfl rfl ?_
   refine cx_cond rfl (fun h4 => ?_) (fun h4 => ?_)
   ·
    have h4 := (fun h => (or_T h).imp nT id) h4
    have eo := fun a => sxO_t (a := a) h4
    refine cx_ops ?_
    refine ax_q (q_mov rfl) ?_
    refine ax_q (q_fadr_ptr rfl) ?_
    refine ax_q (q_load1_ptr rfl rfl rfl) ?_
    refine ax_qe (r' := .d (.ip (.str (colT s.Order) :: ((colsL.drop ((s.Order).toNat + 1)).map D.str)))) (q_iadrG (n := s.Order) colsL gtab_cols (by rw [hP]; kernel_rfl) rfl rfl (by omega) (by omega)) (by rw [col_drop (by omega)]) ?_
    first | refine ax_q (q_load1_ptr rfl rfl rfl) ?_ | refine ax_q (q_load1_ip rfl) ?_ | refine ax_q (q_load1_rptr rfl rfl rfl rfl) ?_ | refine ax_q (q_load1_rptr rfl rfl (by assumption) rfl) ?_ | refine ax_q (q_load1_rptr rfl rfl (mapAt (by first | assumption | omega)) rfl) ?_
    refine ax_q (q_sbin_add rfl rfl (by simp only [List.length_append, List.length_cons, List.length_nil]; omega)) ?_
    refine ax_q (q_sbin_add rfl rfl (by simp only [List.length_append, List.length_cons, List.length_nil]; omega)) ?_
    refine ax_q (q_mov rfl) ?_
    refine ax_nil ?_
    refine cx_keep rfl rfl ?_
    refine cx_seq ?_
    refine cx_seq ?_
    refine cx_ops ?_
    refine ax_q (q_fadr_ptr rfl) ?_
    refine ax_q (q_load1_ptr rfl rfl rfl) ?_
    refine ax_nil ?_
    refine cx_keep rfl rfl ?_
    refine cx_cond rfl (fun h5 => ?_) (fun h5 => ?_)
    ·
     skip
     have ed := fun a => sxD_t (a := a) h5
     refine cx_ops ?_
     refine ax_q (q_mov rfl) ?_
     refine ax_q (q_sbin_add rfl rfl (by simp only [List.length_append, List.length_cons, List.length_nil]; omega)) ?_
     refine ax_q (q_mov rfl) ?_
     refine ax_nil ?_
     refine cx_keep rfl rfl ?_
     refine cx_seq ?_
     refine cx_ops ?_
     refine ax_q (q_mov rfl) ?_
     refine ax_q (q_mov rfl) ?_
     refine ax_nil ?_
     refine cx_keep rfl rfl ?_
     refine cx_ret (ret0 rfl rfl ?_)
     exact ⟨by rw [ea, ew, eo, ed]; rfl, rfl⟩
    ·
     skip
     have ed := fun a => sxD_f (a := a) h5
     refine cx_skip ?_
     refine cx_keep rfl rfl ?_
     refine cx_seq ?_
     refine cx_ops ?_
     refine ax_q (q_mov rfl) ?_
     refine ax_q (q_mov rfl) ?_
     refine ax_nil ?_
     refine cx_keep rfl rfl ?_
     refine cx_ret (ret0 rfl rfl ?_)
     exact ⟨by rw [ea, ew, eo, ed]; rfl, rfl⟩
   ·
    have h4 := (fun h => And.intro (nF (or_F h).1) (id (or_F h).2)) h4
    have eo := fun a => sxO_f (a := a) h4
    refine cx_skip ?_
    refine cx_keep rfl rfl ?_
    refine cx_seq ?_
    refine cx_seq ?_
    refine cx_ops ?_
    refine ax_q (q_fadr_ptr rfl) ?_
    refine ax_q (q_load1_ptr rfl rfl rfl) ?_
    refine ax_nil ?_
    refine cx_keep rfl rfl ?_
    refine cx_cond rfl (fun h5 => ?_) (fun h5 => ?_)
    ·
     skip
     have ed := fun a => sxD_t (a := a) h5
     refine cx_ops ?_
     refine ax_q (q_mov rfl) ?_
     refine ax_q (q_sbin_add rfl rfl (by simp only [List.length_append, List.length_cons, List.length_nil]; omega)) ?_
     refine ax_q (q_mov rfl) ?_
     refine ax_nil ?_
     refine cx_keep rfl rfl ?_
     refine cx_seq ?_
     refine cx_ops ?_
     refine ax_q (q_mov rfl) ?_
     refine ax_q (q_mov rfl) ?_
     refine ax_nil ?_
     refine cx_keep rfl rfl ?_
     refine cx_ret (ret0 rfl rfl ?_)
     exact ⟨by rw [ea, ew, eo, ed]; rfl, rfl⟩
    ·
     skip
     have ed := fun a => sxD_f (a := a) h5
     refine cx_skip ?_
     refine cx_keep rfl rfl ?_
     refine cx_seq ?_
     refine cx_ops ?_
     refine ax_q (q_mov rfl) ?_
     refine ax_q (q_mov rfl) ?_
     refine ax_nil ?_
     refine cx_keep rfl rfl ?_
     refine cx_ret (ret0 rfl rfl ?_)
     exact ⟨by rw [ea, ew, eo, ed]; rfl, rfl⟩
  ·
   have h3 := bF h3
   have ew := fun a => sxW_f (a := a) h3
   refine cx_skip ?_
   refine cx_keep rfl rfl ?_
   refine cx_seq ?_
   refine cx_seq ?_
   refine cx_ops ?_
   refine ax_q (q_fadr_ptr rfl) ?_
   refine ax_q (q_load1_ptr rfl rfl rfl) ?_
   refine ax_q (q_ibin rfl rfl rfl) ?_
   refine ax_q (q_mov rfl) ?_
   apply ax_or rfl rfl
   ·
    intro g
    have g := nF g
    refine ax_q (q_fadr_ptr rfl) ?_
    refine ax_q (q_load1_ptr rfl rfl rfl) ?_
    exact ax_nil ⟨rfl, by repeat (first | exact trivial | refine ⟨rfl, ?_⟩ | refine ⟨?_, ?_⟩)⟩
   refine ax_nil ?_
   refine cx_keep rfl rfl ?_
   refine cx_cond rfl (fun h4 => ?_) (fun h4 => ?_)
   ·
    have h4 := (fun h => (or_T h).imp nT id) h4
    have eo := fun a => sxO_t (a := a) h4
    refine cx_ops ?_
    refine ax_q (q_mov rfl) ?_
    refine ax_q (q_fadr_ptr rfl) ?_
    refine ax_q (q_load1_ptr rfl rfl rfl) ?_
    refine ax_qe (r' := .d (.ip (.str (colT s.Order) :: ((colsL.drop ((s.Order).toNat + 1)).map D.str)))) (q_iadrG (n := s.Order) colsL gtab_cols (by rw [hP]; kernel_rfl) rfl rfl (by omega) (by omega)) (by rw [col_drop (by omega)]) ?_
    first | refine ax_q (q_load1_ptr rfl rfl rfl) ?_ | refine ax_q (q_load1_ip rfl) ?_ | refine ax_q (q_load1_rptr rfl rfl rfl rfl) ?_ | refine ax_q (q_load1_rptr rfl rfl (by assumption) rfl) ?_ | refine ax_q (q_load1_rptr rfl rfl (mapAt (by first | assumption | omega)) rfl) ?_
    refine ax_q (q_sbin_add rfl rfl (by simp only [List.length_append, List.length_cons, List.length_nil]; omega)) ?_
    refine ax_q (q_sbin_add rfl rfl (by simp only [List.length_append, List.length_cons, List.length_nil]; omega)) ?_
    refine ax_q (q_mov rfl) ?_
    refine ax_nil ?_
    refine cx_keep rfl rfl ?_
    refine cx_seq ?_
    refine cx_seq ?_
    refine cx_ops ?_
    refine ax_q (q_fadr_ptr rfl) ?_
    refine ax_q (q_load1_ptr rfl rfl rfl) ?_
    refine ax_nil ?_
    refine cx_keep rfl rfl ?_
    refine cx_cond rfl (fun h5 => ?_) (fun h5 => ?_)
    ·
     skip
     have ed := fun a => sxD_t (a := a) h5
     refine cx_ops ?_
     refine ax_q (q_mov rfl) ?_
     refine ax_q (q_sbin_add rfl rfl (by simp only [List.length_append, List.length_cons, List.length_nil]; omega)) ?_
     refine ax_q (q_mov rfl) ?_
     refine ax_nil ?_
     refine cx_keep rfl rfl ?_
     refine cx_seq ?_
     refine cx_ops ?_
     refine ax_q (q_mov rfl) ?_
     refine ax_q (q_mov rfl) ?_
     refine ax_nil ?_
     refine cx_keep rfl rfl ?_
     refine cx_ret (ret0 rfl rfl ?_)
     exact ⟨by rw [ea, ew, eo, ed]; rfl, rfl⟩
    ·
     skip
     have ed := fun a => sxD_f (a := a) h5
     refine cx_skip ?_
     refine cx_keep rfl rfl ?_
     refine cx_seq ?_
     refine cx_ops ?_
     refine ax_q (q_mov rfl) ?_
     refine ax_q (q_mov rfl) ?_
     refine ax_nil ?_
     refine cx_keep rfl rfl ?_
     refine cx_ret (ret0 rfl rfl ?_)
     exact ⟨by rw [ea, ew, eo, ed]; rfl, rfl⟩
   ·
    have h4 := (fun h => And.intro (nF (or_F h).1) (id (or_F h).2)) h4
    have eo := fun a => sxO_f (a := a) h4
    refine cx_skip ?_
    refine cx_keep rfl rfl ?_
    refine cx_seq ?_
    refine cx_seq ?_
    refine cx_ops ?_
    refine ax_q (q_fadr_ptr rfl) ?_
    refine ax_q (q_load1_ptr rfl rfl rfl) ?_
    refine ax_nil ?_
    refine cx_keep rfl rfl ?_
    refine cx_cond rfl (fun h5 => ?_) (fun h5 => ?_)
    ·
     skip
     have ed := fun a => sxD_t (a := a) h5
     refine cx_ops ?_
     refine ax_q (q_mov rfl) ?_
     refine ax_q (q_sbin_add rfl rfl (by simp only [List.length_append, List.length_cons, List.length_nil]; omega)) ?_
     refine ax_q (q_mov rfl) ?_
     refine ax_nil ?_
     refine cx_keep rfl rfl ?_
     refine cx_seq ?_
     refine cx_ops ?_
     refine ax_q (q_mov rfl) ?_
     refine ax_q (q_mov rfl) ?_
     refine ax_nil ?_
     refine cx_keep rfl rfl ?_
     refine cx_ret (ret0 rfl rfl ?_)
     exact ⟨by rw [ea, ew, eo, ed]; rfl, rfl⟩
    ·
     skip
     have ed := fun a => sxD_f (a := a) h5
     refine cx_skip ?_
     refine cx_keep rfl rfl ?_
     refine cx_seq ?_
     refine cx_ops ?_
     refine ax_q (q_mov rfl) ?_
     refine ax_q (q_mov rfl) ?_
     refine ax_nil ?_
     refine cx_keep rfl rfl ?_
     refine cx_ret (ret0 rfl rfl ?_)
     exact ⟨by rw [ea, ew, eo, ed]; rfl, rfl⟩
 ·
  have h0 := dF h0
  refine cx_seq ?_
  refine cx_ops ?_
  refine ax_q (q_ibin rfl rfl rfl) ?_
  refine ax_q (q_mov rfl) ?_
  refine ax_nil ?_
  refine cx_keep rfl rfl ?_
  refine cx_cond rfl (fun h1 => ?_) (fun h1 => ?_)
  ·
   have h1 := dT h1
   obtain ⟨hro, _⟩ := hk2 h1
   obtain ⟨hr1, hr2, hr3⟩ := rowOK_p hro
   have hdi : dgM 11 s.Row.Id := dgM_small (by omega)
   have hli := itoa_len hdi
   have t2 := vtext_le hr2
   have t3 := vtext_le hr3
   have hrl := rtext_le hro
   refine cx_seq ?_
   refine cx_ops ?_
   refine ax_q (q_mov rfl) ?_
   refine ax_q (q_sbin_add rfl rfl (by simp only [List.length_append, List.length_cons, List.length_nil]; omega)) ?_
   refine ax_q (q_sbin_add rfl rfl (by simp only [List.length_append, List.length_cons, List.length_nil]; omega)) ?_
   refine ax_q (q_fadr_ptr rfl) ?_
   refine ax_q (q_ldN rfl rfl rfl) ?_
   first | refine ax_call rfl (vc_pure0 (c_rowText (x := s.Row) ?_) hP rfl rfl ?_) | refine ax_call rfl (vc_lend0 (c_rowText (x := s.Row) ?_) hP (by repeat (first | exact lal_id _ rfl | exact LAL.nil | refine LAL.cons ?_ ?_ | exact la_id _ rfl | exact LA.lend (lend_whole rfl (by first | (simp; done) | (rw [List.length_map]; rfl))) | refine LA.agg ?_ | refine LA.fn ?_ | refine LA.lend ?_ | exact Lend.d _ | exact Lend.zs _ | exact lend_whole rfl (by first | (simp; done) | (rw [List.length_map]; rfl)) | refine Lend.ptr rfl ?_ | refine Lend.fn ?_ | exact LendL.nil | refine LendL.cons ?_ ?_)) rfl rfl ?_)
   ·
    first | assumption | omega | (simp; done) | (simp; omega)
   refine ax_q (q_sbin_add rfl rfl (by simp only [List.length_append, List.length_cons, List.length_nil]; omega)) ?_
   refine ax_q (q_mov rfl) ?_
   refine ax_nil ?_
   refine cx_keep rfl rfl ?_
   refine cx_ret (ret0 rfl rfl ?_)
   exact ⟨by rw [stT_2 hs h1]; rfl, rfl⟩
  ·
   have h1 := dF h1
   refine cx_seq ?_
   refine cx_ops ?_
   refine ax_q (q_ibin rfl rfl rfl) ?_
   refine ax_q (q_mov rfl) ?_
   refine ax_nil ?_
   refine cx_keep rfl rfl ?_
   refine cx_cond rfl (fun h2 => ?_) (fun h2 => ?_)
   ·
    have h2 := dT h2
    obtain ⟨hcs, hse⟩ := hk3 h2
    have hsl : (etF s.Set.Nodes (s.Set.Nodes.length + 1) ((s.Set.Nodes.length : Int) - 1)).length ≤ 100000000000000 := exT_le hse
    have hsl2 := exT_le hse
    obtain ⟨hy0, hy1, hy2, hy3, _⟩ := comp_hyps hse
    have hn41 := exprOK_n hse
    have hcl := colT_len (c := s.Column) (by omega)
    have ea := stT_3 h2
    refine cx_draw ?_
    refine ax_q (q_mov rfl) ?_
    refine ax_q (q_sbin_add rfl rfl (by simp only [List.length_append, List.length_cons, List.length_nil]; omega)) ?_
    refine ax_q (q_sbin_add rfl rfl (by simp only [List.length_append, List.length_cons, List.length_nil]; omega)) ?_
    refine ax_q (q_fadr_ptr rfl) ?_
    refine ax_q (q_load1_ptr rfl rfl rfl) ?_
    refine ax_qe (r' := .d (.ip (.str (colT s.Column) :: ((colsL.drop ((s.Column).toNat + 1)).map D.str)))) (q_iadrG (n := s.Column) colsL gtab_cols (by rw [hP]; kernel_rfl) rfl rfl (by omega) (by omega)) (by rw [col_drop (by omega)]) ?_
    first | refine ax_q (q_load1_ptr rfl rfl rfl) ?_ | refine ax_q (q_load1_ip rfl) ?_ | refine ax_q (q_load1_rptr rfl rfl rfl rfl) ?_ | refine ax_q (q_load1_rptr rfl rfl (by assumption) rfl) ?_ | refine ax_q (q_load1_rptr rfl rfl (mapAt (by first | assumption | omega)) rfl) ?_
    refine ax_q (q_sbin_add rfl rfl (by simp only [List.length_append, List.length_cons, List.length_nil]; omega)) ?_
    refine ax_q (q_sbin_add rfl rfl (by simp only [List.length_append, List.length_cons, List.length_nil]; omega)) ?_
    refine ax_q (q_fadr_ptr rfl) ?_
    refine ax_q (q_ldN rfl rfl rfl) ?_
    first | refine ax_callq rfl (c_exprText (e := s.Set) ?_) hP (lal_id _ rfl) rfl ?_ | refine ax_callq rfl (c_exprText (e := s.Set) ?_) hP (by repeat (first | exact lal_id _ rfl | exact LAL.nil | refine LAL.cons ?_ ?_ | exact la_id _ rfl | exact LA.lend (lend_whole rfl (by first | (simp; done) | (rw [List.length_map]; rfl))) | refine LA.agg ?_ | refine LA.fn ?_ | refine LA.lend ?_ | exact Lend.d _ | exact Lend.zs _ | exact lend_whole rfl (by first | (simp; done) | (rw [List.length_map]; rfl)) | refine Lend.ptr rfl ?_ | refine Lend.fn ?_ | exact LendL.nil | refine LendL.cons ?_ ?_)) rfl ?_
    ·
     first | assumption | omega | (simp; done) | (simp; omega)
    refine ax_q (q_sbin_add rfl rfl (by simp only [List.length_append, List.length_cons, List.length_nil]; omega)) ?_
    refine ax_q (q_mov rfl) ?_
    refine ax_nil ?_
    refine cx_keep rfl rfl ?_
    refine cx_seq ?_
    refine cx_seq ?_
    refine cx_ops ?_
    refine ax_q (q_fadr_ptr rfl) ?_
    refine ax_q (q_ldN rfl rfl rfl) ?_
    first | refine ax_call rfl (vc_pure0 (c_hasNone (e := s.Where) ) hP rfl rfl ?_) | refine ax_call rfl (vc_lend0 (c_hasNone (e := s.Where) ) hP (by repeat (first | exact lal_id _ rfl | exact LAL.nil | refine LAL.cons ?_ ?_ | exact la_id _ rfl | exact LA.lend (lend_whole rfl (by first | (simp; done) | (rw [List.length_map]; rfl))) | refine LA.agg ?_ | refine LA.fn ?_ | refine LA.lend ?_ | exact Lend.d _ | exact Lend.zs _ | exact lend_whole rfl (by first | (simp; done) | (rw [List.length_map]; rfl)) | refine Lend.ptr rfl ?_ | refine Lend.fn ?_ | exact LendL.nil | refine LendL.cons ?_ ?_)) rfl rfl ?_)
    refine ax_q (q_not rfl) ?_
    refine ax_nil ?_
    refine cx_keep rfl rfl ?_
    refine cx_cond rfl (fun h3 => ?_) (fun h3 => ?_)
    ·
     have h3 := bT h3
     have hwe := hwh h3
     have hwl : (etF s.Where.Nodes (s.Where.Nodes.length + 1) ((s.Where.Nodes.length : Int) - 1)).length ≤ 100000000000000 := exT_le hwe
     have hwl2 := exT_le hwe
     obtain ⟨hz0, hz1, hz2, hz3, _⟩ := comp_hyps hwe
     have hn40 := exprOK_n hwe
     have ew := fun a => sxW_t (a := a) h3
     refine cx_ops ?_
     refine ax_q (q_mov rfl) ?_
     refine ax_q (q_fadr_ptr rfl) ?_
     refine ax_q (q_ldN rfl rfl rfl) ?_
     first | refine ax_call rfl (vc_pure0 (c_exprText (e := s.Where) ?_) hP rfl rfl ?_) | refine ax_call rfl (vc_lend0 (c_exprText (e := s.Where) ?_) hP (by repeat (first | exact lal_id _ rfl | exact LAL.nil | refine LAL.cons ?_ ?_ | exact la_id _ rfl | exact LA.lend (lend_whole rfl (by first | (simp; done) | (rw [List.length_map]; rfl))) | refine LA.agg ?_ | refine LA.fn ?_ | refine LA.lend ?_ | exact Lend.d _ | exact Lend.zs _ | exact lend_whole rfl (by first | (simp; done) | (rw [List.length_map]; rfl)) | refine Lend.ptr rfl ?_ | refine Lend.fn ?_ | exact LendL.nil | refine LendL.cons ?_ ?_)) rfl rfl ?_)
     ·
      first | assumption | omega | (simp; done) | (simp; omega)
     refine ax_q (q_sbin_add rfl rfl (by simp only [List.length_append, List.length_cons, List.length_nil]; omega)) ?_
     refine ax_q (q_sbin_add rfl rfl (by simp only [List.length_append, List.length_cons, List.length_nil]; omega)) ?_
     refine ax_q (q_mov rfl) ?_
     refine ax_nil ?_
     refine cx_keep rfl rfl ?_
     refine cx_seq ?_
     refine cx_seq ?_
     refine cx_ops ?_
     refine ax_q (q_fadr_ptr rfl) ?_
     refine ax_q (q_load1_ptr rfl rfl rfl) ?_
     refine ax_q (q_ibin rfl rfl rfl) ?_
     refine ax_q (q_mov rfl) ?_
     apply ax_or rfl rfl
     ·
      intro g
      have g := nF g
      refine ax_q (q_fadr_ptr rfl) ?_
      refine ax_q (q_load1_ptr rfl rfl rfl) ?_
      exact ax_nil ⟨rfl, by repeat (first | exact trivial | refine ⟨rfl, ?_⟩ | refine ⟨?_, ?_⟩)⟩
     refine ax_nil ?_
     refine cx_keep rfl rfl ?_
     refine cx_cond rfl (fun h4 => ?_) (fun h4 => ?_)
     ·
      have h4 := (fun h => (or_T h).imp nT id) h4
      have eo := fun a => sxO_t (a := a) h4
      refine cx_ops ?_
      refine ax_q (q_mov rfl) ?_
      refine ax_q (q_fadr_ptr rfl) ?_
      refine ax_q (q_load1_ptr rfl rfl rfl) ?_
      refine ax_qe (r' := .d (.ip (.str (colT s.Order) :: ((colsL.drop ((s.Order).toNat + 1)).map D.str)))) (q_iadrG (n := s.Order) colsL gtab_cols (by rw [hP]; kernel_rfl) rfl rfl (by omega) (by omega)) (by rw [col_drop (by omega)]) ?_
      first | refine ax_q (q_load1_ptr rfl rfl rfl) ?_ | refine ax_q (q_load1_ip rfl) ?_ | refine ax_q (q_load1_rptr rfl rfl rfl rfl) ?_ | refine ax_q (q_load1_rptr rfl rfl (by assumption) rfl) ?_ | refine ax_q (q_load1_rptr rfl rfl (mapAt (by first | assumption | omega)) rfl) ?_
      refine ax_q (q_sbin_add rfl rfl (by simp only [List.length_append, List.length_cons, List.length_nil]; omega)) ?_
      refine ax_q (q_sbin_add rfl rfl (by simp only [List.length_append, List.length_cons, List.length_nil]; omega)) ?_
      refine ax_q (q_mov rfl) ?_
      refine ax_nil ?_
      refine cx_keep rfl rfl ?_
      refine cx_seq ?_
      refine cx_seq ?_
      refine cx_ops ?_
      refine ax_q (q_fadr_ptr rfl) ?_
      refine ax_q (q_load1_ptr rfl rfl rfl) ?_
      refine ax_nil ?_
      refine cx_keep rfl rfl ?_
      refine cx_cond rfl (fun h5 => ?_) (fun h5 => ?_)
      ·
       skip
       have ed := fun a => sxD_t (a := a) h5
       refine cx_ops ?_
       refine ax_q (q_mov rfl) ?_
       refine ax_q (q_sbin_add rfl rfl (by simp only [List.length_append, List.length_cons, List.length_nil]; omega)) ?_
       refine ax_q (q_mov rfl) ?_
       refine ax_nil ?_
       refine cx_keep rfl rfl ?_
       refine cx_seq ?_
       refine cx_ops ?_
       refine ax_q (q_mov rfl) ?_
       refine ax_q (q_mov rfl) ?_
       refine ax_nil ?_
       refine cx_keep rfl rfl ?_
       refine cx_ret (ret0 rfl rfl ?_)
       exact ⟨by rw [ea, ew, eo, ed]; rfl, rfl⟩
      ·
       skip
       have ed := fun a => sxD_f (a := a) h5
       refine cx_skip ?_
       refine cx_keep rfl rfl ?_
       refine cx_seq ?_
       refine cx_ops ?_
       refine ax_q (q_mov rfl) ?_
       refine ax_q (q_mov rfl) ?_
       refine ax_nil ?_
       refine cx_keep rfl rfl ?_
       refine cx_ret (ret0 rfl rfl ?_)
       exact ⟨by rw [ea, ew, eo, ed]; rfl, rfl⟩
     ·
      have h4 := (fun h => And.intro (nF (or_F h).1) (id (or_F h).2)) h4
      have eo := fun a => sxO_f (a := a) h4
      refine cx_skip ?_
      refine cx_keep rfl rfl ?_
      refine cx_seq ?_
      refine cx_seq ?_
      refine cx_ops ?_
      refine ax_q (q_fadr_ptr rfl) ?_
      refine ax_q (q_load1_ptr rfl rfl rfl) ?_
      refine ax_nil ?_
      refine cx_keep rfl rfl ?_
      refine cx_cond rfl (fun h5 => ?_) (fun h5 => ?_)
      ·
       skip
       have ed := fun a => sxD_t (a := a) h5
       refine cx_ops ?_
       refine ax_q (q_mov rfl) ?_
       refine ax_q (q_sbin_add rfl rfl (by simp only [List.length_append, List.length_cons, List.length_nil]; omega)) ?_
       refine ax_q (q_mov rfl) ?_
       refine ax_nil ?_
       refine cx_keep rfl rfl ?_
       refine cx_seq ?_
       refine cx_ops ?_
       refine ax_q (q_mov rfl) ?_
       refine ax_q (q_mov rfl) ?_
       refine ax_nil ?_
       refine cx_keep rfl rfl ?_
       refine cx_ret (ret0 rfl rfl ?_)
       exact ⟨by rw [ea, ew, eo, ed]; rfl, rfl⟩
      ·
       skip
       have ed := fun a => sxD_f (a := a) h5
       refine cx_skip ?_
       refine cx_keep rfl rfl ?_
       refine cx_seq ?_
       refine cx_ops ?_
       refine ax_q (q_mov rfl) ?_
       refine ax_q (q_mov rfl) ?_
       refine ax_nil ?_
       refine cx_keep rfl rfl ?_
       refine cx_ret (ret0 rfl rfl ?_)
       exact ⟨by rw [ea, ew, eo, ed]; rfl, rfl⟩
    ·
     have h3 := bF h3
     have ew := fun a => sxW_f (a := a) h3
     refine cx_skip ?_
     refine cx_keep rfl rfl ?_
     refine cx_seq ?_
     refine cx_seq ?_
     refine cx_ops ?_
     refine ax_q (q_fadr_ptr rfl) ?_
     refine ax_q (q_load1_ptr rfl rfl rfl) ?_
     refine ax_q (q_ibin rfl rfl rfl) ?_
     refine ax_q (q_mov rfl) ?_
     apply ax_or rfl rfl
     ·
      intro g
      have g := nF g
      refine ax_q (q_fadr_ptr rfl) ?_
      refine ax_q (q_load1_ptr rfl rfl rfl) ?_
      exact ax_nil ⟨rfl, by repeat (first | exact trivial | refine ⟨rfl, ?_⟩ | refine ⟨?_, ?_⟩)⟩
     refine ax_nil ?_
     refine cx_keep rfl rfl ?_
     refine cx_cond rfl (fun h4 => ?_) (fun h4 => ?_)
     ·
      have h4 := (fun h => (or_T h).imp nT id) h4
      have eo := fun a => sxO_t (a := a) h4
      refine cx_ops ?_
      refine ax_q (q_mov rfl) ?_
      refine ax_q (q_fadr_ptr rfl) ?_
      refine ax_q (q_load1_ptr rfl rfl rfl) ?_
      refine ax_qe (r' := .d (.ip (.str (colT s.Order) :: ((colsL.drop ((s.Order).toNat + 1)).map D.str)))) (q_iadrG (n := s.Order) colsL gtab_cols (by rw [hP]; kernel_rfl) rfl rfl (by omega) (by omega)) (by rw [col_drop (by omega)]) ?_
      first | refine ax_q (q_load1_ptr rfl rfl rfl) ?_ | refine ax_q (q_load1_ip rfl) ?_ | refine ax_q (q_load1_rptr rfl rfl rfl rfl) ?_ | refine ax_q (q_load1_rptr rfl rfl (by assumption) rfl) ?_ | refine ax_q (q_load1_rptr rfl rfl (mapAt (by first | assumption | omega)) rfl) ?_
      refine ax_q (q_sbin_add rfl rfl (by simp only [List.length_append, List.length_cons, List.length_nil]; omega)) ?_
      refine ax_q (q_sbin_add rfl rfl (by simp only [List.length_append, List.length_cons, List.length_nil]; omega)) ?_
      refine ax_q (q_mov rfl) ?_
      refine ax_nil ?_
      refine cx_keep rfl rfl ?_
      refine cx_seq ?_
      refine cx_seq ?_
      refine cx_ops ?_
      refine ax_q (q_fadr_ptr rfl) ?_
      refine ax_q (q_load1_ptr rfl rfl rfl) ?_
      refine ax_nil ?_
      refine cx_keep rfl rfl ?_
      refine cx_cond rfl (fun h5 => ?_) (fun h5 => ?_)
      ·
       skip
       have ed := fun a => sxD_t (a := a) h5
       refine cx_ops ?_
       refine ax_q (q_mov rfl) ?_
       refine ax_q (q_sbin_add rfl rfl (by simp only [List.length_append, List.length_cons, List.length_nil]; omega)) ?_
       refine ax_q (q_mov rfl) ?_
       refine ax_nil ?_
       refine cx_keep rfl rfl ?_
       refine cx_seq ?_
       refine cx_ops ?_
       refine ax_q (q_mov rfl) ?_
       refine ax_q (q_mov rfl) ?_
       refine ax_nil ?_
       refine cx_keep rfl rfl ?_
       refine cx_ret (ret0 rfl rfl ?_)
       exact ⟨by rw [ea, ew, eo, ed]; rfl, rfl⟩
      ·
       skip
       have ed := fun a => sxD_f (a := a) h5
       refine cx_skip ?_
       refine cx_keep rfl rfl ?_
       refine cx_seq ?_
       refine cx_ops ?_
       refine ax_q (q_mov rfl) ?_
       refine ax_q (q_mov rfl) ?_
       refine ax_nil ?_
       refine cx_keep rfl rfl ?_
       refine cx_ret (ret0 rfl rfl ?_)
       exact ⟨by rw [ea, ew, eo, ed]; rfl, rfl⟩
     ·
      have h4 := (fun h => And.intro (nF (or_F h).1) (id (or_F h).2)) h4
      have eo := fun a => sxO_f (a := a) h4
      refine cx_skip ?_
      refine cx_keep rfl rfl ?_
      refine cx_seq ?_
      refine cx_seq ?_
      refine cx_ops ?_
      refine ax_q (q_fadr_ptr rfl) ?_
      refine ax_q (q_load1_ptr rfl rfl rfl) ?_
      refine ax_nil ?_
      refine cx_keep rfl rfl ?_
      refine cx_cond rfl (fun h5 => ?_) (fun h5 => ?_)
      ·
       skip
       have ed := fun a => sxD_t (a := a) h5
       refine cx_ops ?_
       refine ax_q (q_mov rfl) ?_
       refine ax_q (q_sbin_add rfl rfl (by simp only [List.length_append, List.length_cons, List.length_nil]; omega)) ?_
       refine ax_q (q_mov rfl) ?_
       refine ax_nil ?_
       refine cx_keep rfl rfl ?_
       refine cx_seq ?_
       refine cx_ops ?_
       refine ax_q (q_mov rfl) ?_
       refine ax_q (q_mov rfl) ?_
       refine ax_nil ?_
       refine cx_keep rfl rfl ?_
       refine cx_ret (ret0 rfl rfl ?_)
       exact ⟨by rw [ea, ew, eo, ed]; rfl, rfl⟩
      ·
       skip
       have ed := fun a => sxD_f (a := a) h5
       refine cx_skip ?_
       refine cx_keep rfl rfl ?_
       refine cx_seq ?_
       refine cx_ops ?_
       refine ax_q (q_mov rfl) ?_
       refine ax_q (q_mov rfl) ?_
       refine ax_nil ?_
       refine cx_keep rfl rfl ?_
       refine cx_ret (ret0 rfl rfl ?_)
       exact ⟨by rw [ea, ew, eo, ed]; rfl, rfl⟩
   ·
    have h2 := dF h2
    have ea := stT_4 (s := s) (by omega)
    refine cx_ops ?_
    refine ax_q (q_mov rfl) ?_
    refine ax_q (q_sbin_add rfl rfl (by simp only [List.length_append, List.length_cons, List.length_nil]; omega)) ?_
    refine ax_q (q_mov rfl) ?_
    refine ax_nil ?_
    refine cx_keep rfl rfl ?_
    refine cx_seq ?_
    refine cx_seq ?_
    refine cx_ops ?_
    refine ax_q (q_fadr_ptr rfl) ?_
    refine ax_q (q_ldN rfl rfl rfl) ?_
    first | refine ax_call rfl (vc_pure0 (c_hasNone (e := s.Where) ) hP rfl rfl ?_) | refine ax_call rfl (vc_lend0 (c_hasNone (e := s.Where) ) hP (by repeat (first | exact lal_id _ rfl | exact LAL.nil | refine LAL.cons ?_ ?_ | exact la_id _ rfl | exact LA.lend (lend_whole rfl (by first | (simp; done) | (rw [List.length_map]; rfl))) | refine LA.agg ?_ | refine LA.fn ?_ | refine LA.lend ?_ | exact Lend.d _ | exact Lend.zs _ | exact lend_whole rfl (by first | (simp; done) | (rw [List.length_map]; rfl)) | refine Lend.ptr rfl ?_ | refine Lend.fn ?_ | exact LendL.nil | refine LendL.cons ?_ ?_)) rfl rfl ?_)
    refine ax_q (q_not rfl) ?_
    refine ax_nil ?_
    refine cx_keep rfl rfl ?_
    refine cx_cond rfl (fun h3 => ?_) (fun h3 => ?_)
    ·
     have h3 := bT h3
     have hwe := hwh h3
     have hwl : (etF s.Where.Nodes (s.Where.Nodes.length + 1) ((s.Where.Nodes.length : Int) - 1)).length ≤ 100000000000000 := exT_le hwe
     have hwl2 := exT_le hwe
     obtain ⟨hz0, hz1, hz2, hz3, _⟩ := comp_hyps hwe
     have hn40 := exprOK_n hwe
     have ew := fun a => sxW_t (a := a) h3
     refine cx_ops ?_
     refine ax_q (q_mov rfl) ?_
     refine ax_q (q_fadr_ptr rfl) ?_
     refine ax_q (q_ldN rfl rfl rfl) ?_
     first | refine ax_call rfl (vc_pure0 (c_exprText (e := s.Where) ?_) hP rfl rfl ?_) | refine ax_call rfl (vc_lend0 (c_exprText (e := s.Where) ?_) hP (by repeat (first | exact lal_id _ rfl | exact LAL.nil | refine LAL.cons ?_ ?_ | exact la_id _ rfl | exact LA.lend (lend_whole rfl (by first | (simp; done) | (rw [List.length_map]; rfl))) | refine LA.agg ?_ | refine LA.fn ?_ | refine LA.lend ?_ | exact Lend.d _ | exact Lend.zs _ | exact lend_whole rfl (by first | (simp; done) | (rw [List.length_map]; rfl)) | refine Lend.ptr rfl ?_ | refine Lend.fn ?_ | exact LendL.nil | refine LendL.cons ?_ ?_)) rfl rfl ?_)
     ·
      first | assumption | omega | (simp; done) | (simp; omega)
     refine ax_q (q_sbin_add rfl rfl (by simp only [List.length_append, List.length_cons, List.length_nil]; omega)) ?_
     refine ax_q (q_sbin_add rfl rfl (by simp only [List.length_append, List.length_cons, List.length_nil]; omega)) ?_
     refine ax_q (q_mov rfl) ?_
     refine ax_nil ?_
     refine cx_keep rfl rfl ?_
     refine cx_seq ?_
     refine cx_seq ?_
     refine cx_ops ?_
     refine ax_q (q_fadr_ptr rfl) ?_
     refine ax_q (q_load1_ptr rfl rfl rfl) ?_
     refine ax_q (q_ibin rfl rfl rfl) ?_
     refine ax_q (q_mov rfl) ?_
     apply ax_or rfl rfl
     ·
      intro g
      have g := nF g
      refine ax_q (q_fadr_ptr rfl) ?_
      refine ax_q (q_load1_ptr rfl rfl rfl) ?_
      exact ax_nil ⟨rfl, by repeat (first | exact trivial | refine ⟨rfl, ?_⟩ | refine ⟨?_, ?_⟩)⟩
     refine ax_nil ?_
     refine cx_keep rfl rfl ?_
     refine cx_cond rfl (fun h4 => ?_) (fun h4 => ?_)
     ·
      have h4 := (fun h => (or_T h).imp nT id) h4
      have eo := fun a => sxO_t (a := a) h4
      refine cx_ops ?_
      refine ax_q (q_mov rfl) ?_
      refine ax_q (q_fadr_ptr rfl) ?_
      refine ax_q (q_load1_ptr rfl rfl rfl) ?_
      refine ax_qe (r' := .d (.ip (.str (colT s.Order) :: ((colsL.drop ((s.Order).toNat + 1)).map D.str)))) (q_iadrG (n := s.Order) colsL gtab_cols (by rw [hP]; kernel_rfl) rfl rfl (by omega) (by omega)) (by rw [col_drop (by omega)]) ?_
      first | refine ax_q (q_load1_ptr rfl rfl rfl) ?_ | refine ax_q (q_load1_ip rfl) ?_ | refine ax_q (q_load1_rptr rfl rfl rfl rfl) ?_ | refine ax_q (q_load1_rptr rfl rfl (by assumption) rfl) ?_ | refine ax_q (q_load1_rptr rfl rfl (mapAt (by first | assumption | omega)) rfl) ?_
      refine ax_q (q_sbin_add rfl rfl (by simp only [List.length_append, List.length_cons, List.length_nil]; omega)) ?_
      refine ax_q (q_sbin_add rfl rfl (by simp only [List.length_append, List.length_cons, List.length_nil]; omega)) ?_
      refine ax_q (q_mov rfl) ?_
      refine ax_nil ?_
      refine cx_keep rfl rfl ?_
      refine cx_seq ?_
      refine cx_seq ?_
      refine cx_ops ?_
      refine ax_q (q_fadr_ptr rfl) ?_
      refine ax_q (q_load1_ptr rfl rfl rfl) ?_
      refine ax_nil ?_
      refine cx_keep rfl rfl ?_
      refine cx_cond rfl (fun h5 => ?_) (fun h5 => ?_)
      ·
       skip
       have ed := fun a => sxD_t (a := a) h5
       refine cx_ops ?_
       refine ax_q (q_mov rfl) ?_
       refine ax_q (q_sbin_add rfl rfl (by simp only [List.length_append, List.length_cons, List.length_nil]; omega)) ?_
       refine ax_q (q_mov rfl) ?_
       refine ax_nil ?_
       refine cx_keep rfl rfl ?_
       refine cx_seq ?_
       refine cx_ops ?_
       refine ax_q (q_mov rfl) ?_
       refine ax_q (q_mov rfl) ?_
       refine ax_nil ?_
       refine cx_keep rfl rfl ?_
       refine cx_ret (ret0 rfl rfl ?_)
       exact ⟨by rw [ea, ew, eo, ed]; rfl, rfl⟩
      ·
       skip
       have ed := fun a => sxD_f (a := a) h5
       refine cx_skip ?_
       refine cx_keep rfl rfl ?_
       refine cx_seq ?_
       refine cx_ops ?_
       refine ax_q (q_mov rfl) ?_
       refine ax_q (q_mov rfl) ?_
       refine ax_nil ?_
       refine cx_keep rfl rfl ?_
       refine cx_ret (ret0 rfl rfl ?_)
       exact ⟨by rw [ea, ew, eo, ed]; rfl, rfl⟩
     ·
      have h4 := (fun h => And.intro (nF (or_F h).1) (id (or_F h).2)) h4
      have eo := fun a => sxO_f (a := a) h4
      refine cx_skip ?_
      refine cx_keep rfl rfl ?_
      refine cx_seq ?_
      refine cx_seq ?_
      refine cx_ops ?_
      refine ax_q (q_fadr_ptr rfl) ?_
      refine ax_q (q_load1_ptr rfl rfl rfl) ?_
      refine ax_nil ?_
      refine cx_keep rfl rfl ?_
      refine cx_cond rfl (fun h5 => ?_) (fun h5 => ?_)
      ·
       skip
       have ed := fun a => sxD_t (a := a) h5
       refine cx_ops ?_
       refine ax_q (q_mov rfl) ?_
       refine ax_q (q_sbin_add rfl rfl (by simp only [List.length_append, List.length_cons, List.length_nil]; omega)) ?_
       refine ax_q (q_mov rfl) ?_
       refine ax_nil ?_
       refine cx_keep rfl rfl ?_
       refine cx_seq ?_
       refine cx_ops ?_
       refine ax_q (q_mov rfl) ?_
       refine ax_q (q_mov rfl) ?_
       refine ax_nil ?_
       refine cx_keep rfl rfl ?_
       refine cx_ret (ret0 rfl rfl ?_)
       exact ⟨by rw [ea, ew, eo, ed]; rfl, rfl⟩
      ·
       skip
       have ed := fun a => sxD_f (a := a) h5
       refine cx_skip ?_
       refine cx_keep rfl rfl ?_
       refine cx_seq ?_
       refine cx_ops ?_
       refine ax_q (q_mov rfl) ?_
       refine ax_q (q_mov rfl) ?_
       refine ax_nil ?_
       refine cx_keep rfl rfl ?_
       refine cx_ret (ret0 rfl rfl ?_)
       exact ⟨by rw [ea, ew, eo, ed]; rfl, rfl⟩
    ·
     have h3 := bF h3
     have ew := fun a => sxW_f (a := a) h3
     refine cx_skip ?_
     refine cx_keep rfl rfl ?_
     refine cx_seq ?_
     refine cx_seq ?_
     refine cx_ops ?_
     refine ax_q (q_fadr_ptr rfl) ?_
     refine ax_q (q_load1_ptr rfl rfl rfl) ?_
     refine ax_q (q_ibin rfl rfl rfl) ?_
     refine ax_q (q_mov rfl) ?_
     apply ax_or rfl rfl
     ·
      intro g
      have g := nF g
      refine ax_q (q_fadr_ptr rfl) ?_
      refine ax_q (q_load1_ptr rfl rfl rfl) ?_
      exact ax_nil ⟨rfl, by repeat (first | exact trivial | refine ⟨rfl, ?_⟩ | refine ⟨?_, ?_⟩)⟩
     refine ax_nil ?_
     refine cx_keep rfl rfl ?_
     refine cx_cond rfl (fun h4 => ?_) (fun h4 => ?_)
     ·
      have h4 := (fun h => (or_T h).imp nT id) h4
      have eo := fun a => sxO_t (a := a) h4
      refine cx_ops ?_
      refine ax_q (q_mov rfl) ?_
      refine ax_q (q_fadr_ptr rfl) ?_
      refine ax_q (q_load1_ptr rfl rfl rfl) ?_
      refine ax_qe (r' := .d (.ip (.str (colT s.Order) :: ((colsL.drop ((s.Order).toNat + 1)).map D.str)))) (q_iadrG (n := s.Order) colsL gtab_cols (by rw [hP]; kernel_rfl) rfl rfl (by omega) (by omega)) (by rw [col_drop (by omega)]) ?_
      first | refine ax_q (q_load1_ptr rfl rfl rfl) ?_ | refine ax_q (q_load1_ip rfl) ?_ | refine ax_q (q_load1_rptr rfl rfl rfl rfl) ?_ | refine ax_q (q_load1_rptr rfl rfl (by assumption) rfl) ?_ | refine ax_q (q_load1_rptr rfl rfl (mapAt (by first | assumption | omega)) rfl) ?_
      refine ax_q (q_sbin_add rfl rfl (by simp only [List.length_append, List.length_cons, List.length_nil]; omega)) ?_
      refine ax_q (q_sbin_add rfl rfl (by simp only [List.length_append, List.length_cons, List.length_nil]; omega)) ?_
      refine ax_q (q_mov rfl) ?_
      refine ax_nil ?_
      refine cx_keep rfl rfl ?_
      refine cx_seq ?_
      refine cx_seq ?_
      refine cx_ops ?_
      refine ax_q (q_fadr_ptr rfl) ?_
      refine ax_q (q_load1_ptr rfl rfl rfl) ?_
      refine ax_nil ?_
      refine cx_keep rfl rfl ?_
      refine cx_cond rfl (fun h5 => ?_) (fun h5 => ?_)
      ·
       skip
       have ed := fun a => sxD_t (a := a) h5
       refine cx_ops ?_
       refine ax_q (q_mov rfl) ?_
       refine ax_q (q_sbin_add rfl rfl (by simp only [List.length_append, List.length_cons, List.length_nil]; omega)) ?_
       refine ax_q (q_mov rfl) ?_
       refine ax_nil ?_
       refine cx_keep rfl rfl ?_
       refine cx_seq ?_
       refine cx_ops ?_
       refine ax_q (q_mov rfl) ?_
       refine ax_q (q_mov rfl) ?_
       refine ax_nil ?_
       refine cx_keep rfl rfl ?_
       refine cx_ret (ret0 rfl rfl ?_)
       exact ⟨by rw [ea, ew, eo, ed]; rfl, rfl⟩
      ·
       skip
       have ed := fun a => sxD_f (a := a) h5
       refine cx_skip ?_
       refine cx_keep rfl rfl ?_
       refine cx_seq ?_
       refine cx_ops ?_
       refine ax_q (q_mov rfl) ?_
       refine ax_q (q_mov rfl) ?_
       refine ax_nil ?_
       refine cx_keep rfl rfl ?_
       refine cx_ret (ret0 rfl rfl ?_)
       exact ⟨by rw [ea, ew, eo, ed]; rfl, rfl⟩
     ·
      have h4 := (fun h => And.intro (nF (or_F h).1) (id (or_F h).2)) h4
      have eo := fun a => sxO_f (a := a) h4
      refine cx_skip ?_
      refine cx_keep rfl rfl ?_
      refine cx_seq ?_
      refine cx_seq ?_
      refine cx_ops ?_
      refine ax_q (q_fadr_ptr rfl) ?_
      refine ax_q (q_load1_ptr rfl rfl rfl) ?_
      refine ax_nil ?_
      refine cx_keep rfl rfl ?_
      refine cx_cond rfl (fun h5 => ?_) (fun h5 => ?_)
      ·
       skip
       have ed := fun a => sxD_t (a := a) h5
       refine cx_ops ?_
       refine ax_q (q_mov rfl) ?_
       refine ax_q (q_sbin_add rfl rfl (by simp only [List.length_append, List.length_cons, List.length_nil]; omega)) ?_
       refine ax_q (q_mov rfl) ?_
       refine ax_nil ?_
       refine cx_keep rfl rfl ?_
       refine cx_seq ?_
       refine cx_ops ?_
       refine ax_q (q_mov rfl) ?_
       refine ax_q (q_mov rfl) ?_
       refine ax_nil ?_
       refine cx_keep rfl rfl ?_
       refine cx_ret (ret0 rfl rfl ?_)
       exact ⟨by rw [ea, ew, eo, ed]; rfl, rfl⟩
      ·
       skip
       have ed := fun a => sxD_f (a := a) h5
       refine cx_skip ?_
       refine cx_keep rfl rfl ?_
       refine cx_seq ?_
       refine cx_ops ?_
       refine ax_q (q_mov rfl) ?_
       refine ax_q (q_mov rfl) ?_
       refine ax_nil ?_
       refine cx_keep rfl rfl ?_
       refine cx_ret (ret0 rfl rfl ?_)
       exact ⟨by rw [ea, ew, eo, ed]; rfl, rfl⟩


/- loop.example/g00332/impl.StmtText -/
def k_c_StmtText : XCode :=
 .seq (.ops [.op (some 1) (.box (.t 0)),
   .op (some 2) (.mov (.k (.str []))),
   .op (some 3) (.mov (.k (.int .i64 0)))])
 (.keep [1] (.seq (.seq (.ops [.op (some 4) (.loadN 14 (.t 1)),
   .call (some 5) 26 [.t 4],
   .op (some 6) (.not (.t 5))])
  (.keep [1, 6] (.cond (.t 6)
  (.seq (.ops [.op (some 2) (.mov (.k (.str []))),
    .op (some 3) (.mov (.k (.int .i64 1)))])
   (.keep [2, 3] (.ret)))
  (.skip))))
 (.keep [1] (.seq (.ops [.op (some 7) (.loadN 14 (.t 1)),
   .call (some 8) 27 [.t 7],
   .op (some 2) (.mov (.t 8)),
   .op (some 3) (.mov (.k (.int .i64 0)))])
 (.keep [2, 3] (.ret))))))
theorem k_c_StmtText_fits : fitsF Tryd.prog 13 ⟨9, k_c_StmtText, [.t 2, .t 3]⟩ = true := by kernel_rfl
theorem c_StmtText {s : GStmt} (hs0 : s.Set.Nodes.length ≤ 1048576) (hs1 : ∀ x ∈ s.Set.Nodes, x.V.T.length ≤ 1048576) (hw0 : s.Where.Nodes.length ≤ 1048576) (hw1 : ∀ x ∈ s.Where.Nodes, x.V.T.length ≤ 1048576) (hr0 : s.Row.N.T.length ≤ 1048576) (hr1 : s.Row.Name.T.length ≤ 1048576) : Con Tryd.prog noMv 13 [s.av] [] (fun r h => r = .tup [str (stTF s).1, int (stTF s).2] ∧ h = []) := by
 refine con_of2 k_c_StmtText_fits rfl fun C hP hmv => ?_
 unfold k_c_StmtText
 refine cx_seq ?_
 refine cx_ops ?_
 refine ax_e (e_box rfl rfl (by decide) rfl rfl rfl) ?_
 refine ax_q (q_mov rfl) ?_
 refine ax_q (q_mov rfl) ?_
 refine ax_nil ?_
 refine cx_keep rfl rfl ?_
 refine cx_seq ?_
 refine cx_seq ?_
 refine cx_ops ?_
 refine ax_q (q_ldN rfl rfl rfl) ?_
 first | refine ax_call rfl (vc_pure0 (c_StmtOK (s := s) ?_ ?_ ?_ ?_ ?_ ?_) hP rfl rfl ?_) | refine ax_call rfl (vc_lend0 (c_StmtOK (s := s) ?_ ?_ ?_ ?_ ?_ ?_) hP (by repeat (first | exact lal_id _ rfl | exact LAL.nil | refine LAL.cons ?_ ?_ | exact la_id _ rfl | exact LA.lend (lend_whole rfl (by first | (simp; done) | (rw [List.length_map]; rfl))) | refine LA.agg ?_ | refine LA.fn ?_ | refine LA.lend ?_ | exact Lend.d _ | exact Lend.zs _ | exact lend_whole rfl (by first | (simp; done) | (rw [List.length_map]; rfl)) | refine Lend.ptr rfl ?_ | refine Lend.fn ?_ | exact LendL.nil | refine LendL.cons ?_ ?_)) rfl rfl ?_)
 ·
  first | assumption | omega | (simp; done) | (simp; omega)
 ·
  first | assumption | omega | (simp; done) | (simp; omega)
 ·
  first | assumption | omega | (simp; done) | (simp; omega)
 ·
  first | assumption | omega | (simp; done) | (simp; omega)
 ·
  first | assumption | omega | (simp; done) | (simp; omega)
 ·
  first | assumption | omega | (simp; done) | (simp; omega)
 refine ax_q (q_not rfl) ?_
 refine ax_nil ?_
 refine cx_keep rfl rfl ?_
 refine cx_cond rfl (fun h0 => ?_) (fun h0 => ?_)
 ·
  have h0 := bT h0
  refine cx_seq ?_
  refine cx_ops ?_
  refine ax_q (q_mov rfl) ?_
  refine ax_q (q_mov rfl) ?_
  refine ax_nil ?_
  refine cx_keep rfl rfl ?_
  refine cx_ret (ret0 rfl rfl ?_)
  exact ⟨by rw [stT_f h0]; rfl, rfl⟩
 ·
  have h0 := bF h0
  refine cx_skip ?_
  refine cx_keep rfl rfl ?_
  refine cx_seq ?_
  refine cx_ops ?_
  refine ax_q (q_ldN rfl rfl rfl) ?_
  first | refine ax_call rfl (vc_pure0 (c_stmtText (s := s) ?_) hP rfl rfl ?_) | refine ax_call rfl (vc_lend0 (c_stmtText (s := s) ?_) hP (by repeat (first | exact lal_id _ rfl | exact LAL.nil | refine LAL.cons ?_ ?_ | exact la_id _ rfl | exact LA.lend (lend_whole rfl (by first | (simp; done) | (rw [List.length_map]; rfl))) | refine LA.agg ?_ | refine LA.fn ?_ | refine LA.lend ?_ | exact Lend.d _ | exact Lend.zs _ | exact lend_whole rfl (by first | (simp; done) | (rw [List.length_map]; rfl)) | refine Lend.ptr rfl ?_ | refine Lend.fn ?_ | exact LendL.nil | refine LendL.cons ?_ ?_)) rfl rfl ?_)
  ·
   first | assumption | omega | (simp; done) | (simp; omega)
  refine ax_q (q_mov rfl) ?_
  refine ax_q (q_mov rfl) ?_
  refine ax_nil ?_
  refine cx_keep rfl rfl ?_
  refine cx_ret (ret0 rfl rfl ?_)
  exact ⟨by rw [stT_t h0]; rfl, rfl⟩


/- loop.example/g00332/laws.eqValue -/
def k_c_eqValue : XCode :=
 .seq (.ops [.op (some 2) (.box (.t 0)),
   .op (some 3) (.box (.t 1)),
   .op (some 4) (.mov (.k (.bool false)))])
 (.keep [2, 3] (.seq (.seq (.ops [.op (some 5) (.fadr (.t 2) 0),
   .op (some 6) (.load1 (.t 5)),
   .op (some 7) (.fadr (.t 3) 0),
   .op (some 8) (.load1 (.t 7)),
   .op (some 9) (.bin .neq (.t 6) (.t 8))])
  (.keep [2, 3, 9] (.cond (.t 9)
  (.seq (.ops [.op (some 4) (.mov (.k (.bool false)))])
   (.keep [4] (.ret)))
  (.skip))))
 (.keep [2, 3] (.seq (.seq (.ops [.op (some 10) (.fadr (.t 2) 1),
   .op (some 11) (.load1 (.t 10)),
   .op (some 12) (.fadr (.t 3) 1),
   .op (some 13) (.load1 (.t 12)),
   .op (some 14) (.bin .neq (.t 11) (.t 13))])
  (.keep [2, 3, 14] (.cond (.t 14)
  (.seq (.ops [.op (some 4) (.mov (.k (.bool false)))])
   (.keep [4] (.ret)))
  (.skip))))
 (.keep [2, 3] (.seq (.seq (.ops [.op (some 15) (.fadr (.t 2) 2),
   .op (some 16) (.load1 (.t 15)),
   .op (some 17) (.fadr (.t 3) 2),
   .op (some 18) (.load1 (.t 17)),
   .op (some 19) (.bin .neq (.t 16) (.t 18))])
  (.keep [19] (.cond (.t 19)
  (.seq (.ops [.op (some 4) (.mov (.k (.bool false)))])
   (.keep [4] (.ret)))
  (.skip))))
 (.keep [] (.seq (.ops [.op (some 4) (.mov (.k (.bool true)))])
 (.keep [4] (.ret))))))))))
theorem k_c_eqValue_fits : fitsF Tryd.prog 52 ⟨20, k_c_eqValue, [.t 4]⟩ = true := by kernel_rfl
theorem c_eqValue {a b : GValue}  : Con Tryd.prog noMv 52 [a.av, b.av] [] (fun r h => r = bool (eqb a b) ∧ h = []) := by
 refine con_of2 k_c_eqValue_fits rfl fun C hP hmv => ?_
 unfold k_c_eqValue
 refine cx_seq ?_
 refine cx_ops ?_
 refine ax_e (e_box rfl rfl (by decide) rfl rfl rfl) ?_
 refine ax_e (e_box rfl rfl (by decide) rfl rfl rfl) ?_
 refine ax_q (q_mov rfl) ?_
 refine ax_nil ?_
 refine cx_keep rfl rfl ?_
 refine cx_seq ?_
 refine cx_seq ?_
 refine cx_ops ?_
 refine ax_q (q_fadr_ptr rfl) ?_
 refine ax_q (q_load1_ptr rfl rfl rfl) ?_
 refine ax_q (q_fadr_ptr rfl) ?_
 refine ax_q (q_load1_ptr rfl rfl rfl) ?_
 refine ax_q (q_ibin rfl rfl rfl) ?_
 refine ax_nil ?_
 refine cx_keep rfl rfl ?_
 refine cx_cond rfl (fun h0 => ?_) (fun h0 => ?_)
 ·
  have h0 := nT h0
  refine cx_seq ?_
  refine cx_ops ?_
  refine ax_q (q_mov rfl) ?_
  refine ax_nil ?_
  refine cx_keep rfl rfl ?_
  refine cx_ret (ret0 rfl rfl ?_)
  exact ⟨congrArg AM.bool (eqb_f (fun h => h0 (by rw [h]))).symm, rfl⟩
 ·
  have h0 := nF h0
  refine cx_skip ?_
  refine cx_keep rfl rfl ?_
  refine cx_seq ?_
  refine cx_seq ?_
  refine cx_ops ?_
  refine ax_q (q_fadr_ptr rfl) ?_
  refine ax_q (q_load1_ptr rfl rfl rfl) ?_
  refine ax_q (q_fadr_ptr rfl) ?_
  refine ax_q (q_load1_ptr rfl rfl rfl) ?_
  refine ax_q (q_ibin rfl rfl rfl) ?_
  refine ax_nil ?_
  refine cx_keep rfl rfl ?_
  refine cx_cond rfl (fun h1 => ?_) (fun h1 => ?_)
  ·
   have h1 := nT h1
   refine cx_seq ?_
   refine cx_ops ?_
   refine ax_q (q_mov rfl) ?_
   refine ax_nil ?_
   refine cx_keep rfl rfl ?_
   refine cx_ret (ret0 rfl rfl ?_)
   exact ⟨congrArg AM.bool (eqb_f (fun h => h1 (by rw [h]))).symm, rfl⟩
  ·
   have h1 := nF h1
   refine cx_skip ?_
   refine cx_keep rfl rfl ?_
   refine cx_seq ?_
   refine cx_seq ?_
   refine cx_ops ?_
   refine ax_q (q_fadr_ptr rfl) ?_
   refine ax_q (q_load1_ptr rfl rfl rfl) ?_
   refine ax_q (q_fadr_ptr rfl) ?_
   refine ax_q (q_load1_ptr rfl rfl rfl) ?_
   refine ax_q (q_sbin rfl rfl rfl) ?_
   refine ax_nil ?_
   refine cx_keep rfl rfl ?_
   refine cx_cond rfl (fun h2 => ?_) (fun h2 => ?_)
   ·
    have h2 := nT h2
    refine cx_seq ?_
    refine cx_ops ?_
    refine ax_q (q_mov rfl) ?_
    refine ax_nil ?_
    refine cx_keep rfl rfl ?_
    refine cx_ret (ret0 rfl rfl ?_)
    exact ⟨congrArg AM.bool (eqb_f (fun h => h2 (by rw [h]))).symm, rfl⟩
   ·
    have h2 := nF h2
    refine cx_skip ?_
    refine cx_keep rfl rfl ?_
    refine cx_seq ?_
    refine cx_ops ?_
    refine ax_q (q_mov rfl) ?_
    refine ax_nil ?_
    refine cx_keep rfl rfl ?_
    refine cx_ret (ret0 rfl rfl ?_)
    exact ⟨congrArg AM.bool (eqb_t (GValue.ext1 h0 h1 h2)).symm, rfl⟩


/- loop.example/g00332/laws.eqExprNode -/
def k_c_eqExprNode : XCode :=
 .seq (.ops [.op (some 2) (.box (.t 0)),
   .op (some 3) (.box (.t 1)),
   .op (some 4) (.mov (.k (.bool false)))])
 (.keep [2, 3] (.seq (.seq (.ops [.op (some 5) (.fadr (.t 2) 0),
   .op (some 6) (.load1 (.t 5)),
   .op (some 7) (.fadr (.t 3) 0),
   .op (some 8) (.load1 (.t 7)),
   .op (some 9) (.bin .neq (.t 6) (.t 8))])
  (.keep [2, 3, 9] (.cond (.t 9)
  (.seq (.ops [.op (some 4) (.mov (.k (.bool false)))])
   (.keep [4] (.ret)))
  (.skip))))
 (.keep [2, 3] (.seq (.seq (.ops [.op (some 10) (.fadr (.t 2) 1),
   .op (some 11) (.load1 (.t 10)),
   .op (some 12) (.fadr (.t 3) 1),
   .op (some 13) (.load1 (.t 12)),
   .op (some 14) (.bin .neq (.t 11) (.t 13))])
  (.keep [2, 3, 14] (.cond (.t 14)
  (.seq (.ops [.op (some 4) (.mov (.k (.bool false)))])
   (.keep [4] (.ret)))
  (.skip))))
 (.keep [2, 3] (.seq (.seq (.ops [.op (some 15) (.fadr (.t 2) 2),
   .op (some 16) (.load1 (.t 15)),
   .op (some 17) (.fadr (.t 3) 2),
   .op (some 18) (.load1 (.t 17)),
   .op (some 19) (.bin .neq (.t 16) (.t 18))])
  (.keep [2, 3, 19] (.cond (.t 19)
  (.seq (.ops [.op (some 4) (.mov (.k (.bool false)))])
   (.keep [4] (.ret)))
  (.skip))))
 (.keep [2, 3] (.seq (.seq (.ops [.op (some 20) (.fadr (.t 2) 3),
   .op (some 21) (.load1 (.t 20)),
   .op (some 22) (.fadr (.t 3) 3),
   .op (some 23) (.load1 (.t 22)),
   .op (some 24) (.bin .neq (.t 21) (.t 23))])
  (.keep [2, 3, 24] (.cond (.t 24)
  (.seq (.ops [.op (some 4) (.mov (.k (.bool false)))])
   (.keep [4] (.ret)))
  (.skip))))
 (.keep [2, 3] (.seq (.seq (.ops [.op (some 25) (.fadr (.t 2) 4),
   .op (some 26) (.loadN 3 (.t 25)),
   .op (some 27) (.fadr (.t 3) 4),
   .op (some 28) (.loadN 3 (.t 27)),
   .call (some 29) 52 [.t 26, .t 28],
   .op (some 30) (.not (.t 29))])
  (.keep [30] (.cond (.t 30)
  (.seq (.ops [.op (some 4) (.mov (.k (.bool false)))])
   (.keep [4] (.ret)))
  (.skip))))
 (.keep [] (.seq (.ops [.op (some 4) (.mov (.k (.bool true)))])
 (.keep [4] (.ret))))))))))))))
theorem k_c_eqExprNode_fits : fitsF Tryd.prog 39 ⟨31, k_c_eqExprNode, [.t 4]⟩ = true := by kernel_rfl
theorem c_eqExprNode {a b : GExprNode}  : Con Tryd.prog noMv 39 [a.av, b.av] [] (fun r h => r = bool (eqb a b) ∧ h = []) := by
 refine con_of2 k_c_eqExprNode_fits rfl fun C hP hmv => ?_
 unfold k_c_eqExprNode
 refine cx_seq ?_
 refine cx_ops ?_
 refine ax_e (e_box rfl rfl (by decide) rfl rfl rfl) ?_
 refine ax_e (e_box rfl rfl (by decide) rfl rfl rfl) ?_
 refine ax_q (q_mov rfl) ?_
 refine ax_nil ?_
 refine cx_keep rfl rfl ?_
 refine cx_seq ?_
 refine cx_seq ?_
 refine cx_ops ?_
 refine ax_q (q_fadr_ptr rfl) ?_
 refine ax_q (q_load1_ptr rfl rfl rfl) ?_
 refine ax_q (q_fadr_ptr rfl) ?_
 refine ax_q (q_load1_ptr rfl rfl rfl) ?_
 refine ax_q (q_ibin rfl rfl rfl) ?_
 refine ax_nil ?_
 refine cx_keep rfl rfl ?_
 refine cx_cond rfl (fun h0 => ?_) (fun h0 => ?_)
 ·
  have h0 := nT h0
  refine cx_seq ?_
  refine cx_ops ?_
  refine ax_q (q_mov rfl) ?_
  refine ax_nil ?_
  refine cx_keep rfl rfl ?_
  refine cx_ret (ret0 rfl rfl ?_)
  exact ⟨congrArg AM.bool (eqb_f (fun h => h0 (by rw [h]))).symm, rfl⟩
 ·
  have h0 := nF h0
  refine cx_skip ?_
  refine cx_keep rfl rfl ?_
  refine cx_seq ?_
  refine cx_seq ?_
  refine cx_ops ?_
  refine ax_q (q_fadr_ptr rfl) ?_
  refine ax_q (q_load1_ptr rfl rfl rfl) ?_
  refine ax_q (q_fadr_ptr rfl) ?_
  refine ax_q (q_load1_ptr rfl rfl rfl) ?_
  refine ax_q (q_ibin rfl rfl rfl) ?_
  refine ax_nil ?_
  refine cx_keep rfl rfl ?_
  refine cx_cond rfl (fun h1 => ?_) (fun h1 => ?_)
  ·
   have h1 := nT h1
   refine cx_seq ?_
   refine cx_ops ?_
   refine ax_q (q_mov rfl) ?_
   refine ax_nil ?_
   refine cx_keep rfl rfl ?_
   refine cx_ret (ret0 rfl rfl ?_)
   exact ⟨congrArg AM.bool (eqb_f (fun h => h1 (by rw [h]))).symm, rfl⟩
  ·
   have h1 := nF h1
   refine cx_skip ?_
   refine cx_keep rfl rfl ?_
   refine cx_seq ?_
   refine cx_seq ?_
   refine cx_ops ?_
   refine ax_q (q_fadr_ptr rfl) ?_
   refine ax_q (q_load1_ptr rfl rfl rfl) ?_
   refine ax_q (q_fadr_ptr rfl) ?_
   refine ax_q (q_load1_ptr rfl rfl rfl) ?_
   refine ax_q (q_ibin rfl rfl rfl) ?_
   refine ax_nil ?_
   refine cx_keep rfl rfl ?_
   refine cx_cond rfl (fun h2 => ?_) (fun h2 => ?_)
   ·
    have h2 := nT h2
    refine cx_seq ?_
    refine cx_ops ?_
    refine ax_q (q_mov rfl) ?_
    refine ax_nil ?_
    refine cx_keep rfl rfl ?_
    refine cx_ret (ret0 rfl rfl ?_)
    exact ⟨congrArg AM.bool (eqb_f (fun h => h2 (by rw [h]))).symm, rfl⟩
   ·
    have h2 := nF h2
    refine cx_skip ?_
    refine cx_keep rfl rfl ?_
    refine cx_seq ?_
    refine cx_seq ?_
    refine cx_ops ?_
    refine ax_q (q_fadr_ptr rfl) ?_
    refine ax_q (q_load1_ptr rfl rfl rfl) ?_
    refine ax_q (q_fadr_ptr rfl) ?_
    refine ax_q (q_load1_ptr rfl rfl rfl) ?_
    refine ax_q (q_ibin rfl rfl rfl) ?_
    refine ax_nil ?_
    refine cx_keep rfl rfl ?_
    refine cx_cond rfl (fun h3 => ?_) (fun h3 => ?_)
    ·
     have h3 := nT h3
     refine cx_seq ?_
     refine cx_ops ?_
     refine ax_q (q_mov rfl) ?_
     refine ax_nil ?_
     refine cx_keep rfl rfl ?_
     refine cx_ret (ret0 rfl rfl ?_)
     exact ⟨congrArg AM.bool (eqb_f (fun h => h3 (by rw [h]))).symm, rfl⟩
    ·
     have h3 := nF h3
     refine cx_skip ?_
     refine cx_keep rfl rfl ?_
     refine cx_seq ?_
     refine cx_seq ?_
     refine cx_ops ?_
     refine ax_q (q_fadr_ptr rfl) ?_
     refine ax_q (q_ldN rfl rfl rfl) ?_
     refine ax_q (q_fadr_ptr rfl) ?_
     refine ax_q (q_ldN rfl rfl rfl) ?_
     first | refine ax_call rfl (vc_pure0 (c_eqValue  ) hP rfl rfl ?_) | refine ax_call rfl (vc_lend0 (c_eqValue  ) hP (by repeat (first | exact lal_id _ rfl | exact LAL.nil | refine LAL.cons ?_ ?_ | exact la_id _ rfl | exact LA.lend (lend_whole rfl (by first | (simp; done) | (rw [List.length_map]; rfl))) | refine LA.agg ?_ | refine LA.fn ?_ | refine LA.lend ?_ | exact Lend.d _ | exact Lend.zs _ | exact lend_whole rfl (by first | (simp; done) | (rw [List.length_map]; rfl)) | refine Lend.ptr rfl ?_ | refine Lend.fn ?_ | exact LendL.nil | refine LendL.cons ?_ ?_)) rfl rfl ?_)
     refine ax_q (q_not rfl) ?_
     refine ax_nil ?_
     refine cx_keep rfl rfl ?_
     refine cx_cond rfl (fun h4 => ?_) (fun h4 => ?_)
     ·
      have h4 := bT h4
      refine cx_seq ?_
      refine cx_ops ?_
      refine ax_q (q_mov rfl) ?_
      refine ax_nil ?_
      refine cx_keep rfl rfl ?_
      refine cx_ret (ret0 rfl rfl ?_)
      exact ⟨congrArg AM.bool (eqb_f (fun h => by rw [h, eqb_rfl] at h4; cases h4)).symm, rfl⟩
     ·
      have h4 := bF h4
      refine cx_skip ?_
      refine cx_keep rfl rfl ?_
      refine cx_seq ?_
      refine cx_ops ?_
      refine ax_q (q_mov rfl) ?_
      refine ax_nil ?_
      refine cx_keep rfl rfl ?_
      refine cx_ret (ret0 rfl rfl ?_)
      exact ⟨congrArg AM.bool (eqb_t (GExprNode.ext1 h0 h1 h2 h3 (eqb_iff.1 h4))).symm, rfl⟩


/- loop.example/g00332/laws.eqExprNodeS -/
def k_c_eqExprNodeS : XCode :=
 .seq (.ops [.op (some 4) (.mov (.k (.bool false)))])
 (.keep [0, 1] (.seq (.seq (.ops [.op (some 6) (.mov (.t 0)),
   .op (some 7) (.lenS (.t 6)),
   .op (some 8) (.mov (.t 1)),
   .op (some 9) (.lenS (.t 8)),
   .op (some 10) (.bin .neq (.t 7) (.t 9))])
  (.keep [0, 1, 10] (.cond (.t 10)
  (.seq (.ops [.op (some 4) (.mov (.k (.bool false)))])
   (.keep [4] (.ret)))
  (.skip))))
 (.keep [0, 1] (.seq (.seq (.ops [.op (some 5) (.mov (.k (.int .i64 0)))])
  (.keep [0, 1, 5] (.block 0 (.loop (.seq (.seq (.ops [.op (some 11) (.mov (.t 5)),
     .op (some 12) (.mov (.t 0)),
     .op (some 13) (.lenS (.t 12)),
     .op (some 14) (.bin .lss (.t 11) (.t 13))])
   (.keep [0, 1, 5, 14] (.cond (.t 14)
    (.skip)
    (.exit 0))))
   (.keep [0, 1, 5] (.seq (.block 1 (.seq (.draw [.op (some 17) (.mov (.t 0)),
     .op (some 18) (.mov (.t 5)),
     .op (some 19) (.iadr 7 (.t 17) (.t 18)),
     .op (some 20) (.loadN 7 (.t 19)),
     .op (some 21) (.mov (.t 1)),
     .op (some 22) (.mov (.t 5)),
     .op (some 23) (.iadr 7 (.t 21) (.t 22)),
     .op (some 24) (.loadN 7 (.t 23)),
     .call (some 25) 39 [.t 20, .t 24],
     .op (some 26) (.not (.t 25))])
    (.keep [0, 1, 5, 26] (.cond (.t 26)
    (.seq (.ops [.op (some 4) (.mov (.k (.bool false)))])
     (.keep [4] (.ret)))
    (.skip)))))
   (.keep [0, 1, 5] (.ops [.op (some 15) (.mov (.t 5)),
    .op (some 16) (.bin .add (.t 15) (.k (.int .i64 1))),
    .op (some 5) (.mov (.t 16))])))))))))
 (.keep [] (.seq (.ops [.op (some 4) (.mov (.k (.bool true)))])
 (.keep [4] (.ret))))))))
theorem k_c_eqExprNodeS_fits : fitsF Tryd.prog 21 ⟨27, k_c_eqExprNodeS, [.t 4]⟩ = true := by kernel_rfl
theorem c_eqExprNodeS {xs ys : List GExprNode} (hw : xs.length ≤ 9223372036854775807) : Con Tryd.prog noMv 21 [.d (.sl 7 (xs.map GExprNode.row)), .d (.sl 7 (ys.map GExprNode.row))] [] (fun r h => r = bool (eqb xs ys) ∧ h = []) := by
 refine con_of2 k_c_eqExprNodeS_fits rfl fun C hP hmv => ?_
 unfold k_c_eqExprNodeS
 refine cx_seq ?_
 refine cx_ops ?_
 refine ax_q (q_mov rfl) ?_
 refine ax_nil ?_
 refine cx_keep rfl rfl ?_
 refine cx_seq ?_
 refine cx_seq ?_
 refine cx_ops ?_
 refine ax_q (q_mov rfl) ?_
 first | refine ax_q (q_lenS_map rfl) ?_ | refine ax_q (q_lenS_osl rfl) ?_ | refine ax_q (q_lenS_zs rfl) ?_ | refine ax_q (q_lenS rfl) ?_
 refine ax_q (q_mov rfl) ?_
 first | refine ax_q (q_lenS_map rfl) ?_ | refine ax_q (q_lenS_osl rfl) ?_ | refine ax_q (q_lenS_zs rfl) ?_ | refine ax_q (q_lenS rfl) ?_
 refine ax_q (q_ibin rfl rfl rfl) ?_
 refine ax_nil ?_
 refine cx_keep rfl rfl ?_
 refine cx_cond rfl (fun h0 => ?_) (fun h0 => ?_)
 ·
  have h0 := nT h0
  refine cx_seq ?_
  refine cx_ops ?_
  refine ax_q (q_mov rfl) ?_
  refine ax_nil ?_
  refine cx_keep rfl rfl ?_
  refine cx_ret (ret0 rfl rfl ?_)
  exact ⟨congrArg AM.bool (eqb_f (fun h => h0 (by rw [h]))).symm, rfl⟩
 ·
  have h0 := nF h0
  refine cx_skip ?_
  refine cx_keep rfl rfl ?_
  refine cx_seq ?_
  refine cx_seq ?_
  refine cx_ops ?_
  refine ax_q (q_mov rfl) ?_
  refine ax_nil ?_
  refine cx_keep rfl rfl ?_
  refine cx_block ?_
  have hl : xs.length = ys.length := by omega
  refine cx_loopU (fun n k => k ≤ xs.length ∧ n = xs.length - k ∧ xs.take k = ys.take k) (fun k : Nat => [(5, int k)]) (fun _ => []) ⟨_, 0, ⟨Nat.zero_le _, rfl, rfl⟩, by repeat (first | exact trivial | refine ⟨rfl, ?_⟩ | refine ⟨?_, ?_⟩)⟩ ?_
  rintro n k ⟨hk, rfl, ht⟩
  refine cx_seq ?_
  refine cx_seq ?_
  refine cx_ops ?_
  refine ax_q (q_mov rfl) ?_
  refine ax_q (q_mov rfl) ?_
  first | refine ax_q (q_lenS_map rfl) ?_ | refine ax_q (q_lenS_osl rfl) ?_ | refine ax_q (q_lenS_zs rfl) ?_ | refine ax_q (q_lenS rfl) ?_
  refine ax_q (q_ibin rfl rfl rfl) ?_
  refine ax_nil ?_
  refine cx_keep rfl rfl ?_
  refine cx_cond rfl (fun h1 => ?_) (fun h1 => ?_)
  ·
   have h1 := dT h1
   have h1x : k < xs.length := by omega
   have h1y : k < ys.length := by omega
   refine cx_skip ?_
   refine cx_keep rfl rfl ?_
   refine cx_seq ?_
   refine cx_block ?_
   refine cx_seq ?_
   refine cx_draw ?_
   refine ax_q (q_mov rfl) ?_
   refine ax_q (q_mov rfl) ?_
   refine ax_q (q_ix rfl rfl (mapAt h1x)) ?_
   first | refine ax_q (q_ldN rfl rfl rfl) ?_ | refine ax_q (q_loadN_ip rfl (Nat.le_refl _)) ?_ | refine ax_q (q_loadN_ip rfl (by decide)) ?_ | refine ax_q (q_loadN_rptr rfl rfl (by assumption) (by decide)) ?_ | refine ax_q (q_loadN_rptr rfl rfl (mapAt (by first | assumption | omega)) (by decide)) ?_
   refine ax_q (q_mov rfl) ?_
   refine ax_q (q_mov rfl) ?_
   refine ax_q (q_ix rfl rfl (mapAt h1y)) ?_
   first | refine ax_q (q_ldN rfl rfl rfl) ?_ | refine ax_q (q_loadN_ip rfl (Nat.le_refl _)) ?_ | refine ax_q (q_loadN_ip rfl (by decide)) ?_ | refine ax_q (q_loadN_rptr rfl rfl (by assumption) (by decide)) ?_ | refine ax_q (q_loadN_rptr rfl rfl (mapAt (by first | assumption | omega)) (by decide)) ?_
   first | refine ax_callq rfl (c_eqExprNode) hP (lal_id _ rfl) rfl ?_ | refine ax_call rfl (vc_pure0 (c_eqExprNode) hP rfl rfl ?_)
   refine ax_q (q_not rfl) ?_
   refine ax_nil ?_
   refine cx_keep rfl rfl ?_
   refine cx_cond rfl (fun h2 => ?_) (fun h2 => ?_)
   ·
    have h2 := bT h2
    refine cx_seq ?_
    refine cx_ops ?_
    refine ax_q (q_mov rfl) ?_
    refine ax_nil ?_
    refine cx_keep rfl rfl ?_
    refine cx_ret (ret0 rfl rfl ?_)
    exact ⟨congrArg AM.bool (eqbL_no h1x h1y h2).symm, rfl⟩
   ·
    have h2 := bF h2
    refine cx_skip ?_
    refine cx_keep rfl rfl ?_
    refine cx_ops ?_
    refine ax_q (q_mov rfl) ?_
    refine ax_q (q_add rfl rfl (by omega)) ?_
    refine ax_q (q_mov rfl) ?_
    refine ax_nil ?_
    exact ⟨_, k + 1, by omega, ⟨by omega, rfl, eqbL_step h1x h1y ht h2⟩, by repeat (first | exact trivial | refine ⟨rfl, ?_⟩ | refine ⟨?_, ?_⟩)⟩
  ·
   have h1 := dF h1
   refine cx_exit rfl ?_
   refine cx_keep rfl rfl ?_
   refine cx_seq ?_
   refine cx_ops ?_
   refine ax_q (q_mov rfl) ?_
   refine ax_nil ?_
   refine cx_keep rfl rfl ?_
   refine cx_ret (ret0 rfl rfl ?_)
   exact ⟨congrArg AM.bool (eqb_t (eq_of_take hl (by rwa [show k = xs.length from by omega] at ht))).symm, rfl⟩


/- loop.example/g00332/laws.eqExpr -/
def k_c_eqExpr : XCode :=
 .seq (.ops [.op (some 2) (.box (.t 0)),
   .op (some 3) (.box (.t 1)),
   .op (some 4) (.mov (.k (.bool false)))])
 (.keep [2, 3] (.seq (.seq (.ops [.op (some 5) (.fadr (.t 2) 0),
   .op (some 6) (.load1 (.t 5)),
   .op (some 7) (.fadr (.t 3) 0),
   .op (some 8) (.load1 (.t 7)),
   .call (some 9) 21 [.t 6, .t 8],
   .op (some 10) (.not (.t 9))])
  (.keep [10] (.cond (.t 10)
  (.seq (.ops [.op (some 4) (.mov (.k (.bool false)))])
   (.keep [4] (.ret)))
  (.skip))))
 (.keep [] (.seq (.ops [.op (some 4) (.mov (.k (.bool true)))])
 (.keep [4] (.ret))))))
theorem k_c_eqExpr_fits : fitsF Tryd.prog 9 ⟨11, k_c_eqExpr, [.t 4]⟩ = true := by kernel_rfl
theorem c_eqExpr {a b : GExpr} (hw0 : a.Nodes.length ≤ 9223372036854775807) : Con Tryd.prog noMv 9 [a.av, b.av] [] (fun r h => r = bool (eqb a b) ∧ h = []) := by
 refine con_of2 k_c_eqExpr_fits rfl fun C hP hmv => ?_
 unfold k_c_eqExpr
 refine cx_seq ?_
 refine cx_ops ?_
 refine ax_e (e_box rfl rfl (by decide) rfl rfl rfl) ?_
 refine ax_e (e_box rfl rfl (by decide) rfl rfl rfl) ?_
 refine ax_q (q_mov rfl) ?_
 refine ax_nil ?_
 refine cx_keep rfl rfl ?_
 refine cx_seq ?_
 refine cx_seq ?_
 refine cx_ops ?_
 refine ax_q (q_fadr_ptr rfl) ?_
 refine ax_q (q_load1_ptr rfl rfl rfl) ?_
 refine ax_q (q_fadr_ptr rfl) ?_
 refine ax_q (q_load1_ptr rfl rfl rfl) ?_
 first | refine ax_call rfl (vc_pure0 (c_eqExprNodeS  ?_) hP rfl rfl ?_) | refine ax_call rfl (vc_lend0 (c_eqExprNodeS  ?_) hP (by repeat (first | exact lal_id _ rfl | exact LAL.nil | refine LAL.cons ?_ ?_ | exact la_id _ rfl | exact LA.lend (lend_whole rfl (by first | (simp; done) | (rw [List.length_map]; rfl))) | refine LA.agg ?_ | refine LA.fn ?_ | refine LA.lend ?_ | exact Lend.d _ | exact Lend.zs _ | exact lend_whole rfl (by first | (simp; done) | (rw [List.length_map]; rfl)) | refine Lend.ptr rfl ?_ | refine Lend.fn ?_ | exact LendL.nil | refine LendL.cons ?_ ?_)) rfl rfl ?_)
 ·
  first | assumption | omega | (simp; done) | (simp; omega)
 refine ax_q (q_not rfl) ?_
 refine ax_nil ?_
 refine cx_keep rfl rfl ?_
 refine cx_cond rfl (fun h0 => ?_) (fun h0 => ?_)
 ·
  have h0 := bT h0
  refine cx_seq ?_
  refine cx_ops ?_
  refine ax_q (q_mov rfl) ?_
  refine ax_nil ?_
  refine cx_keep rfl rfl ?_
  refine cx_ret (ret0 rfl rfl ?_)
  exact ⟨congrArg AM.bool (eqb_f (fun h => by rw [h, eqb_rfl] at h0; cases h0)).symm, rfl⟩
 ·
  have h0 := bF h0
  refine cx_skip ?_
  refine cx_keep rfl rfl ?_
  refine cx_seq ?_
  refine cx_ops ?_
  refine ax_q (q_mov rfl) ?_
  refine ax_nil ?_
  refine cx_keep rfl rfl ?_
  refine cx_ret (ret0 rfl rfl ?_)
  exact ⟨congrArg AM.bool (eqb_t (GExpr.ext1 (eqb_iff.1 h0))).symm, rfl⟩


/- loop.example/g00332/laws.eqRow -/
def k_c_eqRow : XCode :=
 .seq (.ops [.op (some 2) (.box (.t 0)),
   .op (some 3) (.box (.t 1)),
   .op (some 4) (.mov (.k (.bool false)))])
 (.keep [2, 3] (.seq (.seq (.ops [.op (some 5) (.fadr (.t 2) 0),
   .op (some 6) (.load1 (.t 5)),
   .op (some 7) (.fadr (.t 3) 0),
   .op (some 8) (.load1 (.t 7)),
   .op (some 9) (.bin .neq (.t 6) (.t 8))])
  (.keep [2, 3, 9] (.cond (.t 9)
  (.seq (.ops [.op (some 4) (.mov (.k (.bool false)))])
   (.keep [4] (.ret)))
  (.skip))))
 (.keep [2, 3] (.seq (.seq (.ops [.op (some 10) (.fadr (.t 2) 1),
   .op (some 11) (.loadN 3 (.t 10)),
   .op (some 12) (.fadr (.t 3) 1),
   .op (some 13) (.loadN 3 (.t 12)),
   .call (some 14) 52 [.t 11, .t 13],
   .op (some 15) (.not (.t 14))])
  (.keep [2, 3, 15] (.cond (.t 15)
  (.seq (.ops [.op (some 4) (.mov (.k (.bool false)))])
   (.keep [4] (.ret)))
  (.skip))))
 (.keep [2, 3] (.seq (.seq (.ops [.op (some 16) (.fadr (.t 2) 4),
   .op (some 17) (.loadN 3 (.t 16)),
   .op (some 18) (.fadr (.t 3) 4),
   .op (some 19) (.loadN 3 (.t 18)),
   .call (some 20) 52 [.t 17, .t 19],
   .op (some 21) (.not (.t 20))])
  (.keep [21] (.cond (.t 21)
  (.seq (.ops [.op (some 4) (.mov (.k (.bool false)))])
   (.keep [4] (.ret)))
  (.skip))))
 (.keep [] (.seq (.ops [.op (some 4) (.mov (.k (.bool true)))])
 (.keep [4] (.ret))))))))))
theorem k_c_eqRow_fits : fitsF Tryd.prog 28 ⟨22, k_c_eqRow, [.t 4]⟩ = true := by kernel_rfl
theorem c_eqRow {a b : GRow}  : Con Tryd.prog noMv 28 [a.av, b.av] [] (fun r h => r = bool (eqb a b) ∧ h = []) := by
 refine con_of2 k_c_eqRow_fits rfl fun C hP hmv => ?_
 unfold k_c_eqRow
 refine cx_seq ?_
 refine cx_ops ?_
 refine ax_e (e_box rfl rfl (by decide) rfl rfl rfl) ?_
 refine ax_e (e_box rfl rfl (by decide) rfl rfl rfl) ?_
 refine ax_q (q_mov rfl) ?_
 refine ax_nil ?_
 refine cx_keep rfl rfl ?_
 refine cx_seq ?_
 refine cx_seq ?_
 refine cx_ops ?_
 refine ax_q (q_fadr_ptr rfl) ?_
 refine ax_q (q_load1_ptr rfl rfl rfl) ?_
 refine ax_q (q_fadr_ptr rfl) ?_
 refine ax_q (q_load1_ptr rfl rfl rfl) ?_
 refine ax_q (q_ibin rfl rfl rfl) ?_
 refine ax_nil ?_
 refine cx_keep rfl rfl ?_
 refine cx_cond rfl (fun h0 => ?_) (fun h0 => ?_)
 ·
  have h0 := nT h0
  refine cx_seq ?_
  refine cx_ops ?_
  refine ax_q (q_mov rfl) ?_
  refine ax_nil ?_
  refine cx_keep rfl rfl ?_
  refine cx_ret (ret0 rfl rfl ?_)
  exact ⟨congrArg AM.bool (eqb_f (fun h => h0 (by rw [h]))).symm, rfl⟩
 ·
  have h0 := nF h0
  refine cx_skip ?_
  refine cx_keep rfl rfl ?_
  refine cx_seq ?_
  refine cx_seq ?_
  refine cx_ops ?_
  refine ax_q (q_fadr_ptr rfl) ?_
  refine ax_q (q_ldN rfl rfl rfl) ?_
  refine ax_q (q_fadr_ptr rfl) ?_
  refine ax_q (q_ldN rfl rfl rfl) ?_
  first | refine ax_call rfl (vc_pure0 (c_eqValue  ) hP rfl rfl ?_) | refine ax_call rfl (vc_lend0 (c_eqValue  ) hP (by repeat (first | exact lal_id _ rfl | exact LAL.nil | refine LAL.cons ?_ ?_ | exact la_id _ rfl | exact LA.lend (lend_whole rfl (by first | (simp; done) | (rw [List.length_map]; rfl))) | refine LA.agg ?_ | refine LA.fn ?_ | refine LA.lend ?_ | exact Lend.d _ | exact Lend.zs _ | exact lend_whole rfl (by first | (simp; done) | (rw [List.length_map]; rfl)) | refine Lend.ptr rfl ?_ | refine Lend.fn ?_ | exact LendL.nil | refine LendL.cons ?_ ?_)) rfl rfl ?_)
  refine ax_q (q_not rfl) ?_
  refine ax_nil ?_
  refine cx_keep rfl rfl ?_
  refine cx_cond rfl (fun h1 => ?_) (fun h1 => ?_)
  ·
   have h1 := bT h1
   refine cx_seq ?_
   refine cx_ops ?_
   refine ax_q (q_mov rfl) ?_
   refine ax_nil ?_
   refine cx_keep rfl rfl ?_
   refine cx_ret (ret0 rfl rfl ?_)
   exact ⟨congrArg AM.bool (eqb_f (fun h => by rw [h, eqb_rfl] at h1; cases h1)).symm, rfl⟩
  ·
   have h1 := bF h1
   refine cx_skip ?_
   refine cx_keep rfl rfl ?_
   refine cx_seq ?_
   refine cx_seq ?_
   refine cx_ops ?_
   refine ax_q (q_fadr_ptr rfl) ?_
   refine ax_q (q_ldN rfl rfl rfl) ?_
   refine ax_q (q_fadr_ptr rfl) ?_
   refine ax_q (q_ldN rfl rfl rfl) ?_
   first | refine ax_call rfl (vc_pure0 (c_eqValue  ) hP rfl rfl ?_) | refine ax_call rfl (vc_lend0 (c_eqValue  ) hP (by repeat (first | exact lal_id _ rfl | exact LAL.nil | refine LAL.cons ?_ ?_ | exact la_id _ rfl | exact LA.lend (lend_whole rfl (by first | (simp; done) | (rw [List.length_map]; rfl))) | refine LA.agg ?_ | refine LA.fn ?_ | refine LA.lend ?_ | exact Lend.d _ | exact Lend.zs _ | exact lend_whole rfl (by first | (simp; done) | (rw [List.length_map]; rfl)) | refine Lend.ptr rfl ?_ | refine Lend.fn ?_ | exact LendL.nil | refine LendL.cons ?_ ?_)) rfl rfl ?_)
   refine ax_q (q_not rfl) ?_
   refine ax_nil ?_
   refine cx_keep rfl rfl ?_
   refine cx_cond rfl (fun h2 => ?_) (fun h2 => ?_)
   ·
    have h2 := bT h2
    refine cx_seq ?_
    refine cx_ops ?_
    refine ax_q (q_mov rfl) ?_
    refine ax_nil ?_
    refine cx_keep rfl rfl ?_
    refine cx_ret (ret0 rfl rfl ?_)
    exact ⟨congrArg AM.bool (eqb_f (fun h => by rw [h, eqb_rfl] at h2; cases h2)).symm, rfl⟩
   ·
    have h2 := bF h2
    refine cx_skip ?_
    refine cx_keep rfl rfl ?_
    refine cx_seq ?_
    refine cx_ops ?_
    refine ax_q (q_mov rfl) ?_
    refine ax_nil ?_
    refine cx_keep rfl rfl ?_
    refine cx_ret (ret0 rfl rfl ?_)
    exact ⟨congrArg AM.bool (eqb_t (GRow.ext1 h0 (eqb_iff.1 h1) (eqb_iff.1 h2))).symm, rfl⟩


/- loop.example/g00332/laws.eqStmt -/
def k_c_eqStmt : XCode :=
 .seq (.ops [.op (some 2) (.box (.t 0)),
   .op (some 3) (.box (.t 1)),
   .op (some 4) (.mov (.k (.bool false)))])
 (.keep [2, 3] (.seq (.seq (.ops [.op (some 5) (.fadr (.t 2) 0),
   .op (some 6) (.load1 (.t 5)),
   .op (some 7) (.fadr (.t 3) 0),
   .op (some 8) (.load1 (.t 7)),
   .op (some 9) (.bin .neq (.t 6) (.t 8))])
  (.keep [2, 3, 9] (.cond (.t 9)
  (.seq (.ops [.op (some 4) (.mov (.k (.bool false)))])
   (.keep [4] (.ret)))
  (.skip))))
 (.keep [2, 3] (.seq (.seq (.ops [.op (some 10) (.fadr (.t 2) 1),
   .op (some 11) (.load1 (.t 10)),
   .op (some 12) (.fadr (.t 3) 1),
   .op (some 13) (.load1 (.t 12)),
   .op (some 14) (.bin .neq (.t 11) (.t 13))])
  (.keep [2, 3, 14] (.cond (.t 14)
  (.seq (.ops [.op (some 4) (.mov (.k (.bool false)))])
   (.keep [4] (.ret)))
  (.skip))))
 (.keep [2, 3] (.seq (.seq (.ops [.op (some 15) (.fadr (.t 2) 2),
   .op (some 16) (.loadN 7 (.t 15)),
   .op (some 17) (.fadr (.t 3) 2),
   .op (some 18) (.loadN 7 (.t 17)),
   .call (some 19) 28 [.t 16, .t 18],
   .op (some 20) (.not (.t 19))])
  (.keep [2, 3, 20] (.cond (.t 20)
  (.seq (.ops [.op (some 4) (.mov (.k (.bool false)))])
   (.keep [4] (.ret)))
  (.skip))))
 (.keep [2, 3] (.seq (.seq (.ops [.op (some 21) (.fadr (.t 2) 9),
   .op (some 22) (.load1 (.t 21)),
   .op (some 23) (.fadr (.t 3) 9),
   .op (some 24) (.load1 (.t 23)),
   .op (some 25) (.bin .neq (.t 22) (.t 24))])
  (.keep [2, 3, 25] (.cond (.t 25)
  (.seq (.ops [.op (some 4) (.mov (.k (.bool false)))])
   (.keep [4] (.ret)))
  (.skip))))
 (.keep [2, 3] (.seq (.seq (.ops [.op (some 26) (.fadr (.t 2) 10),
   .op (some 27) (.loadN 1 (.t 26)),
   .op (some 28) (.fadr (.t 3) 10),
   .op (some 29) (.loadN 1 (.t 28)),
   .call (some 30) 9 [.t 27, .t 29],
   .op (some 31) (.not (.t 30))])
  (.keep [2, 3, 31] (.cond (.t 31)
  (.seq (.ops [.op (some 4) (.mov (.k (.bool false)))])
   (.keep [4] (.ret)))
  (.skip))))
 (.keep [2, 3] (.seq (.seq (.ops [.op (some 32) (.fadr (.t 2) 11),
   .op (some 33) (.loadN 1 (.t 32)),
   .op (some 34) (.fadr (.t 3) 11),
   .op (some 35) (.loadN 1 (.t 34)),
   .call (some 36) 9 [.t 33, .t 35],
   .op (some 37) (.not (.t 36))])
  (.keep [2, 3, 37] (.cond (.t 37)
  (.seq (.ops [.op (some 4) (.mov (.k (.bool false)))])
   (.keep [4] (.ret)))
  (.skip))))
 (.keep [2, 3] (.seq (.seq (.ops [.op (some 38) (.fadr (.t 2) 12),
   .op (some 39) (.load1 (.t 38)),
   .op (some 40) (.fadr (.t 3) 12),
   .op (some 41) (.load1 (.t 40)),
   .op (some 42) (.bin .neq (.t 39) (.t 41))])
  (.keep [2, 3, 42] (.cond (.t 42)
  (.seq (.ops [.op (some 4) (.mov (.k (.bool false)))])
   (.keep [4] (.ret)))
  (.skip))))
 (.keep [2, 3] (.seq (.seq (.ops [.op (some 43) (.fadr (.t 2) 13),
   .op (some 44) (.load1 (.t 43)),
   .op (some 45) (.fadr (.t 3) 13),
   .op (some 46) (.load1 (.t 45)),
   .op (some 47) (.eqb true (.t 44) (.t 46))])
  (.keep [47] (.cond (.t 47)
  (.seq (.ops [.op (some 4) (.mov (.k (.bool false)))])
   (.keep [4] (.ret)))
  (.skip))))
 (.keep [] (.seq (.ops [.op (some 4) (.mov (.k (.bool true)))])
 (.keep [4] (.ret))))))))))))))))))))
theorem k_c_eqStmt_fits : fitsF Tryd.prog 14 ⟨48, k_c_eqStmt, [.t 4]⟩ = true := by kernel_rfl
theorem c_eqStmt {a b : GStmt} (hw0 : a.Set.Nodes.length ≤ 9223372036854775807) (hw1 : a.Where.Nodes.length ≤ 9223372036854775807) : Con Tryd.prog noMv 14 [a.av, b.av] [] (fun r h => r = bool (eqb a b) ∧ h = []) := by
 refine con_of2 k_c_eqStmt_fits rfl fun C hP hmv => ?_
 unfold k_c_eqStmt
 refine cx_seq ?_
 refine cx_ops ?_
 refine ax_e (e_box rfl rfl (by decide) rfl rfl rfl) ?_
 refine ax_e (e_box rfl rfl (by decide) rfl rfl rfl) ?_
 refine ax_q (q_mov rfl) ?_
 refine ax_nil ?_
 refine cx_keep rfl rfl ?_
 refine cx_seq ?_
 refine cx_seq ?_
 refine cx_ops ?_
 refine ax_q (q_fadr_ptr rfl) ?_
 refine ax_q (q_load1_ptr rfl rfl rfl) ?_
 refine ax_q (q_fadr_ptr rfl) ?_
 refine ax_q (q_load1_ptr rfl rfl rfl) ?_
 refine ax_q (q_ibin rfl rfl rfl) ?_
 refine ax_nil ?_
 refine cx_keep rfl rfl ?_
 refine cx_cond rfl (fun h0 => ?_) (fun h0 => ?_)
 ·
  have h0 := nT h0
  refine cx_seq ?_
  refine cx_ops ?_
  refine ax_q (q_mov rfl) ?_
  refine ax_nil ?_
  refine cx_keep rfl rfl ?_
  refine cx_ret (ret0 rfl rfl ?_)
  exact ⟨congrArg AM.bool (eqb_f (fun h => h0 (by rw [h]))).symm, rfl⟩
 ·
  have h0 := nF h0
  refine cx_skip ?_
  refine cx_keep rfl rfl ?_
  refine cx_seq ?_
  refine cx_seq ?_
  refine cx_ops ?_
  refine ax_q (q_fadr_ptr rfl) ?_
  refine ax_q (q_load1_ptr rfl rfl rfl) ?_
  refine ax_q (q_fadr_ptr rfl) ?_
  refine ax_q (q_load1_ptr rfl rfl rfl) ?_
  refine ax_q (q_ibin rfl rfl rfl) ?_
  refine ax_nil ?_
  refine cx_keep rfl rfl ?_
  refine cx_cond rfl (fun h1 => ?_) (fun h1 => ?_)
  ·
   have h1 := nT h1
   refine cx_seq ?_
   refine cx_ops ?_
   refine ax_q (q_mov rfl) ?_
   refine ax_nil ?_
   refine cx_keep rfl rfl ?_
   refine cx_ret (ret0 rfl rfl ?_)
   exact ⟨congrArg AM.bool (eqb_f (fun h => h1 (by rw [h]))).symm, rfl⟩
  ·
   have h1 := nF h1
   refine cx_skip ?_
   refine cx_keep rfl rfl ?_
   refine cx_seq ?_
   refine cx_seq ?_
   refine cx_ops ?_
   refine ax_q (q_fadr_ptr rfl) ?_
   refine ax_q (q_ldN rfl rfl rfl) ?_
   refine ax_q (q_fadr_ptr rfl) ?_
   refine ax_q (q_ldN rfl rfl rfl) ?_
   first | refine ax_call rfl (vc_pure0 (c_eqRow  ) hP rfl rfl ?_) | refine ax_call rfl (vc_lend0 (c_eqRow  ) hP (by repeat (first | exact lal_id _ rfl | exact LAL.nil | refine LAL.cons ?_ ?_ | exact la_id _ rfl | exact LA.lend (lend_whole rfl (by first | (simp; done) | (rw [List.length_map]; rfl))) | refine LA.agg ?_ | refine LA.fn ?_ | refine LA.lend ?_ | exact Lend.d _ | exact Lend.zs _ | exact lend_whole rfl (by first | (simp; done) | (rw [List.length_map]; rfl)) | refine Lend.ptr rfl ?_ | refine Lend.fn ?_ | exact LendL.nil | refine LendL.cons ?_ ?_)) rfl rfl ?_)
   refine ax_q (q_not rfl) ?_
   refine ax_nil ?_
   refine cx_keep rfl rfl ?_
   refine cx_cond rfl (fun h2 => ?_) (fun h2 => ?_)
   ·
    have h2 := bT h2
    refine cx_seq ?_
    refine cx_ops ?_
    refine ax_q (q_mov rfl) ?_
    refine ax_nil ?_
    refine cx_keep rfl rfl ?_
    refine cx_ret (ret0 rfl rfl ?_)
    exact ⟨congrArg AM.bool (eqb_f (fun h => by rw [h, eqb_rfl] at h2; cases h2)).symm, rfl⟩
   ·
    have h2 := bF h2
    refine cx_skip ?_
    refine cx_keep rfl rfl ?_
    refine cx_seq ?_
    refine cx_seq ?_
    refine cx_ops ?_
    refine ax_q (q_fadr_ptr rfl) ?_
    refine ax_q (q_load1_ptr rfl rfl rfl) ?_
    refine ax_q (q_fadr_ptr rfl) ?_
    refine ax_q (q_load1_ptr rfl rfl rfl) ?_
    refine ax_q (q_ibin rfl rfl rfl) ?_
    refine ax_nil ?_
    refine cx_keep rfl rfl ?_
    refine cx_cond rfl (fun h3 => ?_) (fun h3 => ?_)
    ·
     have h3 := nT h3
     refine cx_seq ?_
     refine cx_ops ?_
     refine ax_q (q_mov rfl) ?_
     refine ax_nil ?_
     refine cx_keep rfl rfl ?_
     refine cx_ret (ret0 rfl rfl ?_)
     exact ⟨congrArg AM.bool (eqb_f (fun h => h3 (by rw [h]))).symm, rfl⟩
    ·
     have h3 := nF h3
     refine cx_skip ?_
     refine cx_keep rfl rfl ?_
     refine cx_seq ?_
     refine cx_seq ?_
     refine cx_ops ?_
     refine ax_q (q_fadr_ptr rfl) ?_
     refine ax_q (q_ldN rfl rfl rfl) ?_
     refine ax_q (q_fadr_ptr rfl) ?_
     refine ax_q (q_ldN rfl rfl rfl) ?_
     first | refine ax_call rfl (vc_pure0 (c_eqExpr  ?_) hP rfl rfl ?_) | refine ax_call rfl (vc_lend0 (c_eqExpr  ?_) hP (by repeat (first | exact lal_id _ rfl | exact LAL.nil | refine LAL.cons ?_ ?_ | exact la_id _ rfl | exact LA.lend (lend_whole rfl (by first | (simp; done) | (rw [List.length_map]; rfl))) | refine LA.agg ?_ | refine LA.fn ?_ | refine LA.lend ?_ | exact Lend.d _ | exact Lend.zs _ | exact lend_whole rfl (by first | (simp; done) | (rw [List.length_map]; rfl)) | refine Lend.ptr rfl ?_ | refine Lend.fn ?_ | exact LendL.nil | refine LendL.cons ?_ ?_)) rfl rfl ?_)
     ·
      first | assumption | omega | (simp; done) | (simp; omega)
     refine ax_q (q_not rfl) ?_
     refine ax_nil ?_
     refine cx_keep rfl rfl ?_
     refine cx_cond rfl (fun h4 => ?_) (fun h4 => ?_)
     ·
      have h4 := bT h4
      refine cx_seq ?_
      refine cx_ops ?_
      refine ax_q (q_mov rfl) ?_
      refine ax_nil ?_
      refine cx_keep rfl rfl ?_
      refine cx_ret (ret0 rfl rfl ?_)
      exact ⟨congrArg AM.bool (eqb_f (fun h => by rw [h, eqb_rfl] at h4; cases h4)).symm, rfl⟩
     ·
      have h4 := bF h4
      refine cx_skip ?_
      refine cx_keep rfl rfl ?_
      refine cx_seq ?_
      refine cx_seq ?_
      refine cx_ops ?_
      refine ax_q (q_fadr_ptr rfl) ?_
      refine ax_q (q_ldN rfl rfl rfl) ?_
      refine ax_q (q_fadr_ptr rfl) ?_
      refine ax_q (q_ldN rfl rfl rfl) ?_
      first | refine ax_call rfl (vc_pure0 (c_eqExpr  ?_) hP rfl rfl ?_) | refine ax_call rfl (vc_lend0 (c_eqExpr  ?_) hP (by repeat (first | exact lal_id _ rfl | exact LAL.nil | refine LAL.cons ?_ ?_ | exact la_id _ rfl | exact LA.lend (lend_whole rfl (by first | (simp; done) | (rw [List.length_map]; rfl))) | refine LA.agg ?_ | refine LA.fn ?_ | refine LA.lend ?_ | exact Lend.d _ | exact Lend.zs _ | exact lend_whole rfl (by first | (simp; done) | (rw [List.length_map]; rfl)) | refine Lend.ptr rfl ?_ | refine Lend.fn ?_ | exact LendL.nil | refine LendL.cons ?_ ?_)) rfl rfl ?_)
      ·
       first | assumption | omega | (simp; done) | (simp; omega)
      refine ax_q (q_not rfl) ?_
      refine ax_nil ?_
      refine cx_keep rfl rfl ?_
      refine cx_cond rfl (fun h5 => ?_) (fun h5 => ?_)
      ·
       have h5 := bT h5
       refine cx_seq ?_
       refine cx_ops ?_
       refine ax_q (q_mov rfl) ?_
       refine ax_nil ?_
       refine cx_keep rfl rfl ?_
       refine cx_ret (ret0 rfl rfl ?_)
       exact ⟨congrArg AM.bool (eqb_f (fun h => by rw [h, eqb_rfl] at h5; cases h5)).symm, rfl⟩
      ·
       have h5 := bF h5
       refine cx_skip ?_
       refine cx_keep rfl rfl ?_
       refine cx_seq ?_
       refine cx_seq ?_
       refine cx_ops ?_
       refine ax_q (q_fadr_ptr rfl) ?_
       refine ax_q (q_load1_ptr rfl rfl rfl) ?_
       refine ax_q (q_fadr_ptr rfl) ?_
       refine ax_q (q_load1_ptr rfl rfl rfl) ?_
       refine ax_q (q_ibin rfl rfl rfl) ?_
       refine ax_nil ?_
       refine cx_keep rfl rfl ?_
       refine cx_cond rfl (fun h6 => ?_) (fun h6 => ?_)
       ·
        have h6 := nT h6
        refine cx_seq ?_
        refine cx_ops ?_
        refine ax_q (q_mov rfl) ?_
        refine ax_nil ?_
        refine cx_keep rfl rfl ?_
        refine cx_ret (ret0 rfl rfl ?_)
        exact ⟨congrArg AM.bool (eqb_f (fun h => h6 (by rw [h]))).symm, rfl⟩
       ·
        have h6 := nF h6
        refine cx_skip ?_
        refine cx_keep rfl rfl ?_
        refine cx_seq ?_
        refine cx_seq ?_
        refine cx_ops ?_
        refine ax_q (q_fadr_ptr rfl) ?_
        refine ax_q (q_load1_ptr rfl rfl rfl) ?_
        refine ax_q (q_fadr_ptr rfl) ?_
        refine ax_q (q_load1_ptr rfl rfl rfl) ?_
        refine ax_q (q_eqb rfl rfl) ?_
        refine ax_nil ?_
        refine cx_keep rfl rfl ?_
        refine cx_cond rfl (fun h7 => ?_) (fun h7 => ?_)
        ·
         have h7 := bneT h7
         refine cx_seq ?_
         refine cx_ops ?_
         refine ax_q (q_mov rfl) ?_
         refine ax_nil ?_
         refine cx_keep rfl rfl ?_
         refine cx_ret (ret0 rfl rfl ?_)
         exact ⟨congrArg AM.bool (eqb_f (fun h => h7 (by rw [h]))).symm, rfl⟩
        ·
         have h7 := bneF h7
         refine cx_skip ?_
         refine cx_keep rfl rfl ?_
         refine cx_seq ?_
         refine cx_ops ?_
         refine ax_q (q_mov rfl) ?_
         refine ax_nil ?_
         refine cx_keep rfl rfl ?_
         refine cx_ret (ret0 rfl rfl ?_)
         exact ⟨congrArg AM.bool (eqb_t (GStmt.ext1 h0 h1 (eqb_iff.1 h2) h3 (eqb_iff.1 h4) (eqb_iff.1 h5) h6 h7)).symm, rfl⟩

end Go.Proofs.YtglpaaehiibfpaaDoor
