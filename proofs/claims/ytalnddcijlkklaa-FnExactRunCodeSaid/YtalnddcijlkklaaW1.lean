/- The walks: what each function computes, as a contract without a world (part 1). -/
import Derived.Test.YtalnddcijlkklaaProg
import Derived.Test.YtalnddcijlkklaaW0
namespace Go.Proofs.Ytalnddcijlkklaa
open Go Go.AM
set_option maxRecDepth 10000
set_option linter.unusedVariables false
/- loop.example/g00332/spec.l11Run -/
def k_c_l11Run : XCode :=
  .seq (.ops [.op (some 3) (.box (.t 1)),
     .op (some 4) (.alloc [.int .i64 0, .int .i64 0, .str []]),
     .op (some 5) (.mov (.k (.int .i64 0)))])
  (.keep [0, 3, 4] (.seq (.ops [.op (some 12) (.bslice 3 []),
     .op (some 6) (.mov (.t 12))])
  (.keep [0, 3, 4, 6] (.seq (.seq (.ops [.op (some 7) (.mov (.k (.int .i64 0)))])
   (.keep [0, 3, 4, 6, 7] (.block 0 (.loop (.seq (.seq (.ops [.op (some 13) (.mov (.t 7)),
         .op (some 14) (.mov (.t 0)),
         .op (some 15) (.lenS (.t 14)),
         .op (some 16) (.bin .lss (.t 13) (.t 15))])
      (.keep [0, 3, 4, 6, 7, 16] (.cond (.t 16)
       (.skip)
       (.exit 0))))
     (.keep [0, 3, 4, 6, 7] (.seq (.block 1 (.seq (.ops [.op (some 19) (.mov (.t 0)),
          .op (some 20) (.mov (.t 7)),
          .op (some 21) (.iadr 5 (.t 19) (.t 20)),
          .op (some 22) (.loadN 5 (.t 21)),
          .op (some 8) (.alloc [.int .i64 0, .int .i64 0, .int .i64 0, .int .i64 0, .str []]),
          .op none (.store 5 (.t 8) (.t 22))])
       (.keep [0, 3, 4, 6, 7, 8] (.seq (.ops [.op (some 23) (.mov (.t 6)),
          .op (some 24) (.lenS (.t 23)),
          .op (some 25) (.bin .sub (.t 24) (.k (.int .i64 1))),
          .op (some 9) (.mov (.t 25))])
       (.keep [0, 3, 4, 6, 7, 8, 9] (.seq (.ops [.op (some 10) (.mov (.k (.int .i64 0)))])
       (.keep [0, 3, 4, 6, 7, 8, 9, 10] (.seq (.seq (.ops [.op (some 26) (.fadr (.t 8) 0),
           .op (some 27) (.load1 (.t 26))])
        (.keep [0, 3, 4, 6, 7, 8, 9, 10, 27] (.block 2 (.seq (.ops [.op (some 56) (.bin .eql (.t 27) (.k (.int .i64 1))),
            .op (some 55) (.mov (.t 56))])
         (.keep [0, 3, 4, 6, 7, 8, 9, 10, 27, 55] (.cond (.t 55)
          (.ops [.op (some 57) (.mov (.t 6)),
             .op (some 58) (.fadr (.t 8) 2),
             .op (some 59) (.loadN 3 (.t 58)),
             .op (some 60) (.bslice 3 [.t 59]),
             .op (some 61) (.app 3 32 [.int .i64 0, .int .i64 0, .str []] (.t 57) (.t 60)),
             .op (some 6) (.mov (.t 61))])
          (.seq (.ops [.op (some 63) (.bin .eql (.t 27) (.k (.int .i64 2))),
              .op (some 62) (.mov (.t 63))])
           (.keep [0, 3, 4, 6, 7, 8, 9, 10, 27, 62] (.cond (.t 62)
            (.ops [.op (some 64) (.mov (.t 6)),
               .op (some 65) (.loadN 7 (.t 3)),
               .op (some 66) (.fadr (.t 8) 1),
               .op (some 67) (.load1 (.t 66)),
               .call (some 68) 84 [.t 65, .t 67],
               .op (some 69) (.bslice 3 [.t 68]),
               .op (some 70) (.app 3 32 [.int .i64 0, .int .i64 0, .str []] (.t 64) (.t 69)),
               .op (some 6) (.mov (.t 70))])
            (.seq (.ops [.op (some 72) (.bin .eql (.t 27) (.k (.int .i64 3))),
                .op (some 71) (.mov (.t 72))])
             (.keep [0, 3, 4, 6, 7, 8, 9, 10, 27, 71] (.cond (.t 71)
              (.drawE [[], [], [], [2], [], [], [4, 5], [4, 5, 6], [2, 3, 4, 5, 6, 7], [2, 3, 4, 5, 6, 7, 8], [2, 3, 4, 5, 6, 7, 8, 9], [2, 3, 4, 5, 6, 7, 8, 9], [0, 1, 2, 3, 4, 5, 6, 7, 8, 9, 10], [0, 1, 2, 3, 4, 5, 6, 7, 8, 9, 10, 12], [0, 1, 2, 3, 4, 5, 6, 7, 8, 9, 10, 11, 12, 13]] [.op (some 74) (.mov (.t 6)),
                 .op (some 75) (.mov (.t 9)),
                 .op (some 76) (.fadr (.t 8) 1),
                 .op (some 77) (.load1 (.t 76)),
                 .op (some 78) (.mov (.t 6)),
                 .op (some 79) (.mov (.t 9)),
                 .op (some 80) (.iadr 3 (.t 78) (.t 79)),
                 .op (some 81) (.loadN 3 (.t 80)),
                 .call (some 82) 85 [.t 77, .t 81],
                 .op (some 73) (.mov (.t 82)),
                 .op (some 83) (.ext (.t 73) 0),
                 .op (some 84) (.ext (.t 73) 1),
                 .op (some 85) (.iadr 3 (.t 74) (.t 75)),
                 .op none (.store 3 (.t 85) (.t 83))]
                [.op (some 10) (.mov (.t 84))])
              (.seq (.ops [.op (some 87) (.bin .eql (.t 27) (.k (.int .i64 4))),
                  .op (some 86) (.mov (.t 87))])
               (.keep [0, 3, 4, 6, 7, 8, 9, 10, 86] (.cond (.t 86)
                (.seq (.drawE [[], [], [1], [], [3], [], [], [6], [5, 6, 7], [5, 6, 7, 8], [], [], [10, 11], [10, 11, 12], [3, 4, 5, 6, 7, 8, 9, 10, 11, 12, 13], [3, 4, 5, 6, 7, 8, 9, 10, 11, 12, 13, 14], [3, 4, 5, 6, 7, 8, 9, 10, 11, 12, 13, 14, 15], [3, 4, 5, 6, 7, 8, 9, 10, 11, 12, 13, 14, 15], [0, 1, 2, 3, 4, 5, 6, 7, 8, 9, 10, 11, 12, 13, 14, 15, 16], [0, 1, 2, 3, 4, 5, 6, 7, 8, 9, 10, 11, 12, 13, 14, 15, 16, 18], [0, 1, 2, 3, 4, 5, 6, 7, 8, 9, 10, 11, 12, 13, 14, 15, 16, 17, 18, 19]] [.op (some 89) (.mov (.t 6)),
                    .op (some 90) (.mov (.t 9)),
                    .op (some 91) (.bin .sub (.t 90) (.k (.int .i64 1))),
                    .op (some 92) (.fadr (.t 8) 1),
                    .op (some 93) (.load1 (.t 92)),
                    .op (some 94) (.mov (.t 6)),
                    .op (some 95) (.mov (.t 9)),
                    .op (some 96) (.bin .sub (.t 95) (.k (.int .i64 1))),
                    .op (some 97) (.iadr 3 (.t 94) (.t 96)),
                    .op (some 98) (.loadN 3 (.t 97)),
                    .op (some 99) (.mov (.t 6)),
                    .op (some 100) (.mov (.t 9)),
                    .op (some 101) (.iadr 3 (.t 99) (.t 100)),
                    .op (some 102) (.loadN 3 (.t 101)),
                    .call (some 103) 87 [.t 93, .t 98, .t 102],
                    .op (some 88) (.mov (.t 103)),
                    .op (some 104) (.ext (.t 88) 0),
                    .op (some 105) (.ext (.t 88) 1),
                    .op (some 106) (.iadr 3 (.t 89) (.t 91)),
                    .op none (.store 3 (.t 106) (.t 104))]
                   [.op (some 10) (.mov (.t 105))])
                 (.keep [0, 3, 4, 6, 7, 9, 10] (.ops [.op (some 107) (.mov (.t 6)),
                   .op (some 108) (.mov (.t 9)),
                   .op (some 109) (.slc 3 (.t 107) none (some (.t 108)) none),
                   .op (some 6) (.mov (.t 109))])))
                (.seq (.ops [.op (some 28) (.mov (.t 6)),
                    .op (some 29) (.mov (.t 9)),
                    .op (some 30) (.iadr 3 (.t 28) (.t 29)),
                    .op (some 31) (.loadN 3 (.t 30)),
                    .op (some 11) (.alloc [.int .i64 0, .int .i64 0, .str []]),
                    .op none (.store 3 (.t 11) (.t 31))])
                 (.keep [0, 3, 4, 6, 7, 8, 9, 10, 11] (.seq (.ops [.op (some 32) (.fadr (.t 11) 0),
                    .op (some 33) (.load1 (.t 32)),
                    .op (some 34) (.bin .eql (.t 33) (.k (.int .i64 1))),
                    .op (some 35) (.mov (.t 34)),
                    .andor 43 true 3 35 [.op (some 36) (.fadr (.t 11) 1), .op (some 37) (.load1 (.t 36)), .op (some 38) (.bin .eql (.t 37) (.k (.int .i64 0))), .op (some 39) (.fadr (.t 8) 0), .op (some 40) (.load1 (.t 39)), .op (some 41) (.bin .eql (.t 40) (.k (.int .i64 5))), .op (some 42) (.eqb false (.t 38) (.t 41))] (.t 42)])
                 (.keep [0, 3, 4, 6, 7, 8, 9, 10, 43] (.cond (.t 43)
                  (.seq (.ops [.op (some 44) (.mov (.t 6)),
                      .op (some 45) (.mov (.t 9)),
                      .op (some 46) (.fadr (.t 8) 0),
                      .op (some 47) (.load1 (.t 46)),
                      .op (some 48) (.bin .eql (.t 47) (.k (.int .i64 6))),
                      .call (some 49) 80 [.t 48],
                      .call (some 50) 86 [.t 49],
                      .op (some 51) (.iadr 3 (.t 44) (.t 45)),
                      .op none (.store 3 (.t 51) (.t 50))])
                   (.keep [0, 3, 4, 6, 8, 10] (.ops [.op (some 52) (.fadr (.t 8) 1),
                     .op (some 53) (.load1 (.t 52)),
                     .op (some 54) (.bin .sub (.t 53) (.k (.int .i64 1))),
                     .op (some 7) (.mov (.t 54))])))
                  (.skip)))))))))))))))))))))
       (.keep [0, 3, 4, 6, 7, 10] (.seq (.ops [.op (some 110) (.mov (.t 10)),
          .op (some 111) (.bin .neq (.t 110) (.k (.int .i64 0)))])
       (.keep [0, 3, 4, 6, 7, 10, 111] (.cond (.t 111)
        (.seq (.ops [.op (some 112) (.build [.int .i64 0, .int .i64 0, .str []] []),
            .op (some 113) (.mov (.t 10)),
            .op none (.store 3 (.t 4) (.t 112)),
            .op (some 5) (.mov (.t 113))])
         (.keep [4, 5] (.ret)))
        (.skip)))))))))))))
     (.keep [0, 3, 4, 6, 7] (.ops [.op (some 17) (.mov (.t 7)),
       .op (some 18) (.bin .add (.t 17) (.k (.int .i64 1))),
       .op (some 7) (.mov (.t 18))])))))))))
  (.keep [4, 6] (.seq (.ops [.op (some 114) (.mov (.t 6)),
     .op (some 115) (.iadr 3 (.t 114) (.k (.int .i64 0))),
     .op (some 116) (.loadN 3 (.t 115)),
     .op none (.store 3 (.t 4) (.t 116)),
     .op (some 5) (.mov (.k (.int .i64 0)))])
  (.keep [4, 5] (.ret))))))))
theorem k_c_l11Run_fits : fitsF Try.prog 67 ⟨117, k_c_l11Run, [.cN 4 3, .t 5]⟩ = true := by kernel_rfl
set_option maxHeartbeats 8000000 in
theorem c_l11Run {l : List GIns} {w : GRow} (hc : codeOK l = true) (hw : RR w) : Con Try.prog noMv 67 [.d (.sl 5 (l.map GIns.row)), w.av] [] (fun r h => r = .tup [(runA l w 0 []).1.av, int (runA l w 0 []).2] ∧ h = []) := by
  refine con_of2 k_c_l11Run_fits rfl fun C hP hmv => ?_
  unfold k_c_l11Run
  obtain ⟨hl, ds, hr, hF, hd1, hd0, hok, hdl, hg⟩ := code_fit hc
  refine cx_seq ?_
  refine cx_ops ?_
  refine ax_e (e_box rfl rfl (by decide) rfl rfl rfl) ?_
  refine ax_e (e_alloc (by decide) rfl rfl) ?_
  refine ax_q (q_mov rfl) ?_
  refine ax_nil ?_
  refine cx_keep rfl rfl ?_
  refine cx_seq ?_
  refine cx_ops ?_
  refine ax_e (e_bslice rfl (by decide) rfl rfl) ?_
  refine ax_q (q_mov rfl) ?_
  refine ax_nil ?_
  refine cx_keep rfl rfl ?_
  refine cx_seq ?_
  refine cx_seq ?_
  refine cx_ops ?_
  refine ax_q (q_mov rfl) ?_
  refine ax_nil ?_
  refine cx_keep rfl rfl ?_
  refine cx_block ?_
  refine cx_loopU (fun n (p : Nat × List GValue × Nat) => p.1 ≤ l.length ∧ n = l.length - p.1 ∧ Stk ds p.1 p.2.1 ∧ runA l w 0 [] = runA l w p.1 p.2.1 ∧ p.2.2 = p.2.1.length) (fun p => [(7, int p.1), (6, .osl 12 3 0 p.2.2)]) (fun p => [(12, .rows 3 (p.2.1.map GValue.row)), (3, .box [.d (.int .i64 w.Id), .d (.int .i64 w.N.Kind), .d (.int .i64 w.N.N), .d (.str w.N.T), .d (.int .i64 w.Name.Kind), .d (.int .i64 w.Name.N), .d (.str w.Name.T)]), (4, .box [.d (.int .i64 0), .d (.int .i64 0), .d (.str [])])]) ⟨_, (0, [], 0), ⟨Nat.zero_le _, rfl, ⟨hd0.symm, fun v hv => by cases hv⟩, rfl, rfl⟩, by repeat (first | exact trivial | refine ⟨rfl, ?_⟩ | refine ⟨?_, ?_⟩)⟩ ?_
  rintro n ⟨k, S, m⟩ ⟨hk, rfl, hS, hrun, hm⟩
  simp only at hk hS hrun hm ⊢
  subst hm
  have hsl := hS.len
  have hdk := dB hg (k := k) (by omega)
  refine cx_seq ?_
  refine cx_seq ?_
  refine cx_ops ?_
  refine ax_q (q_mov rfl) ?_
  refine ax_q (q_mov rfl) ?_
  first | refine ax_q (q_lenS_map rfl) ?_ | refine ax_q (q_lenS_osl rfl) ?_ | refine ax_q (q_lenS_zs rfl) ?_ | refine ax_q (q_lenS rfl) ?_
  refine ax_q (q_ibin rfl rfl rfl) ?_
  refine ax_nil ?_
  refine cx_keep rfl rfl ?_
  refine cx_cond rfl (fun h0 => ?_) (fun h0 => ?_)
  · have h0 := dT h0
    have h0x : k < l.length := by omega
    have hf := hF k h0x
    have hnn := hf.nn
    have hlow := hf.low
    have hins := ins_V hf.ok
    have hI := ins_low hf.ok
    refine cx_skip ?_
    refine cx_keep rfl rfl ?_
    refine cx_seq ?_
    refine cx_block ?_
    refine cx_seq ?_
    refine cx_ops ?_
    refine ax_q (q_mov rfl) ?_
    refine ax_q (q_mov rfl) ?_
    first | refine ax_q (q_ix rfl rfl (by assumption)) ?_ | refine ax_q (q_ix rfl rfl (mapAt (by first | assumption | omega))) ?_ | refine ax_q (q_ixo rfl rfl (by first | assumption | omega)) ?_ | refine ax_q (q_ixI rfl rfl (by omega) (mapAt (by first | assumption | omega))) ?_ | refine ax_q (q_ixoI rfl rfl (by omega) (by omega)) ?_
    first | refine ax_q (q_ldN rfl rfl rfl) ?_ | refine ax_q (q_loadN_ip rfl (Nat.le_refl _)) ?_ | refine ax_q (q_loadN_ip rfl (by decide)) ?_ | refine ax_q (q_loadN_rptr rfl rfl (by assumption) (by decide)) ?_ | refine ax_q (q_loadN_rptr rfl rfl (mapAt (by first | assumption | omega)) (by decide)) ?_
    refine ax_e (e_alloc (by decide) rfl rfl) ?_
    refine ax_e (e_st rfl rfl rfl rfl rfl rfl rfl) ?_
    refine ax_nil ?_
    refine cx_keep rfl rfl ?_
    refine cx_seq ?_
    refine cx_ops ?_
    refine ax_q (q_mov rfl) ?_
    first | refine ax_q (q_lenS_map rfl) ?_ | refine ax_q (q_lenS_osl rfl) ?_ | refine ax_q (q_lenS_zs rfl) ?_ | refine ax_q (q_lenS rfl) ?_
    refine ax_q (q_sub rfl rfl (by omega)) ?_
    refine ax_q (q_mov rfl) ?_
    refine ax_nil ?_
    refine cx_keep rfl rfl ?_
    refine cx_seq ?_
    refine cx_ops ?_
    refine ax_q (q_mov rfl) ?_
    refine ax_nil ?_
    refine cx_keep rfl rfl ?_
    refine cx_seq ?_
    refine cx_seq ?_
    refine cx_ops ?_
    first | refine ax_q (q_fadr_ptr rfl) ?_ | refine ax_q (q_fadr_rptr rfl) ?_ | refine ax_q (q_fadr_ip rfl) ?_
    first | refine ax_q (q_load1_ptr rfl rfl rfl) ?_ | refine ax_q (q_load1_ip rfl) ?_ | refine ax_q (q_load1_rptr rfl rfl rfl rfl) ?_ | refine ax_q (q_load1_rptr rfl rfl (by assumption) rfl) ?_ | refine ax_q (q_load1_rptr rfl rfl (mapAt (by first | assumption | omega)) rfl) ?_
    refine ax_nil ?_
    refine cx_keep rfl rfl ?_
    refine cx_block ?_
    refine cx_seq ?_
    refine cx_ops ?_
    refine ax_q (q_ibin rfl rfl rfl) ?_
    refine ax_q (q_mov rfl) ?_
    refine ax_nil ?_
    refine cx_keep rfl rfl ?_
    refine cx_cond rfl (fun h1 => ?_) (fun h1 => ?_)
    · have h1 := dT h1
      refine cx_ops ?_
      refine ax_q (q_mov rfl) ?_
      first | refine ax_q (q_fadr_ptr rfl) ?_ | refine ax_q (q_fadr_rptr rfl) ?_ | refine ax_q (q_fadr_ip rfl) ?_
      first | refine ax_q (q_ldN rfl rfl rfl) ?_ | refine ax_q (q_loadN_ip rfl (Nat.le_refl _)) ?_ | refine ax_q (q_loadN_ip rfl (by decide)) ?_ | refine ax_q (q_loadN_rptr rfl rfl (by assumption) (by decide)) ?_ | refine ax_q (q_loadN_rptr rfl rfl (mapAt (by first | assumption | omega)) (by decide)) ?_
      refine ax_e (e_bslice rfl (by decide) rfl rfl) ?_
      refine ax_e (e_appn (n' := (S ++ [l[k].V]).length) (rs' := (S ++ [l[k].V]).map GValue.row) rfl rfl (by simp) rfl (src_osl rfl (by simp)) (.inl (by decide)) (hbnd (by omega) (by simp) (by decide)) (by simp) (app1 rfl)) ?_
      refine ax_q (q_mov rfl) ?_
      refine ax_nil ?_
      refine cx_keep rfl rfl ?_
      refine cx_seq ?_
      refine cx_ops ?_
      refine ax_q (q_mov rfl) ?_
      refine ax_q (q_ibin rfl rfl rfl) ?_
      refine ax_nil ?_
      refine cx_keep rfl rfl ?_
      refine cx_cond rfl (fun h6 => ?_) (fun h6 => ?_)
      · have h6 := nT h6
        exact absurd rfl h6
      · have h6 := nF h6
        refine cx_skip ?_
        refine cx_keep rfl rfl ?_
        refine cx_ops ?_
        refine ax_q (q_mov rfl) ?_
        refine ax_qe (r' := int ((k + 1 : Nat) : Int)) (q_ibin rfl rfl rfl) (by rw [wi (by omega) (by omega)]; rfl) ?_
        refine ax_q (q_mov rfl) ?_
        refine ax_nil ?_
        have hn : nxF l[k] w k S = .go (k + 1) (S ++ [l[k].V]) := nx_1 h1
        have hge := nx_ge (l := l) hf.ok h0x hn
        exact ⟨_, (k + 1, S ++ [l[k].V], (S ++ [l[k].V]).length), by simp only; omega, ⟨by simp only; omega, rfl, stk_next hf h0x hS hw hn, hrun.trans (runA_go hok h0x hn), rfl⟩, by repeat (first | exact trivial | refine ⟨rfl, ?_⟩ | refine ⟨?_, ?_⟩)⟩
    · have h1 := dF h1
      refine cx_seq ?_
      refine cx_ops ?_
      refine ax_q (q_ibin rfl rfl rfl) ?_
      refine ax_q (q_mov rfl) ?_
      refine ax_nil ?_
      refine cx_keep rfl rfl ?_
      refine cx_cond rfl (fun h2 => ?_) (fun h2 => ?_)
      · have h2 := dT h2
        refine cx_ops ?_
        refine ax_q (q_mov rfl) ?_
        first | refine ax_q (q_ldN rfl rfl rfl) ?_ | refine ax_q (q_loadN_ip rfl (Nat.le_refl _)) ?_ | refine ax_q (q_loadN_ip rfl (by decide)) ?_ | refine ax_q (q_loadN_rptr rfl rfl (by assumption) (by decide)) ?_ | refine ax_q (q_loadN_rptr rfl rfl (mapAt (by first | assumption | omega)) (by decide)) ?_
        first | refine ax_q (q_fadr_ptr rfl) ?_ | refine ax_q (q_fadr_rptr rfl) ?_ | refine ax_q (q_fadr_ip rfl) ?_
        first | refine ax_q (q_load1_ptr rfl rfl rfl) ?_ | refine ax_q (q_load1_ip rfl) ?_ | refine ax_q (q_load1_rptr rfl rfl rfl rfl) ?_ | refine ax_q (q_load1_rptr rfl rfl (by assumption) rfl) ?_ | refine ax_q (q_load1_rptr rfl rfl (mapAt (by first | assumption | omega)) rfl) ?_
        first | refine ax_call rfl (vc_pure0 (c_sColumn  ) hP rfl rfl ?_) | refine ax_call rfl (vc_lend0 (c_sColumn  ) hP (by repeat (first | exact lal_id _ rfl | exact LAL.nil | refine LAL.cons ?_ ?_ | exact la_id _ rfl | exact LA.lend (lend_whole rfl (by first | (simp; done) | (rw [List.length_map]; rfl))) | refine LA.agg ?_ | refine LA.fn ?_ | refine LA.lend ?_ | exact Lend.d _ | exact Lend.zs _ | exact lend_whole rfl (by first | (simp; done) | (rw [List.length_map]; rfl)) | refine Lend.ptr rfl ?_ | refine Lend.fn ?_ | exact LendL.nil | refine LendL.cons ?_ ?_)) rfl rfl ?_)
        refine ax_e (e_bslice rfl (by decide) rfl rfl) ?_
        refine ax_e (e_appn (n' := (S ++ [colF w l[k].N]).length) (rs' := (S ++ [colF w l[k].N]).map GValue.row) rfl rfl (by simp) rfl (src_osl rfl (by simp)) (.inl (by decide)) (hbnd (by omega) (by simp) (by decide)) (by simp) (app1 rfl)) ?_
        refine ax_q (q_mov rfl) ?_
        refine ax_nil ?_
        refine cx_keep rfl rfl ?_
        refine cx_seq ?_
        refine cx_ops ?_
        refine ax_q (q_mov rfl) ?_
        refine ax_q (q_ibin rfl rfl rfl) ?_
        refine ax_nil ?_
        refine cx_keep rfl rfl ?_
        refine cx_cond rfl (fun h6 => ?_) (fun h6 => ?_)
        · have h6 := nT h6
          exact absurd rfl h6
        · have h6 := nF h6
          refine cx_skip ?_
          refine cx_keep rfl rfl ?_
          refine cx_ops ?_
          refine ax_q (q_mov rfl) ?_
          refine ax_qe (r' := int ((k + 1 : Nat) : Int)) (q_ibin rfl rfl rfl) (by rw [wi (by omega) (by omega)]; rfl) ?_
          refine ax_q (q_mov rfl) ?_
          refine ax_nil ?_
          have hn : nxF l[k] w k S = .go (k + 1) (S ++ [colF w l[k].N]) := nx_2 h2
          have hge := nx_ge (l := l) hf.ok h0x hn
          exact ⟨_, (k + 1, S ++ [colF w l[k].N], (S ++ [colF w l[k].N]).length), by simp only; omega, ⟨by simp only; omega, rfl, stk_next hf h0x hS hw hn, hrun.trans (runA_go hok h0x hn), rfl⟩, by repeat (first | exact trivial | refine ⟨rfl, ?_⟩ | refine ⟨?_, ?_⟩)⟩
      · have h2 := dF h2
        refine cx_seq ?_
        refine cx_ops ?_
        refine ax_q (q_ibin rfl rfl rfl) ?_
        refine ax_q (q_mov rfl) ?_
        refine ax_nil ?_
        refine cx_keep rfl rfl ?_
        refine cx_cond rfl (fun h3 => ?_) (fun h3 => ?_)
        · have h3 := dT h3
          have hlw : lowI l[k] = 1 := by unfold lowI; rw [if_neg (by omega), if_neg (by omega)]
          refine cx_drawL 13 5000 (fun _ => false) (fun _ => true) [] ([(12, .rows 3 ((S.set (S.length - 1) (unF l[k].N (lastV S)).1).map GValue.row))]) [[6], [9], [8], [76], [6], [9], [78, 79], [80], [77, 81], [82], [73], [73], [74, 75], [83, 85]] [[], [], [], [], [], [], [], [], [], [], [], [12], [], [12]] rfl ?_
          first | refine ⟨_, .inr ⟨rfl, _, rfl, .inl rfl, loc_q (q_mov rfl)⟩, ?_⟩
          first | refine ⟨_, .inr ⟨rfl, _, rfl, .inl rfl, loc_q (q_mov rfl)⟩, ?_⟩
          first | refine ⟨_, .inr ⟨rfl, _, rfl, .inl rfl, loc_q (q_fadr_ptr rfl)⟩, ?_⟩ | refine ⟨_, .inr ⟨rfl, _, rfl, .inl rfl, loc_q (q_fadr_rptr rfl)⟩, ?_⟩ | refine ⟨_, .inr ⟨rfl, _, rfl, .inl rfl, loc_q (q_fadr_ip rfl)⟩, ?_⟩
          first | refine ⟨_, .inr ⟨rfl, _, rfl, .inl rfl, loc_q (q_load1_ptr rfl rfl rfl)⟩, ?_⟩ | refine ⟨_, .inr ⟨rfl, _, rfl, .inl rfl, loc_q (q_load1_ip rfl)⟩, ?_⟩ | refine ⟨_, .inr ⟨rfl, _, rfl, .inl rfl, loc_q (q_load1_rptr rfl rfl rfl rfl)⟩, ?_⟩ | refine ⟨_, .inr ⟨rfl, _, rfl, .inl rfl, loc_q (q_load1_rptr rfl rfl (by assumption) rfl)⟩, ?_⟩ | refine ⟨_, .inr ⟨rfl, _, rfl, .inl rfl, loc_q (q_load1_rptr rfl rfl (mapAt (by first | assumption | omega)) rfl)⟩, ?_⟩
          first | refine ⟨_, .inr ⟨rfl, _, rfl, .inl rfl, loc_q (q_mov rfl)⟩, ?_⟩
          first | refine ⟨_, .inr ⟨rfl, _, rfl, .inl rfl, loc_q (q_mov rfl)⟩, ?_⟩
          first | refine ⟨_, .inr ⟨rfl, _, rfl, .inl rfl, loc_q (q_ixoI rfl rfl (by omega) (by omega))⟩, ?_⟩
          first | refine ⟨_, .inr ⟨rfl, _, rfl, .inl rfl, loc_q (q_loadN_rptr rfl rfl (lastAt (by omega)) (by decide))⟩, ?_⟩
          have hrl := getD_rv (k := S.length - 1) hS.rv (by omega)
          have hrl : RV (lastV S) := hrl
          first | refine ⟨_, .inr ⟨rfl, _, rfl, .inl rfl, loc_call (fun i => 82 + 200 * i) false rfl (c_sUnary (op := l[k].N) (a := lastV S) (by first | assumption | omega | (simp; done) | (simp; omega))) hP (.inr ⟨rfl, rfl, rfl⟩) rfl rfl (fun h => by cases h)⟩, ?_⟩ | refine ⟨_, .inr ⟨rfl, _, rfl, .inl rfl, loc_call (fun i => 82 + 200 * i) true rfl (c_sUnary (op := l[k].N) (a := lastV S) (by first | assumption | omega | (simp; done) | (simp; omega))) hP (.inl ⟨rfl, (by repeat (first | exact lal_id _ rfl | exact LAL.nil | refine LAL.cons ?_ ?_ | exact la_id _ rfl | exact LA.lend (lend_whole rfl (by first | (simp; done) | (rw [List.length_map]; rfl))) | refine LA.agg ?_ | refine LA.fn ?_ | refine LA.lend ?_ | exact Lend.d _ | exact Lend.zs _ | exact lend_whole rfl (by first | (simp; done) | (rw [List.length_map]; rfl)) | refine Lend.ptr rfl ?_ | refine Lend.fn ?_ | exact LendL.nil | refine LendL.cons ?_ ?_))⟩) rfl rfl (fun _ => ⟨rfl, noisl_of (by repeat (first | exact trivial | refine ⟨noisl_map (fun _ => rfl), ?_⟩ | refine ⟨?_, ?_⟩))⟩)⟩, ?_⟩
          first | refine ⟨_, .inr ⟨rfl, _, rfl, .inl rfl, loc_q (q_mov rfl)⟩, ?_⟩
          first | refine ⟨_, .inr ⟨rfl, _, rfl, .inl rfl, loc_q (q_ext rfl rfl)⟩, ?_⟩
          first | refine ⟨_, .inr ⟨rfl, _, rfl, .inr ⟨rfl, rfl, .inr rfl, rfl, rfl⟩, loc_q (q_ext rfl rfl)⟩, ?_⟩
          first | refine ⟨_, .inr ⟨rfl, _, rfl, .inl rfl, loc_q (q_ixoI rfl rfl (by omega) (by omega))⟩, ?_⟩
          refine ⟨⟨5000, .dead, []⟩, .inl ⟨rfl, rfl, rfl, locl_str (q := GValue.row (unF l[k].N (lastV S)).1) (rs' := (S.set (S.length - 1) (unF l[k].N (lastV S)).1).map GValue.row) rfl rfl rfl rfl rfl rfl (lastAt (by omega)) rfl rfl setLast⟩, ?_⟩
          refine ⟨rfl, ?_⟩
          refine ax_q (q_mov rfl) ?_
          refine ax_nil ?_
          refine cx_keep rfl rfl ?_
          refine cx_seq ?_
          refine cx_ops ?_
          refine ax_q (q_mov rfl) ?_
          refine ax_q (q_ibin rfl rfl rfl) ?_
          refine ax_nil ?_
          refine cx_keep rfl rfl ?_
          refine cx_cond rfl (fun h6 => ?_) (fun h6 => ?_)
          · have h6 := nT h6
            refine cx_seq ?_
            refine cx_ops ?_
            refine ax_q (q_build rfl) ?_
            refine ax_q (q_mov rfl) ?_
            refine ax_e (e_st rfl rfl rfl rfl rfl rfl rfl) ?_
            refine ax_q (q_mov rfl) ?_
            refine ax_nil ?_
            refine cx_keep rfl rfl ?_
            refine cx_ret (ret0 rfl rfl ?_)
            exact ⟨by rw [hrun, runA_no h0x (nx_3n h3 h6)]; rfl, rfl⟩
          · have h6 := nF h6
            refine cx_skip ?_
            refine cx_keep rfl rfl ?_
            refine cx_ops ?_
            refine ax_q (q_mov rfl) ?_
            refine ax_qe (r' := int ((k + 1 : Nat) : Int)) (q_ibin rfl rfl rfl) (by rw [wi (by omega) (by omega)]; rfl) ?_
            refine ax_q (q_mov rfl) ?_
            refine ax_nil ?_
            have hn : nxF l[k] w k S = .go (k + 1) (S.set (S.length - 1) (unF l[k].N (lastV S)).1) := nx_3 h3 h6
            have hge := nx_ge (l := l) hf.ok h0x hn
            exact ⟨_, (k + 1, S.set (S.length - 1) (unF l[k].N (lastV S)).1, S.length), by simp only; omega, ⟨by simp only; omega, rfl, stk_next hf h0x hS hw hn, hrun.trans (runA_go hok h0x hn), by simp only [List.length_set]⟩, by repeat (first | exact trivial | refine ⟨rfl, ?_⟩ | refine ⟨?_, ?_⟩)⟩
        · have h3 := dF h3
          refine cx_seq ?_
          refine cx_ops ?_
          refine ax_q (q_ibin rfl rfl rfl) ?_
          refine ax_q (q_mov rfl) ?_
          refine ax_nil ?_
          refine cx_keep rfl rfl ?_
          refine cx_cond rfl (fun h4 => ?_) (fun h4 => ?_)
          · have h4 := dT h4
            have hlw : lowI l[k] = 2 := by unfold lowI; rw [if_neg (by omega), if_pos (by omega)]
            refine cx_seq ?_
            refine cx_drawL 19 5000 (fun _ => false) (fun _ => true) [] ([(12, .rows 3 ((S.set (S.length - 2) (binF l[k].N (last2 S) (lastV S)).1).map GValue.row))]) [[6], [9], [90], [8], [92], [6], [9], [95], [94, 96], [97], [6], [9], [99, 100], [101], [93, 98, 102], [103], [88], [88], [89, 91], [104, 106]] [[], [], [], [], [], [], [], [], [], [], [], [], [], [], [], [], [], [12], [], [12]] rfl ?_
            first | refine ⟨_, .inr ⟨rfl, _, rfl, .inl rfl, loc_q (q_mov rfl)⟩, ?_⟩
            first | refine ⟨_, .inr ⟨rfl, _, rfl, .inl rfl, loc_q (q_mov rfl)⟩, ?_⟩
            first | refine ⟨_, .inr ⟨rfl, _, rfl, .inl rfl, loc_q (q_sub rfl rfl (by omega))⟩, ?_⟩
            first | refine ⟨_, .inr ⟨rfl, _, rfl, .inl rfl, loc_q (q_fadr_ptr rfl)⟩, ?_⟩ | refine ⟨_, .inr ⟨rfl, _, rfl, .inl rfl, loc_q (q_fadr_rptr rfl)⟩, ?_⟩ | refine ⟨_, .inr ⟨rfl, _, rfl, .inl rfl, loc_q (q_fadr_ip rfl)⟩, ?_⟩
            first | refine ⟨_, .inr ⟨rfl, _, rfl, .inl rfl, loc_q (q_load1_ptr rfl rfl rfl)⟩, ?_⟩ | refine ⟨_, .inr ⟨rfl, _, rfl, .inl rfl, loc_q (q_load1_ip rfl)⟩, ?_⟩ | refine ⟨_, .inr ⟨rfl, _, rfl, .inl rfl, loc_q (q_load1_rptr rfl rfl rfl rfl)⟩, ?_⟩ | refine ⟨_, .inr ⟨rfl, _, rfl, .inl rfl, loc_q (q_load1_rptr rfl rfl (by assumption) rfl)⟩, ?_⟩ | refine ⟨_, .inr ⟨rfl, _, rfl, .inl rfl, loc_q (q_load1_rptr rfl rfl (mapAt (by first | assumption | omega)) rfl)⟩, ?_⟩
            first | refine ⟨_, .inr ⟨rfl, _, rfl, .inl rfl, loc_q (q_mov rfl)⟩, ?_⟩
            first | refine ⟨_, .inr ⟨rfl, _, rfl, .inl rfl, loc_q (q_mov rfl)⟩, ?_⟩
            first | refine ⟨_, .inr ⟨rfl, _, rfl, .inl rfl, loc_q (q_sub rfl rfl (by omega))⟩, ?_⟩
            first | refine ⟨_, .inr ⟨rfl, _, rfl, .inl rfl, loc_q (q_ixoI rfl rfl (by omega) (by omega))⟩, ?_⟩
            first | refine ⟨_, .inr ⟨rfl, _, rfl, .inl rfl, loc_q (q_loadN_rptr rfl rfl (last2At (by omega)) (by decide))⟩, ?_⟩
            first | refine ⟨_, .inr ⟨rfl, _, rfl, .inl rfl, loc_q (q_mov rfl)⟩, ?_⟩
            first | refine ⟨_, .inr ⟨rfl, _, rfl, .inl rfl, loc_q (q_mov rfl)⟩, ?_⟩
            first | refine ⟨_, .inr ⟨rfl, _, rfl, .inl rfl, loc_q (q_ixoI rfl rfl (by omega) (by omega))⟩, ?_⟩
            first | refine ⟨_, .inr ⟨rfl, _, rfl, .inl rfl, loc_q (q_loadN_rptr rfl rfl (lastAt (by omega)) (by decide))⟩, ?_⟩
            have hrl := getD_rv (k := S.length - 1) hS.rv (by omega)
            have hrl : RV (lastV S) := hrl
            have hrl2 := getD_rv (k := S.length - 2) hS.rv (by omega)
            have hrl2 : RV (last2 S) := hrl2
            first | refine ⟨_, .inr ⟨rfl, _, rfl, .inl rfl, loc_call (fun i => 103 + 200 * i) false rfl (c_sBinary (op := l[k].N) (a := last2 S) (b := lastV S) (by first | assumption | omega | (simp; done) | (simp; omega)) (by first | assumption | omega | (simp; done) | (simp; omega))) hP (.inr ⟨rfl, rfl, rfl⟩) rfl rfl (fun h => by cases h)⟩, ?_⟩ | refine ⟨_, .inr ⟨rfl, _, rfl, .inl rfl, loc_call (fun i => 103 + 200 * i) true rfl (c_sBinary (op := l[k].N) (a := last2 S) (b := lastV S) (by first | assumption | omega | (simp; done) | (simp; omega)) (by first | assumption | omega | (simp; done) | (simp; omega))) hP (.inl ⟨rfl, (by repeat (first | exact lal_id _ rfl | exact LAL.nil | refine LAL.cons ?_ ?_ | exact la_id _ rfl | exact LA.lend (lend_whole rfl (by first | (simp; done) | (rw [List.length_map]; rfl))) | refine LA.agg ?_ | refine LA.fn ?_ | refine LA.lend ?_ | exact Lend.d _ | exact Lend.zs _ | exact lend_whole rfl (by first | (simp; done) | (rw [List.length_map]; rfl)) | refine Lend.ptr rfl ?_ | refine Lend.fn ?_ | exact LendL.nil | refine LendL.cons ?_ ?_))⟩) rfl rfl (fun _ => ⟨rfl, noisl_of (by repeat (first | exact trivial | refine ⟨noisl_map (fun _ => rfl), ?_⟩ | refine ⟨?_, ?_⟩))⟩)⟩, ?_⟩
            first | refine ⟨_, .inr ⟨rfl, _, rfl, .inl rfl, loc_q (q_mov rfl)⟩, ?_⟩
            first | refine ⟨_, .inr ⟨rfl, _, rfl, .inl rfl, loc_q (q_ext rfl rfl)⟩, ?_⟩
            first | refine ⟨_, .inr ⟨rfl, _, rfl, .inr ⟨rfl, rfl, .inr rfl, rfl, rfl⟩, loc_q (q_ext rfl rfl)⟩, ?_⟩
            first | refine ⟨_, .inr ⟨rfl, _, rfl, .inl rfl, loc_q (q_ixoI rfl rfl (by omega) (by omega))⟩, ?_⟩
            refine ⟨⟨5000, .dead, []⟩, .inl ⟨rfl, rfl, rfl, locl_str (q := GValue.row (binF l[k].N (last2 S) (lastV S)).1) (rs' := (S.set (S.length - 2) (binF l[k].N (last2 S) (lastV S)).1).map GValue.row) rfl rfl rfl rfl rfl rfl (last2At (by omega)) rfl rfl setLast2⟩, ?_⟩
            refine ⟨rfl, ?_⟩
            refine ax_q (q_mov rfl) ?_
            refine ax_nil ?_
            refine cx_keep rfl rfl ?_
            refine cx_ops ?_
            refine ax_q (q_mov rfl) ?_
            refine ax_q (q_mov rfl) ?_
            refine ax_qe (r' := .osl 12 3 0 ((S.set (S.length - 2) (binF l[k].N (last2 S) (lastV S)).1).take (S.length - 1)).length) (q_slc_osl rfl rfl rfl (by omega) (by omega) (by omega)) (oslE rfl (by rw [List.length_take, List.length_set]; omega)) ?_
            refine ax_wk (wk_rows 12 (rs' := ((S.set (S.length - 2) (binF l[k].N (last2 S) (lastV S)).1).take (S.length - 1)).map GValue.row) rfl take_more) ?_
            refine ax_q (q_mov rfl) ?_
            refine ax_nil ?_
            refine cx_keep rfl rfl ?_
            refine cx_seq ?_
            refine cx_ops ?_
            refine ax_q (q_mov rfl) ?_
            refine ax_q (q_ibin rfl rfl rfl) ?_
            refine ax_nil ?_
            refine cx_keep rfl rfl ?_
            refine cx_cond rfl (fun h6 => ?_) (fun h6 => ?_)
            · have h6 := nT h6
              refine cx_seq ?_
              refine cx_ops ?_
              refine ax_q (q_build rfl) ?_
              refine ax_q (q_mov rfl) ?_
              refine ax_e (e_st rfl rfl rfl rfl rfl rfl rfl) ?_
              refine ax_q (q_mov rfl) ?_
              refine ax_nil ?_
              refine cx_keep rfl rfl ?_
              refine cx_ret (ret0 rfl rfl ?_)
              exact ⟨by rw [hrun, runA_no h0x (nx_4n h4 h6)]; rfl, rfl⟩
            · have h6 := nF h6
              refine cx_skip ?_
              refine cx_keep rfl rfl ?_
              refine cx_ops ?_
              refine ax_q (q_mov rfl) ?_
              refine ax_qe (r' := int ((k + 1 : Nat) : Int)) (q_ibin rfl rfl rfl) (by rw [wi (by omega) (by omega)]; rfl) ?_
              refine ax_q (q_mov rfl) ?_
              refine ax_nil ?_
              have hn : nxF l[k] w k S = .go (k + 1) ((S.set (S.length - 2) (binF l[k].N (last2 S) (lastV S)).1).take (S.length - 1)) := nx_4 h4 h6
              have hge := nx_ge (l := l) hf.ok h0x hn
              exact ⟨_, (k + 1, (S.set (S.length - 2) (binF l[k].N (last2 S) (lastV S)).1).take (S.length - 1), ((S.set (S.length - 2) (binF l[k].N (last2 S) (lastV S)).1).take (S.length - 1)).length), by simp only; omega, ⟨by simp only; omega, rfl, stk_next hf h0x hS hw hn, hrun.trans (runA_go hok h0x hn), rfl⟩, by repeat (first | exact trivial | refine ⟨rfl, ?_⟩ | refine ⟨?_, ?_⟩)⟩
          · have h4 := dF h4
            have hlw : lowI l[k] = 1 := by unfold lowI; rw [if_neg (by omega), if_neg (by omega)]
            have h56 : l[k].Op = 5 ∨ l[k].Op = 6 := by omega
            have hrl := getD_rv (k := S.length - 1) hS.rv (by omega)
            have hrl : RV (lastV S) := hrl
            have hjn := hins.2.2.2.2 h56
            refine cx_seq ?_
            refine cx_ops ?_
            refine ax_q (q_mov rfl) ?_
            refine ax_q (q_mov rfl) ?_
            refine ax_q (q_ixoI rfl rfl (by omega) (by omega)) ?_
            refine ax_q (q_loadN_rptr rfl rfl (lastAt (by omega)) (by decide)) ?_
            refine ax_e (e_alloc (by decide) rfl rfl) ?_
            refine ax_e (e_st rfl rfl rfl rfl rfl rfl rfl) ?_
            refine ax_nil ?_
            refine cx_keep rfl rfl ?_
            refine cx_seq ?_
            refine cx_ops ?_
            first | refine ax_q (q_fadr_ptr rfl) ?_ | refine ax_q (q_fadr_rptr rfl) ?_ | refine ax_q (q_fadr_ip rfl) ?_
            first | refine ax_q (q_load1_ptr rfl rfl rfl) ?_ | refine ax_q (q_load1_ip rfl) ?_ | refine ax_q (q_load1_rptr rfl rfl rfl rfl) ?_ | refine ax_q (q_load1_rptr rfl rfl (by assumption) rfl) ?_ | refine ax_q (q_load1_rptr rfl rfl (mapAt (by first | assumption | omega)) rfl) ?_
            refine ax_q (q_ibin rfl rfl rfl) ?_
            refine ax_q (q_mov rfl) ?_
            apply ax_and rfl rfl
            · intro g
              have g := dT g
              first | refine ax_q (q_fadr_ptr rfl) ?_ | refine ax_q (q_fadr_rptr rfl) ?_ | refine ax_q (q_fadr_ip rfl) ?_
              first | refine ax_q (q_load1_ptr rfl rfl rfl) ?_ | refine ax_q (q_load1_ip rfl) ?_ | refine ax_q (q_load1_rptr rfl rfl rfl rfl) ?_ | refine ax_q (q_load1_rptr rfl rfl (by assumption) rfl) ?_ | refine ax_q (q_load1_rptr rfl rfl (mapAt (by first | assumption | omega)) rfl) ?_
              refine ax_q (q_ibin rfl rfl rfl) ?_
              first | refine ax_q (q_fadr_ptr rfl) ?_ | refine ax_q (q_fadr_rptr rfl) ?_ | refine ax_q (q_fadr_ip rfl) ?_
              first | refine ax_q (q_load1_ptr rfl rfl rfl) ?_ | refine ax_q (q_load1_ip rfl) ?_ | refine ax_q (q_load1_rptr rfl rfl rfl rfl) ?_ | refine ax_q (q_load1_rptr rfl rfl (by assumption) rfl) ?_ | refine ax_q (q_load1_rptr rfl rfl (mapAt (by first | assumption | omega)) rfl) ?_
              refine ax_q (q_ibin rfl rfl rfl) ?_
              refine ax_q (q_eqb rfl rfl) ?_
              exact ax_nil ⟨rfl, by repeat (first | exact trivial | refine ⟨rfl, ?_⟩ | refine ⟨?_, ?_⟩)⟩
            refine ax_nil ?_
            refine cx_keep rfl rfl ?_
            refine cx_cond rfl (fun h5 => ?_) (fun h5 => ?_)
            · have h5 := (fun h => And.intro (dT (and_T h).1) (beqT (and_T h).2)) h5
              refine cx_seq ?_
              refine cx_ops ?_
              refine ax_q (q_mov rfl) ?_
              refine ax_q (q_mov rfl) ?_
              first | refine ax_q (q_fadr_ptr rfl) ?_ | refine ax_q (q_fadr_rptr rfl) ?_ | refine ax_q (q_fadr_ip rfl) ?_
              first | refine ax_q (q_load1_ptr rfl rfl rfl) ?_ | refine ax_q (q_load1_ip rfl) ?_ | refine ax_q (q_load1_rptr rfl rfl rfl rfl) ?_ | refine ax_q (q_load1_rptr rfl rfl (by assumption) rfl) ?_ | refine ax_q (q_load1_rptr rfl rfl (mapAt (by first | assumption | omega)) rfl) ?_
              refine ax_q (q_ibin rfl rfl rfl) ?_
              first | refine ax_call rfl (vc_pure0 (c_l01Bit  ) hP rfl rfl ?_) | refine ax_call rfl (vc_lend0 (c_l01Bit  ) hP (by repeat (first | exact lal_id _ rfl | exact LAL.nil | refine LAL.cons ?_ ?_ | exact la_id _ rfl | exact LA.lend (lend_whole rfl (by first | (simp; done) | (rw [List.length_map]; rfl))) | refine LA.agg ?_ | refine LA.fn ?_ | refine LA.lend ?_ | exact Lend.d _ | exact Lend.zs _ | exact lend_whole rfl (by first | (simp; done) | (rw [List.length_map]; rfl)) | refine Lend.ptr rfl ?_ | refine Lend.fn ?_ | exact LendL.nil | refine LendL.cons ?_ ?_)) rfl rfl ?_)
              first | refine ax_call rfl (vc_pure0 (c_sInt  ) hP rfl rfl ?_) | refine ax_call rfl (vc_lend0 (c_sInt  ) hP (by repeat (first | exact lal_id _ rfl | exact LAL.nil | refine LAL.cons ?_ ?_ | exact la_id _ rfl | exact LA.lend (lend_whole rfl (by first | (simp; done) | (rw [List.length_map]; rfl))) | refine LA.agg ?_ | refine LA.fn ?_ | refine LA.lend ?_ | exact Lend.d _ | exact Lend.zs _ | exact lend_whole rfl (by first | (simp; done) | (rw [List.length_map]; rfl)) | refine Lend.ptr rfl ?_ | refine Lend.fn ?_ | exact LendL.nil | refine LendL.cons ?_ ?_)) rfl rfl ?_)
              refine ax_q (q_ixoI rfl rfl (by omega) (by omega)) ?_
              refine ax_e (e_str (q := GValue.row (vI (bitI (decide (l[k].Op = 6))))) (rs' := (S.set (S.length - 1) (vI (bitI (decide (l[k].Op = 6))))).map GValue.row) rfl rfl rfl rfl rfl rfl (lastAt (by omega)) rfl rfl setLast) ?_
              refine ax_nil ?_
              refine cx_keep rfl rfl ?_
              refine cx_ops ?_
              first | refine ax_q (q_fadr_ptr rfl) ?_ | refine ax_q (q_fadr_rptr rfl) ?_ | refine ax_q (q_fadr_ip rfl) ?_
              first | refine ax_q (q_load1_ptr rfl rfl rfl) ?_ | refine ax_q (q_load1_ip rfl) ?_ | refine ax_q (q_load1_rptr rfl rfl rfl rfl) ?_ | refine ax_q (q_load1_rptr rfl rfl (by assumption) rfl) ?_ | refine ax_q (q_load1_rptr rfl rfl (mapAt (by first | assumption | omega)) rfl) ?_
              refine ax_q (q_sub rfl rfl (by omega)) ?_
              refine ax_q (q_mov rfl) ?_
              refine ax_nil ?_
              refine cx_keep rfl rfl ?_
              refine cx_seq ?_
              refine cx_ops ?_
              refine ax_q (q_mov rfl) ?_
              refine ax_q (q_ibin rfl rfl rfl) ?_
              refine ax_nil ?_
              refine cx_keep rfl rfl ?_
              refine cx_cond rfl (fun h6 => ?_) (fun h6 => ?_)
              · have h6 := nT h6
                exact absurd rfl h6
              · have h6 := nF h6
                refine cx_skip ?_
                refine cx_keep rfl rfl ?_
                refine cx_ops ?_
                refine ax_q (q_mov rfl) ?_
                refine ax_qe (r' := int ((l[k].N.toNat : Nat) : Int)) (q_ibin rfl rfl rfl) (by
                  rw [wi (by omega) (by omega)]
                  exact congrArg (fun z => AV.d (D.int .i64 z)) (by omega)) ?_
                refine ax_q (q_mov rfl) ?_
                refine ax_nil ?_
                have hn : nxF l[k] w k S = .go (l[k].N.toNat) (S.set (S.length - 1) (vI (bitI (decide (l[k].Op = 6))))) := nx_jump h56 (by omega) hrl h5
                have hge := nx_ge (l := l) hf.ok h0x hn
                exact ⟨_, (l[k].N.toNat, S.set (S.length - 1) (vI (bitI (decide (l[k].Op = 6)))), S.length), by simp only; omega, ⟨by simp only; omega, rfl, stk_next hf h0x hS hw hn, hrun.trans (runA_go hok h0x hn), by simp only [List.length_set]⟩, by repeat (first | exact trivial | refine ⟨rfl, ?_⟩ | refine ⟨?_, ?_⟩)⟩
            · have h5 := (fun h => (and_F h).imp dF beqF) h5
              refine cx_skip ?_
              refine cx_keep rfl rfl ?_
              refine cx_seq ?_
              refine cx_ops ?_
              refine ax_q (q_mov rfl) ?_
              refine ax_q (q_ibin rfl rfl rfl) ?_
              refine ax_nil ?_
              refine cx_keep rfl rfl ?_
              refine cx_cond rfl (fun h6 => ?_) (fun h6 => ?_)
              · have h6 := nT h6
                exact absurd rfl h6
              · have h6 := nF h6
                refine cx_skip ?_
                refine cx_keep rfl rfl ?_
                refine cx_ops ?_
                refine ax_q (q_mov rfl) ?_
                refine ax_qe (r' := int ((k + 1 : Nat) : Int)) (q_ibin rfl rfl rfl) (by rw [wi (by omega) (by omega)]; rfl) ?_
                refine ax_q (q_mov rfl) ?_
                refine ax_nil ?_
                have hn : nxF l[k] w k S = .go (k + 1) (S) := nx_stay h56 h5
                have hge := nx_ge (l := l) hf.ok h0x hn
                exact ⟨_, (k + 1, S, (S).length), by simp only; omega, ⟨by simp only; omega, rfl, stk_next hf h0x hS hw hn, hrun.trans (runA_go hok h0x hn), rfl⟩, by repeat (first | exact trivial | refine ⟨rfl, ?_⟩ | refine ⟨?_, ?_⟩)⟩
  · have h0 := dF h0
    have h0x : k = l.length := by omega
    subst h0x
    refine cx_exit rfl ?_
    refine cx_keep rfl rfl ?_
    refine cx_seq ?_
    refine cx_ops ?_
    refine ax_q (q_mov rfl) ?_
    refine ax_q (q_ixoI rfl rfl (by omega) (by omega)) ?_
    refine ax_q (q_loadN_rptr rfl rfl (headAt (by omega)) (by decide)) ?_
    refine ax_e (e_st rfl rfl rfl rfl rfl rfl rfl) ?_
    refine ax_q (q_mov rfl) ?_
    refine ax_nil ?_
    refine cx_keep rfl rfl ?_
    refine cx_ret (ret0 rfl rfl ?_)
    exact ⟨by rw [hrun, runA_end]; rfl, rfl⟩


/- loop.example/g00332/spec.RunCode -/
def k_c_sRunCode : XCode :=
  .seq (.ops [.op (some 3) (.box (.t 1)),
     .op (some 4) (.alloc [.int .i64 0, .int .i64 0, .str []]),
     .op (some 5) (.mov (.k (.int .i64 0)))])
  (.keep [0, 3, 4] (.seq (.seq (.ops [.op (some 6) (.mov (.t 0)),
      .op (some 7) (.lenS (.t 6)),
      .op (some 8) (.bin .gtr (.t 7) (.k (.int .i64 4096)))])
   (.keep [0, 3, 4, 8] (.cond (.t 8)
    (.seq (.ops [.op (some 9) (.build [.int .i64 0, .int .i64 0, .str []] []),
        .op none (.store 3 (.t 4) (.t 9)),
        .op (some 5) (.mov (.k (.int .i64 2)))])
     (.keep [4, 5] (.ret)))
    (.skip))))
  (.keep [0, 3, 4] (.seq (.seq (.ops [.op (some 10) (.mov (.t 0)),
      .call (some 11) 11 [.t 10],
      .op (some 12) (.not (.t 11)),
      .op (some 13) (.mov (.t 12)),
      .andor 17 false 3 13 [.op (some 14) (.loadN 7 (.t 3)), .call (some 15) 48 [.t 14], .op (some 16) (.not (.t 15))] (.t 16)])
   (.keep [0, 3, 4, 17] (.cond (.t 17)
    (.seq (.ops [.op (some 18) (.build [.int .i64 0, .int .i64 0, .str []] []),
        .op none (.store 3 (.t 4) (.t 18)),
        .op (some 5) (.mov (.k (.int .i64 1)))])
     (.keep [4, 5] (.ret)))
    (.skip))))
  (.keep [0, 3, 4] (.seq (.ops [.op (some 19) (.mov (.t 0)),
     .op (some 20) (.loadN 7 (.t 3)),
     .call (some 21) 67 [.t 19, .t 20],
     .op (some 22) (.ext (.t 21) 0),
     .op (some 23) (.ext (.t 21) 1),
     .op none (.store 3 (.t 4) (.t 22)),
     .op (some 5) (.mov (.t 23))])
  (.keep [4, 5] (.ret))))))))
theorem k_c_sRunCode_fits : fitsF Try.prog 35 ⟨24, k_c_sRunCode, [.cN 4 3, .t 5]⟩ = true := by kernel_rfl
theorem c_sRunCode {l : List GIns} {w : GRow} (hw : l.length ≤ 1048576) (hv : ∀ x ∈ l, x.V.T.length ≤ 1048576) (hr1 : w.N.T.length ≤ 1048576) (hr2 : w.Name.T.length ≤ 1048576) : Con Try.prog noMv 35 [.d (.sl 5 (l.map GIns.row)), w.av] [] (fun r h => r = .tup [(rcF l w).1.av, int (rcF l w).2] ∧ h = []) := by
  refine con_of2 k_c_sRunCode_fits rfl fun C hP hmv => ?_
  unfold k_c_sRunCode
  refine cx_seq ?_
  refine cx_ops ?_
  refine ax_e (e_box rfl rfl (by decide) rfl rfl rfl) ?_
  refine ax_e (e_alloc (by decide) rfl rfl) ?_
  refine ax_q (q_mov rfl) ?_
  refine ax_nil ?_
  refine cx_keep rfl rfl ?_
  refine cx_seq ?_
  refine cx_seq ?_
  refine cx_ops ?_
  refine ax_q (q_mov rfl) ?_
  first | refine ax_q (q_lenS_map rfl) ?_ | refine ax_q (q_lenS_osl rfl) ?_ | refine ax_q (q_lenS_zs rfl) ?_ | refine ax_q (q_lenS rfl) ?_
  refine ax_q (q_ibin rfl rfl rfl) ?_
  refine ax_nil ?_
  refine cx_keep rfl rfl ?_
  refine cx_cond rfl (fun h0 => ?_) (fun h0 => ?_)
  · have h0 := dT h0
    refine cx_seq ?_
    refine cx_ops ?_
    refine ax_q (q_build rfl) ?_
    refine ax_e (e_st rfl rfl rfl rfl rfl rfl rfl) ?_
    refine ax_q (q_mov rfl) ?_
    refine ax_nil ?_
    refine cx_keep rfl rfl ?_
    refine cx_ret (ret0 rfl rfl ?_)
    exact ⟨by rw [rcF_0 (by omega)]; rfl, rfl⟩
  · have h0 := dF h0
    refine cx_skip ?_
    refine cx_keep rfl rfl ?_
    refine cx_seq ?_
    refine cx_seq ?_
    refine cx_ops ?_
    refine ax_q (q_mov rfl) ?_
    first | refine ax_call rfl (vc_pure0 (c_sCodeOK  ?_ ?_) hP rfl rfl ?_) | refine ax_call rfl (vc_lend0 (c_sCodeOK  ?_ ?_) hP (by repeat (first | exact lal_id _ rfl | exact LAL.nil | refine LAL.cons ?_ ?_ | exact la_id _ rfl | exact LA.lend (lend_whole rfl (by first | (simp; done) | (rw [List.length_map]; rfl))) | refine LA.agg ?_ | refine LA.fn ?_ | refine LA.lend ?_ | exact Lend.d _ | exact Lend.zs _ | exact lend_whole rfl (by first | (simp; done) | (rw [List.length_map]; rfl)) | refine Lend.ptr rfl ?_ | refine Lend.fn ?_ | exact LendL.nil | refine LendL.cons ?_ ?_)) rfl rfl ?_)
    · first | assumption | omega | (simp; done) | (simp; omega)
    · first | assumption | omega | (simp; done) | (simp; omega)
    refine ax_q (q_not rfl) ?_
    refine ax_q (q_mov rfl) ?_
    apply ax_or rfl rfl
    · intro g
      have g := bF g
      first | refine ax_q (q_ldN rfl rfl rfl) ?_ | refine ax_q (q_loadN_ip rfl (Nat.le_refl _)) ?_ | refine ax_q (q_loadN_ip rfl (by decide)) ?_ | refine ax_q (q_loadN_rptr rfl rfl (by assumption) (by decide)) ?_ | refine ax_q (q_loadN_rptr rfl rfl (mapAt (by first | assumption | omega)) (by decide)) ?_
      first | refine ax_call rfl (vc_pure0 (c_l07Row (a := w) ?_ ?_) hP rfl rfl ?_) | refine ax_call rfl (vc_lend0 (c_l07Row (a := w) ?_ ?_) hP (by repeat (first | exact lal_id _ rfl | exact LAL.nil | refine LAL.cons ?_ ?_ | exact la_id _ rfl | exact LA.lend (lend_whole rfl (by first | (simp; done) | (rw [List.length_map]; rfl))) | refine LA.agg ?_ | refine LA.fn ?_ | refine LA.lend ?_ | exact Lend.d _ | exact Lend.zs _ | exact lend_whole rfl (by first | (simp; done) | (rw [List.length_map]; rfl)) | refine Lend.ptr rfl ?_ | refine Lend.fn ?_ | exact LendL.nil | refine LendL.cons ?_ ?_)) rfl rfl ?_)
      · first | assumption | omega | (simp; done) | (simp; omega)
      · first | assumption | omega | (simp; done) | (simp; omega)
      refine ax_q (q_not rfl) ?_
      exact ax_nil ⟨rfl, by repeat (first | exact trivial | refine ⟨rfl, ?_⟩ | refine ⟨?_, ?_⟩)⟩
    refine ax_nil ?_
    refine cx_keep rfl rfl ?_
    refine cx_cond rfl (fun h1 => ?_) (fun h1 => ?_)
    · have h1 := (fun h => (or_T h).imp bT bT) h1
      refine cx_seq ?_
      refine cx_ops ?_
      refine ax_q (q_build rfl) ?_
      refine ax_e (e_st rfl rfl rfl rfl rfl rfl rfl) ?_
      refine ax_q (q_mov rfl) ?_
      refine ax_nil ?_
      refine cx_keep rfl rfl ?_
      refine cx_ret (ret0 rfl rfl ?_)
      exact ⟨by rw [rcF_1 (by omega) h1]; rfl, rfl⟩
    · have h1 := (fun h => And.intro (bF (or_F h).1) (bF (or_F h).2)) h1
      have hrr := RR.of h1.2
      have hco := h1.1
      refine cx_skip ?_
      refine cx_keep rfl rfl ?_
      refine cx_seq ?_
      refine cx_ops ?_
      refine ax_q (q_mov rfl) ?_
      first | refine ax_q (q_ldN rfl rfl rfl) ?_ | refine ax_q (q_loadN_ip rfl (Nat.le_refl _)) ?_ | refine ax_q (q_loadN_ip rfl (by decide)) ?_ | refine ax_q (q_loadN_rptr rfl rfl (by assumption) (by decide)) ?_ | refine ax_q (q_loadN_rptr rfl rfl (mapAt (by first | assumption | omega)) (by decide)) ?_
      first | refine ax_call rfl (vc_pure0 (c_l11Run (w := w) ?_ ?_) hP rfl rfl ?_) | refine ax_call rfl (vc_lend0 (c_l11Run (w := w) ?_ ?_) hP (by repeat (first | exact lal_id _ rfl | exact LAL.nil | refine LAL.cons ?_ ?_ | exact la_id _ rfl | exact LA.lend (lend_whole rfl (by first | (simp; done) | (rw [List.length_map]; rfl))) | refine LA.agg ?_ | refine LA.fn ?_ | refine LA.lend ?_ | exact Lend.d _ | exact Lend.zs _ | exact lend_whole rfl (by first | (simp; done) | (rw [List.length_map]; rfl)) | refine Lend.ptr rfl ?_ | refine Lend.fn ?_ | exact LendL.nil | refine LendL.cons ?_ ?_)) rfl rfl ?_)
      · first | assumption | omega | (simp; done) | (simp; omega)
      · first | assumption | omega | (simp; done) | (simp; omega)
      refine ax_q (q_ext rfl rfl) ?_
      refine ax_q (q_ext rfl rfl) ?_
      refine ax_e (e_st rfl rfl rfl rfl rfl rfl rfl) ?_
      refine ax_q (q_mov rfl) ?_
      refine ax_nil ?_
      refine cx_keep rfl rfl ?_
      refine cx_ret (ret0 rfl rfl ?_)
      exact ⟨by rw [rcF_2 (by omega) h1]; rfl, rfl⟩


/- math/bits.Mul64 -/
def k_c_Mul64 : XCode :=
  .seq (.ops [.op (some 4) (.mov (.k (.int .u64 0))),
     .op (some 5) (.mov (.k (.int .u64 0)))])
  (.keep [0, 1] (.seq (.ops [.op (some 14) (.mov (.t 0)),
     .op (some 15) (.bin .and (.t 14) (.k (.int .u64 4294967295))),
     .op (some 6) (.mov (.t 15))])
  (.keep [0, 1, 6] (.seq (.ops [.op (some 16) (.mov (.t 0)),
     .op (some 17) (.bin .shr (.t 16) (.k (.int .u64 32))),
     .op (some 7) (.mov (.t 17))])
  (.keep [0, 1, 6, 7] (.seq (.ops [.op (some 18) (.mov (.t 1)),
     .op (some 19) (.bin .and (.t 18) (.k (.int .u64 4294967295))),
     .op (some 8) (.mov (.t 19))])
  (.keep [0, 1, 6, 7, 8] (.seq (.ops [.op (some 20) (.mov (.t 1)),
     .op (some 21) (.bin .shr (.t 20) (.k (.int .u64 32))),
     .op (some 9) (.mov (.t 21))])
  (.keep [0, 1, 6, 7, 8, 9] (.seq (.ops [.op (some 22) (.mov (.t 6)),
     .op (some 23) (.mov (.t 8)),
     .op (some 24) (.bin .mul (.t 22) (.t 23)),
     .op (some 10) (.mov (.t 24))])
  (.keep [0, 1, 6, 7, 8, 9, 10] (.seq (.ops [.op (some 25) (.mov (.t 7)),
     .op (some 26) (.mov (.t 8)),
     .op (some 27) (.bin .mul (.t 25) (.t 26)),
     .op (some 28) (.mov (.t 10)),
     .op (some 29) (.bin .shr (.t 28) (.k (.int .u64 32))),
     .op (some 30) (.bin .add (.t 27) (.t 29)),
     .op (some 11) (.mov (.t 30))])
  (.keep [0, 1, 6, 7, 9, 11] (.seq (.ops [.op (some 31) (.mov (.t 11)),
     .op (some 32) (.bin .and (.t 31) (.k (.int .u64 4294967295))),
     .op (some 12) (.mov (.t 32))])
  (.keep [0, 1, 6, 7, 9, 11, 12] (.seq (.ops [.op (some 33) (.mov (.t 11)),
     .op (some 34) (.bin .shr (.t 33) (.k (.int .u64 32))),
     .op (some 13) (.mov (.t 34))])
  (.keep [0, 1, 6, 7, 9, 12, 13] (.seq (.ops [.op (some 35) (.mov (.t 12)),
     .op (some 36) (.mov (.t 6)),
     .op (some 37) (.mov (.t 9)),
     .op (some 38) (.bin .mul (.t 36) (.t 37)),
     .op (some 39) (.bin .add (.t 35) (.t 38)),
     .op (some 12) (.mov (.t 39))])
  (.keep [0, 1, 7, 9, 12, 13] (.seq (.ops [.op (some 40) (.mov (.t 7)),
     .op (some 41) (.mov (.t 9)),
     .op (some 42) (.bin .mul (.t 40) (.t 41)),
     .op (some 43) (.mov (.t 13)),
     .op (some 44) (.bin .add (.t 42) (.t 43)),
     .op (some 45) (.mov (.t 12)),
     .op (some 46) (.bin .shr (.t 45) (.k (.int .u64 32))),
     .op (some 47) (.bin .add (.t 44) (.t 46)),
     .op (some 4) (.mov (.t 47))])
  (.keep [0, 1, 4] (.seq (.ops [.op (some 48) (.mov (.t 0)),
     .op (some 49) (.mov (.t 1)),
     .op (some 50) (.bin .mul (.t 48) (.t 49)),
     .op (some 5) (.mov (.t 50))])
  (.keep [4, 5] (.ret))))))))))))))))))))))))
theorem k_c_Mul64_fits : fitsF Try.prog 113 ⟨51, k_c_Mul64, [.t 4, .t 5]⟩ = true := by kernel_rfl
theorem c_Mul64 {m : Nat} (hm : m < 101) : Con Try.prog noMv 113 [.d (.int .u64 1), .d (.int .u64 m)] [] (fun r h => r = .tup [.d (.int .u64 0), .d (.int .u64 m)] ∧ h = []) := by
  refine con_of2 k_c_Mul64_fits rfl fun C hP hmv => ?_
  unfold k_c_Mul64
  refine cx_seq ?_
  refine cx_ops ?_
  refine ax_q (q_mov rfl) ?_
  refine ax_q (q_mov rfl) ?_
  refine ax_nil ?_
  refine cx_keep rfl rfl ?_
  refine cx_seq ?_
  refine cx_ops ?_
  refine ax_q (q_mov rfl) ?_
  refine ax_q (q_ibit rfl rfl rfl) ?_
  refine ax_q (q_mov rfl) ?_
  refine ax_nil ?_
  refine cx_keep rfl rfl ?_
  refine cx_seq ?_
  refine cx_ops ?_
  refine ax_q (q_mov rfl) ?_
  refine ax_q (q_ishf rfl rfl rfl (by omega)) ?_
  refine ax_q (q_mov rfl) ?_
  refine ax_nil ?_
  refine cx_keep rfl rfl ?_
  refine cx_seq ?_
  refine cx_ops ?_
  refine ax_q (q_mov rfl) ?_
  refine ax_q (q_ibit rfl rfl rfl) ?_
  refine ax_q (q_mov rfl) ?_
  refine ax_nil ?_
  refine cx_keep rfl rfl ?_
  refine cx_seq ?_
  refine cx_ops ?_
  refine ax_q (q_mov rfl) ?_
  refine ax_q (q_ishf rfl rfl rfl (by omega)) ?_
  refine ax_q (q_mov rfl) ?_
  refine ax_nil ?_
  refine cx_keep rfl rfl ?_
  refine cx_seq ?_
  refine cx_ops ?_
  refine ax_q (q_mov rfl) ?_
  refine ax_q (q_mov rfl) ?_
  refine ax_q (q_ibin rfl rfl rfl) ?_
  refine ax_q (q_mov rfl) ?_
  refine ax_nil ?_
  refine cx_keep rfl rfl ?_
  refine cx_seq ?_
  refine cx_ops ?_
  refine ax_q (q_mov rfl) ?_
  refine ax_q (q_mov rfl) ?_
  refine ax_q (q_ibin rfl rfl rfl) ?_
  refine ax_q (q_mov rfl) ?_
  refine ax_q (q_ishf rfl rfl rfl (by omega)) ?_
  refine ax_q (q_ibin rfl rfl rfl) ?_
  refine ax_q (q_mov rfl) ?_
  refine ax_nil ?_
  refine cx_keep rfl rfl ?_
  refine cx_seq ?_
  refine cx_ops ?_
  refine ax_q (q_mov rfl) ?_
  refine ax_q (q_ibit rfl rfl rfl) ?_
  refine ax_q (q_mov rfl) ?_
  refine ax_nil ?_
  refine cx_keep rfl rfl ?_
  refine cx_seq ?_
  refine cx_ops ?_
  refine ax_q (q_mov rfl) ?_
  refine ax_q (q_ishf rfl rfl rfl (by omega)) ?_
  refine ax_q (q_mov rfl) ?_
  refine ax_nil ?_
  refine cx_keep rfl rfl ?_
  refine cx_seq ?_
  refine cx_ops ?_
  refine ax_q (q_mov rfl) ?_
  refine ax_q (q_mov rfl) ?_
  refine ax_q (q_mov rfl) ?_
  refine ax_q (q_ibin rfl rfl rfl) ?_
  refine ax_q (q_ibin rfl rfl rfl) ?_
  refine ax_q (q_mov rfl) ?_
  refine ax_nil ?_
  refine cx_keep rfl rfl ?_
  refine cx_seq ?_
  refine cx_ops ?_
  refine ax_q (q_mov rfl) ?_
  refine ax_q (q_mov rfl) ?_
  refine ax_q (q_ibin rfl rfl rfl) ?_
  refine ax_q (q_mov rfl) ?_
  refine ax_q (q_ibin rfl rfl rfl) ?_
  refine ax_q (q_mov rfl) ?_
  refine ax_q (q_ishf rfl rfl rfl (by omega)) ?_
  refine ax_q (q_ibin rfl rfl rfl) ?_
  refine ax_q (q_mov rfl) ?_
  refine ax_nil ?_
  refine cx_keep rfl rfl ?_
  refine cx_seq ?_
  refine cx_ops ?_
  refine ax_q (q_mov rfl) ?_
  refine ax_q (q_mov rfl) ?_
  refine ax_q (q_ibin rfl rfl rfl) ?_
  refine ax_q (q_mov rfl) ?_
  refine ax_nil ?_
  refine cx_keep rfl rfl ?_
  refine cx_ret (ret0 rfl rfl ?_)
  exact ⟨mul64_r hm, rfl⟩


/- math/bits.Mul -/
def k_c_Mul : XCode :=
  .seq (.ops [.op (some 4) (.mov (.k (.int .u64 0))),
     .op (some 5) (.mov (.k (.int .u64 0)))])
  (.keep [0, 1] (.seq (.cond (.k (.bool false))
    (.seq (.ops [.op (some 11) (.mov (.t 0)),
        .op (some 12) (.conv .u32 (.t 11)),
        .op (some 13) (.mov (.t 1)),
        .op (some 14) (.conv .u32 (.t 13)),
        .call (some 15) 112 [.t 12, .t 14],
        .op (some 10) (.mov (.t 15)),
        .op (some 16) (.ext (.t 10) 0),
        .op (some 17) (.ext (.t 10) 1),
        .op (some 6) (.mov (.t 16)),
        .op (some 7) (.mov (.t 17))])
     (.keep [6, 7] (.seq (.ops [.op (some 18) (.mov (.t 6)),
        .op (some 19) (.conv .u64 (.t 18)),
        .op (some 20) (.mov (.t 7)),
        .op (some 21) (.conv .u64 (.t 20)),
        .op (some 4) (.mov (.t 19)),
        .op (some 5) (.mov (.t 21))])
     (.keep [4, 5] (.ret)))))
    (.skip))
  (.keep [0, 1] (.seq (.ops [.op (some 23) (.mov (.t 0)),
     .op (some 24) (.mov (.t 1)),
     .call (some 25) 113 [.t 23, .t 24],
     .op (some 22) (.mov (.t 25)),
     .op (some 26) (.ext (.t 22) 0),
     .op (some 27) (.ext (.t 22) 1),
     .op (some 8) (.mov (.t 26)),
     .op (some 9) (.mov (.t 27))])
  (.keep [8, 9] (.seq (.ops [.op (some 28) (.mov (.t 8)),
     .op (some 29) (.mov (.t 9)),
     .op (some 4) (.mov (.t 28)),
     .op (some 5) (.mov (.t 29))])
  (.keep [4, 5] (.ret))))))))
theorem k_c_Mul_fits : fitsF Try.prog 99 ⟨30, k_c_Mul, [.t 4, .t 5]⟩ = true := by kernel_rfl
theorem c_Mul {m : Nat} (hm : m < 101) : Con Try.prog noMv 99 [.d (.int .u64 1), .d (.int .u64 m)] [] (fun r h => r = .tup [.d (.int .u64 0), .d (.int .u64 m)] ∧ h = []) := by
  refine con_of2 k_c_Mul_fits rfl fun C hP hmv => ?_
  unfold k_c_Mul
  refine cx_seq ?_
  refine cx_ops ?_
  refine ax_q (q_mov rfl) ?_
  refine ax_q (q_mov rfl) ?_
  refine ax_nil ?_
  refine cx_keep rfl rfl ?_
  refine cx_seq ?_
  refine cx_cond rfl (fun h0 => ?_) (fun h0 => ?_)
  · skip
    cases h0
  · skip
    refine cx_skip ?_
    refine cx_keep rfl rfl ?_
    refine cx_seq ?_
    refine cx_ops ?_
    refine ax_q (q_mov rfl) ?_
    refine ax_q (q_mov rfl) ?_
    first | refine ax_call rfl (vc_pure0 (c_Mul64 (m := m) ?_) hP rfl rfl ?_) | refine ax_call rfl (vc_lend0 (c_Mul64 (m := m) ?_) hP (by repeat (first | exact lal_id _ rfl | exact LAL.nil | refine LAL.cons ?_ ?_ | exact la_id _ rfl | exact LA.lend (lend_whole rfl (by first | (simp; done) | (rw [List.length_map]; rfl))) | refine LA.agg ?_ | refine LA.fn ?_ | refine LA.lend ?_ | exact Lend.d _ | exact Lend.zs _ | exact lend_whole rfl (by first | (simp; done) | (rw [List.length_map]; rfl)) | refine Lend.ptr rfl ?_ | refine Lend.fn ?_ | exact LendL.nil | refine LendL.cons ?_ ?_)) rfl rfl ?_)
    · first | assumption | omega | (simp; done) | (simp; omega)
    refine ax_q (q_mov rfl) ?_
    refine ax_q (q_ext rfl rfl) ?_
    refine ax_q (q_ext rfl rfl) ?_
    refine ax_q (q_mov rfl) ?_
    refine ax_q (q_mov rfl) ?_
    refine ax_nil ?_
    refine cx_keep rfl rfl ?_
    refine cx_seq ?_
    refine cx_ops ?_
    refine ax_q (q_mov rfl) ?_
    refine ax_q (q_mov rfl) ?_
    refine ax_q (q_mov rfl) ?_
    refine ax_q (q_mov rfl) ?_
    refine ax_nil ?_
    refine cx_keep rfl rfl ?_
    refine cx_ret (ret0 rfl rfl ?_)
    exact ⟨rfl, rfl⟩


/- slices.Repeat[[]int,int] -/
def k_c_Repeat : XCode :=
  .seq (.ops [.op (some 4) (.mov (.k (.nils 1)))])
  (.keep [0, 1] (.seq (.seq (.ops [.op (some 9) (.mov (.t 1)),
      .op (some 10) (.bin .lss (.t 9) (.k (.int .i64 0)))])
   (.keep [0, 1, 10] (.cond (.t 10)
    (.ops [.op (some 11) (.bad),
       .op none (.bad)])
    (.skip))))
  (.keep [0, 1] (.seq (.ops [.op (some 13) (.mov (.t 0)),
     .op (some 14) (.lenS (.t 13)),
     .op (some 15) (.conv .u64 (.t 14)),
     .op (some 16) (.mov (.t 1)),
     .op (some 17) (.conv .u64 (.t 16)),
     .call (some 18) 99 [.t 15, .t 17],
     .op (some 12) (.mov (.t 18)),
     .op (some 19) (.ext (.t 12) 0),
     .op (some 20) (.ext (.t 12) 1),
     .op (some 5) (.mov (.t 19)),
     .op (some 6) (.mov (.t 20))])
  (.keep [0, 5, 6] (.seq (.seq (.ops [.op (some 21) (.mov (.t 5)),
      .op (some 22) (.bin .gtr (.t 21) (.k (.int .u64 0))),
      .op (some 23) (.mov (.t 22)),
      .andor 26 false 2 23 [.op (some 24) (.mov (.t 6)), .op (some 25) (.bin .gtr (.t 24) (.k (.int .u64 9223372036854775807)))] (.t 25)])
   (.keep [0, 6, 26] (.cond (.t 26)
    (.ops [.op (some 27) (.bad),
       .op none (.bad)])
    (.skip))))
  (.keep [0, 6] (.seq (.ops [.op (some 28) (.mov (.t 6)),
     .op (some 29) (.conv .i64 (.t 28)),
     .op (some 30) (.mkslice 1 8 [.int .i64 0] (.t 29) (.t 29)),
     .op (some 7) (.mov (.t 30))])
  (.keep [0, 7] (.seq (.ops [.op (some 31) (.mov (.t 7)),
     .op (some 32) (.mov (.t 0)),
     .op (some 33) (.cpy 1 (.t 31) (.t 32)),
     .op (some 8) (.mov (.t 33))])
  (.keep [7, 8] (.seq (.block 0 (.loop (.seq (.seq (.ops [.op (some 34) (.mov (.t 8)),
         .op (some 35) (.mov (.t 7)),
         .op (some 36) (.lenS (.t 35)),
         .op (some 37) (.bin .lss (.t 34) (.t 36))])
      (.keep [7, 8, 37] (.cond (.t 37)
       (.skip)
       (.exit 0))))
     (.keep [7, 8] (.block 1 (.drawE [[], [], [], [1, 2], [], [], [4, 5], [1, 2, 3, 4, 5, 6], [0, 1, 2, 3, 4, 5, 6, 7], [0, 1, 2, 3, 4, 5, 6, 7, 8]] [.op (some 38) (.mov (.t 8)),
        .op (some 39) (.mov (.t 7)),
        .op (some 40) (.mov (.t 8)),
        .op (some 41) (.slc 1 (.t 39) (some (.t 40)) none none),
        .op (some 42) (.mov (.t 7)),
        .op (some 43) (.mov (.t 8)),
        .op (some 44) (.slc 1 (.t 42) none (some (.t 43)) none),
        .op (some 45) (.cpy 1 (.t 41) (.t 44))]
       [.op (some 46) (.bin .add (.t 38) (.t 45)),
        .op (some 8) (.mov (.t 46))]))))))
  (.keep [7] (.seq (.ops [.op (some 47) (.mov (.t 7)),
     .op (some 4) (.mov (.t 47))])
  (.keep [4] (.ret))))))))))))))))
theorem k_c_Repeat_fits : fitsF Try.prog 73 ⟨48, k_c_Repeat, [.t 4]⟩ = true := by kernel_rfl
theorem c_Repeat {q : Int} {m : Nat} (hm : 1 ≤ m ∧ m ≤ 100) : Con Try.prog noMv 73 [.d (.sl 1 [intRow q]), int (m : Nat)] [] (fun r h => r = .osl 0 1 0 m ∧ h = [(0, .rows 1 (List.replicate m (intRow q)))]) := by
  refine con_of2 k_c_Repeat_fits rfl fun C hP hmv => ?_
  unfold k_c_Repeat
  refine cx_seq ?_
  refine cx_ops ?_
  refine ax_q (q_mov rfl) ?_
  refine ax_nil ?_
  refine cx_keep rfl rfl ?_
  refine cx_seq ?_
  refine cx_seq ?_
  refine cx_ops ?_
  refine ax_q (q_mov rfl) ?_
  refine ax_q (q_ibin rfl rfl rfl) ?_
  refine ax_nil ?_
  refine cx_keep rfl rfl ?_
  refine cx_cond rfl (fun h0 => ?_) (fun h0 => ?_)
  · have h0 := dT h0
    exfalso; omega
  · have h0 := dF h0
    refine cx_skip ?_
    refine cx_keep rfl rfl ?_
    refine cx_seq ?_
    refine cx_ops ?_
    refine ax_q (q_mov rfl) ?_
    first | refine ax_q (q_lenS_map rfl) ?_ | refine ax_q (q_lenS_osl rfl) ?_ | refine ax_q (q_lenS_zs rfl) ?_ | refine ax_q (q_lenS rfl) ?_
    refine ax_qe (r' := .d (.int .u64 1)) (q_conv rfl) (rfl) ?_
    refine ax_q (q_mov rfl) ?_
    refine ax_qe (r' := .d (.int .u64 m)) (q_conv rfl) (u64_of (by omega)) ?_
    first | refine ax_call rfl (vc_pure0 (c_Mul (m := m) ?_) hP rfl rfl ?_) | refine ax_call rfl (vc_lend0 (c_Mul (m := m) ?_) hP (by repeat (first | exact lal_id _ rfl | exact LAL.nil | refine LAL.cons ?_ ?_ | exact la_id _ rfl | exact LA.lend (lend_whole rfl (by first | (simp; done) | (rw [List.length_map]; rfl))) | refine LA.agg ?_ | refine LA.fn ?_ | refine LA.lend ?_ | exact Lend.d _ | exact Lend.zs _ | exact lend_whole rfl (by first | (simp; done) | (rw [List.length_map]; rfl)) | refine Lend.ptr rfl ?_ | refine Lend.fn ?_ | exact LendL.nil | refine LendL.cons ?_ ?_)) rfl rfl ?_)
    · first | assumption | omega | (simp; done) | (simp; omega)
    refine ax_q (q_mov rfl) ?_
    refine ax_q (q_ext rfl rfl) ?_
    refine ax_q (q_ext rfl rfl) ?_
    refine ax_q (q_mov rfl) ?_
    refine ax_q (q_mov rfl) ?_
    refine ax_nil ?_
    refine cx_keep rfl rfl ?_
    refine cx_seq ?_
    refine cx_seq ?_
    refine cx_ops ?_
    refine ax_q (q_mov rfl) ?_
    refine ax_q (q_ibin rfl rfl rfl) ?_
    refine ax_q (q_mov rfl) ?_
    apply ax_or rfl rfl
    · intro g
      have g := dF g
      refine ax_q (q_mov rfl) ?_
      refine ax_q (q_ibin rfl rfl rfl) ?_
      exact ax_nil ⟨rfl, by repeat (first | exact trivial | refine ⟨rfl, ?_⟩ | refine ⟨?_, ?_⟩)⟩
    refine ax_nil ?_
    refine cx_keep rfl rfl ?_
    refine cx_cond rfl (fun h1 => ?_) (fun h1 => ?_)
    · have h1 := (fun h => (or_T h).imp dT dT) h1
      exfalso; omega
    · have h1 := (fun h => And.intro (dF (or_F h).1) (dF (or_F h).2)) h1
      refine cx_skip ?_
      refine cx_keep rfl rfl ?_
      refine cx_seq ?_
      refine cx_ops ?_
      refine ax_q (q_mov rfl) ?_
      refine ax_qe (r' := int m) (q_conv rfl) (i64_of (by omega)) ?_
      refine ax_ee (e_mkslice rfl rfl rfl (by omega) (by omega) (by omega) (by decide) rfl rfl) (by rw [Int.toNat_natCast]) ?_
      refine ax_q (q_mov rfl) ?_
      refine ax_nil ?_
      refine cx_keep rfl rfl ?_
      refine cx_seq ?_
      refine cx_ops ?_
      refine ax_q (q_mov rfl) ?_
      refine ax_q (q_mov rfl) ?_
      refine ax_ee (st'' := ⟨(33, int (1 : Nat)) :: _, (30, .rows 1 (repS (intRow q) (intRow 0) m 1)) :: _⟩) (e_cpy rfl rfl (by simp) rfl (src_sl 1 _)) (by rw [← repS_0 hm.1, show min [intRow q].length m = 1 from by simp; omega]; rfl) ?_
      refine ax_q (q_mov rfl) ?_
      refine ax_nil ?_
      refine cx_keep rfl rfl ?_
      refine cx_seq ?_
      refine cx_block ?_
      refine cx_loopU (fun n k => 1 ≤ k ∧ k ≤ m ∧ n = m - k) (fun k : Nat => [(8, int k)]) (fun k => [(30, .rows 1 (repS (intRow q) (intRow 0) m k))]) ⟨_, 1, ⟨Nat.le_refl _, hm.1, rfl⟩, by repeat (first | exact trivial | refine ⟨rfl, ?_⟩ | refine ⟨?_, ?_⟩)⟩ ?_
      rintro n k ⟨hk1, hk, rfl⟩
      refine cx_seq ?_
      refine cx_seq ?_
      refine cx_ops ?_
      refine ax_q (q_mov rfl) ?_
      refine ax_q (q_mov rfl) ?_
      first | refine ax_q (q_lenS_map rfl) ?_ | refine ax_q (q_lenS_osl rfl) ?_ | refine ax_q (q_lenS_zs rfl) ?_ | refine ax_q (q_lenS rfl) ?_
      refine ax_q (q_ibin rfl rfl rfl) ?_
      refine ax_nil ?_
      refine cx_keep rfl rfl ?_
      refine cx_cond rfl (fun h2 => ?_) (fun h2 => ?_)
      · have h2 := dT h2
        have h2x : k < m := by omega
        refine cx_skip ?_
        refine cx_keep rfl rfl ?_
        refine cx_block ?_
        refine cx_drawL 7 45 (fun _ => false) (fun _ => true) [] ([(30, .rows 1 (repS (intRow q) (intRow 0) m (k + min k (m - k))))]) [[8], [7], [8], [39, 40], [7], [8], [42, 43], [41, 44]] [[30], [], [], [], [], [], [], [30]] rfl ?_
        first | refine ⟨_, .inr ⟨rfl, _, rfl, .inr ⟨rfl, rfl, .inr rfl, rfl, rfl⟩, loc_q (q_mov rfl)⟩, ?_⟩
        first | refine ⟨_, .inr ⟨rfl, _, rfl, .inl rfl, loc_q (q_mov rfl)⟩, ?_⟩
        first | refine ⟨_, .inr ⟨rfl, _, rfl, .inl rfl, loc_q (q_mov rfl)⟩, ?_⟩
        first | refine ⟨_, .inr ⟨rfl, _, rfl, .inl rfl, loc_qe (r' := .osl 30 1 k (m - k)) (q_slc_osl rfl rfl rfl (by omega) (by omega) (by omega)) (oslE (by omega) (by omega))⟩, ?_⟩
        first | refine ⟨_, .inr ⟨rfl, _, rfl, .inl rfl, loc_q (q_mov rfl)⟩, ?_⟩
        first | refine ⟨_, .inr ⟨rfl, _, rfl, .inl rfl, loc_q (q_mov rfl)⟩, ?_⟩
        first | refine ⟨_, .inr ⟨rfl, _, rfl, .inl rfl, loc_qe (r' := .osl 30 1 0 k) (q_slc_osl rfl rfl rfl (by omega) (by omega) (by omega)) (oslE (by omega) (by omega))⟩, ?_⟩
        refine ⟨⟨45, _, []⟩, .inl ⟨rfl, rfl, rfl, locl_cpy (n' := min k (m - k)) rfl rfl (by have := repS_len (q := intRow q) (z := intRow 0) hk; omega) rfl (fun _ _ h => src_osl (h _ _ rfl) (by have := repS_len (q := intRow q) (z := intRow 0) hk; omega)) (by simp only [List.length_take, List.length_drop, repS_len hk]; omega) (repS_step hk)⟩, ?_⟩
        refine ⟨rfl, ?_⟩
        refine ax_qe (r' := int ((k + min k (m - k) : Nat) : Int)) (q_ibin rfl rfl rfl) (by rw [wi (by omega) (by omega)]; congr 2) ?_
        refine ax_q (q_mov rfl) ?_
        refine ax_nil ?_
        exact ⟨_, k + min k (m - k), by omega, ⟨by omega, by omega, rfl⟩, by repeat (first | exact trivial | refine ⟨rfl, ?_⟩ | refine ⟨?_, ?_⟩)⟩
      · have h2 := dF h2
        have h2x : k = m := by omega
        subst h2x
        refine cx_exit rfl ?_
        refine cx_keep rfl rfl ?_
        refine cx_seq ?_
        refine cx_ops ?_
        refine ax_q (q_mov rfl) ?_
        refine ax_q (q_mov rfl) ?_
        refine ax_nil ?_
        refine cx_keep rfl rfl ?_
        refine cx_ret (retN (fun _ => 0) [30] rfl rfl rfl rfl rfl ?_)
        rw [repS_full]; exact ⟨rfl, rfl⟩


/- loop.example/g00332/impl.inRange -/
def k_c_inRange : XCode :=
  .seq (.ops [.op (some 6) (.mov (.k (.bool false)))])
  (.keep [0, 1, 2] (.seq (.ops [.op (some 7) (.mov (.t 1)),
     .op (some 8) (.mov (.t 0)),
     .op (some 9) (.bin .leq (.t 7) (.t 8)),
     .op (some 10) (.mov (.t 9)),
     .andor 14 true 3 10 [.op (some 11) (.mov (.t 0)), .op (some 12) (.mov (.t 2)), .op (some 13) (.bin .leq (.t 11) (.t 12))] (.t 13),
     .op (some 6) (.mov (.t 14))])
  (.keep [6] (.ret))))
theorem k_c_inRange_fits : fitsF Try.prog 54 ⟨15, k_c_inRange, [.t 6]⟩ = true := by kernel_rfl
theorem c_inRange {n lo hi : Int} : Con Try.prog noMv 54 [int n, int lo, int hi] [] (fun r h => r = bool (inR n lo hi) ∧ h = []) := by
  refine con_of2 k_c_inRange_fits rfl fun C hP hmv => ?_
  unfold k_c_inRange
  refine cx_seq ?_
  refine cx_ops ?_
  refine ax_q (q_mov rfl) ?_
  refine ax_nil ?_
  refine cx_keep rfl rfl ?_
  refine cx_seq ?_
  refine cx_ops ?_
  refine ax_q (q_mov rfl) ?_
  refine ax_q (q_mov rfl) ?_
  refine ax_q (q_ibin rfl rfl rfl) ?_
  refine ax_q (q_mov rfl) ?_
  apply ax_and rfl rfl
  · intro g
    have g := dT g
    refine ax_q (q_mov rfl) ?_
    refine ax_q (q_mov rfl) ?_
    refine ax_q (q_ibin rfl rfl rfl) ?_
    exact ax_nil ⟨rfl, by repeat (first | exact trivial | refine ⟨rfl, ?_⟩ | refine ⟨?_, ?_⟩)⟩
  refine ax_q (q_mov rfl) ?_
  refine ax_nil ?_
  refine cx_keep rfl rfl ?_
  refine cx_ret (ret0 rfl rfl ?_)
  exact ⟨rfl, rfl⟩


/- loop.example/g00332/impl.isPlace -/
def k_c_isPlace : XCode :=
  .seq (.ops [.op (some 4) (.mov (.k (.bool false)))])
  (.keep [0, 1] (.seq (.ops [.op (some 5) (.mov (.t 0)),
     .op (some 6) (.mov (.t 1)),
     .op (some 7) (.bin .sub (.t 6) (.k (.int .i64 1))),
     .call (some 8) 54 [.t 5, .k (.int .i64 0), .t 7],
     .op (some 4) (.mov (.t 8))])
  (.keep [4] (.ret))))
theorem k_c_isPlace_fits : fitsF Try.prog 52 ⟨9, k_c_isPlace, [.t 4]⟩ = true := by kernel_rfl
theorem c_isPlace {n k : Int} (hk : 0 ≤ k ∧ k ≤ 1048576) : Con Try.prog noMv 52 [int n, int k] [] (fun r h => r = bool (inR n 0 (k - 1)) ∧ h = []) := by
  refine con_of2 k_c_isPlace_fits rfl fun C hP hmv => ?_
  unfold k_c_isPlace
  refine cx_seq ?_
  refine cx_ops ?_
  refine ax_q (q_mov rfl) ?_
  refine ax_nil ?_
  refine cx_keep rfl rfl ?_
  refine cx_seq ?_
  refine cx_ops ?_
  refine ax_q (q_mov rfl) ?_
  refine ax_q (q_mov rfl) ?_
  refine ax_q (q_sub rfl rfl (by omega)) ?_
  first | refine ax_call rfl (vc_pure0 (c_inRange  ) hP rfl rfl ?_) | refine ax_call rfl (vc_lend0 (c_inRange  ) hP (by repeat (first | exact lal_id _ rfl | exact LAL.nil | refine LAL.cons ?_ ?_ | exact la_id _ rfl | exact LA.lend (lend_whole rfl (by first | (simp; done) | (rw [List.length_map]; rfl))) | refine LA.agg ?_ | refine LA.fn ?_ | refine LA.lend ?_ | exact Lend.d _ | exact Lend.zs _ | exact lend_whole rfl (by first | (simp; done) | (rw [List.length_map]; rfl)) | refine Lend.ptr rfl ?_ | refine Lend.fn ?_ | exact LendL.nil | refine LendL.cons ?_ ?_)) rfl rfl ?_)
  refine ax_q (q_mov rfl) ?_
  refine ax_nil ?_
  refine cx_keep rfl rfl ?_
  refine cx_ret (ret0 rfl rfl ?_)
  exact ⟨rfl, rfl⟩


/- loop.example/g00332/impl.isNumber -/
def k_c_isNumber : XCode :=
  .seq (.ops [.op (some 2) (.mov (.k (.bool false)))])
  (.keep [0] (.seq (.ops [.op (some 3) (.mov (.t 0)),
     .call (some 4) 54 [.t 3, .k (.int .i64 (-1000000000)), .k (.int .i64 1000000000)],
     .op (some 2) (.mov (.t 4))])
  (.keep [2] (.ret))))
theorem k_c_isNumber_fits : fitsF Try.prog 102 ⟨5, k_c_isNumber, [.t 2]⟩ = true := by kernel_rfl
theorem c_isNumber {n : Int} : Con Try.prog noMv 102 [int n] [] (fun r h => r = bool (inR n (-1000000000) 1000000000) ∧ h = []) := by
  refine con_of2 k_c_isNumber_fits rfl fun C hP hmv => ?_
  unfold k_c_isNumber
  refine cx_seq ?_
  refine cx_ops ?_
  refine ax_q (q_mov rfl) ?_
  refine ax_nil ?_
  refine cx_keep rfl rfl ?_
  refine cx_seq ?_
  refine cx_ops ?_
  refine ax_q (q_mov rfl) ?_
  first | refine ax_call rfl (vc_pure0 (c_inRange  ) hP rfl rfl ?_) | refine ax_call rfl (vc_lend0 (c_inRange  ) hP (by repeat (first | exact lal_id _ rfl | exact LAL.nil | refine LAL.cons ?_ ?_ | exact la_id _ rfl | exact LA.lend (lend_whole rfl (by first | (simp; done) | (rw [List.length_map]; rfl))) | refine LA.agg ?_ | refine LA.fn ?_ | refine LA.lend ?_ | exact Lend.d _ | exact Lend.zs _ | exact lend_whole rfl (by first | (simp; done) | (rw [List.length_map]; rfl)) | refine Lend.ptr rfl ?_ | refine Lend.fn ?_ | exact LendL.nil | refine LendL.cons ?_ ?_)) rfl rfl ?_)
  refine ax_q (q_mov rfl) ?_
  refine ax_nil ?_
  refine cx_keep rfl rfl ?_
  refine cx_ret (ret0 rfl rfl ?_)
  exact ⟨rfl, rfl⟩


/- loop.example/g00332/impl.isLetter -/
def k_c_isLetter : XCode :=
  .seq (.ops [.op (some 2) (.mov (.k (.bool false)))])
  (.keep [0] (.seq (.ops [.op (some 3) (.mov (.t 0)),
     .op (some 4) (.bin .geq (.t 3) (.k (.int .u8 97))),
     .op (some 5) (.mov (.t 4)),
     .andor 8 true 2 5 [.op (some 6) (.mov (.t 0)), .op (some 7) (.bin .leq (.t 6) (.k (.int .u8 122)))] (.t 7),
     .op (some 2) (.mov (.t 8))])
  (.keep [2] (.ret))))
theorem k_c_isLetter_fits : fitsF Try.prog 114 ⟨9, k_c_isLetter, [.t 2]⟩ = true := by kernel_rfl
theorem c_isLetter {b : UInt8} : Con Try.prog noMv 114 [.d (.int .u8 b.toNat)] [] (fun r h => r = bool (inR (b.toNat : Int) 97 122) ∧ h = []) := by
  refine con_of2 k_c_isLetter_fits rfl fun C hP hmv => ?_
  unfold k_c_isLetter
  refine cx_seq ?_
  refine cx_ops ?_
  refine ax_q (q_mov rfl) ?_
  refine ax_nil ?_
  refine cx_keep rfl rfl ?_
  refine cx_seq ?_
  refine cx_ops ?_
  refine ax_q (q_mov rfl) ?_
  refine ax_q (q_ibin rfl rfl rfl) ?_
  refine ax_q (q_mov rfl) ?_
  apply ax_and rfl rfl
  · intro g
    have g := dT g
    refine ax_q (q_mov rfl) ?_
    refine ax_q (q_ibin rfl rfl rfl) ?_
    exact ax_nil ⟨rfl, by repeat (first | exact trivial | refine ⟨rfl, ?_⟩ | refine ⟨?_, ?_⟩)⟩
  refine ax_q (q_mov rfl) ?_
  refine ax_nil ?_
  refine cx_keep rfl rfl ?_
  refine cx_ret (ret0 rfl rfl ?_)
  exact ⟨rfl, rfl⟩


/- loop.example/g00332/impl.isWord -/
def k_c_isWord : XCode :=
  .seq (.ops [.op (some 2) (.mov (.k (.bool false)))])
  (.keep [0] (.seq (.seq (.ops [.op (some 4) (.mov (.t 0)),
      .op (some 5) (.lenT (.t 4)),
      .op (some 6) (.mov (.k (.int .i64 0)))])
   (.keep [0, 5, 6] (.block 0 (.loop (.seq (.ops [.op (some 7) (.bin .lss (.t 6) (.t 5))])
     (.keep [0, 5, 6, 7] (.seq (.cond (.t 7)
       (.skip)
       (.exit 0))
     (.keep [0, 5, 6] (.seq (.block 1 (.seq (.ops [.op (some 8) (.mov (.t 6)),
          .op (some 3) (.mov (.t 8))])
       (.keep [0, 3, 5, 6] (.seq (.ops [.op (some 9) (.mov (.t 0)),
          .op (some 10) (.mov (.t 3)),
          .op (some 11) (.idxS (.t 9) (.t 10)),
          .call (some 12) 114 [.t 11],
          .op (some 13) (.not (.t 12))])
       (.keep [0, 5, 6, 13] (.cond (.t 13)
        (.seq (.ops [.op (some 2) (.mov (.k (.bool false)))])
         (.keep [2] (.ret)))
        (.skip)))))))
     (.keep [0, 5, 6] (.ops [.op (some 14) (.bin .add (.t 6) (.k (.int .i64 1))),
       .op (some 6) (.mov (.t 14))])))))))))))
  (.keep [0] (.seq (.ops [.op (some 15) (.mov (.t 0)),
     .op (some 16) (.lenT (.t 15)),
     .op (some 17) (.bin .leq (.t 16) (.k (.int .i64 10))),
     .op (some 2) (.mov (.t 17))])
  (.keep [2] (.ret))))))
theorem k_c_isWord_fits : fitsF Try.prog 103 ⟨18, k_c_isWord, [.t 2]⟩ = true := by kernel_rfl
theorem c_isWord {s : Str} (hs : s.length ≤ 1048576) : Con Try.prog noMv 103 [str s] [] (fun r h => r = bool (isWord s) ∧ h = []) := by
  refine con_of2 k_c_isWord_fits rfl fun C hP hmv => ?_
  unfold k_c_isWord
  refine cx_seq ?_
  refine cx_ops ?_
  refine ax_q (q_mov rfl) ?_
  refine ax_nil ?_
  refine cx_keep rfl rfl ?_
  refine cx_seq ?_
  refine cx_seq ?_
  refine cx_ops ?_
  refine ax_q (q_mov rfl) ?_
  refine ax_q (q_lenT rfl) ?_
  refine ax_q (q_mov rfl) ?_
  refine ax_nil ?_
  refine cx_keep rfl rfl ?_
  refine cx_block ?_
  refine cx_loopU (fun n k => k ≤ s.length ∧ n = s.length - k ∧ ∀ j, j < k → ∀ x, s[j]? = some x → badCh x = false) (fun k : Nat => [(6, int k)]) (fun _ => []) ⟨_, 0, ⟨Nat.zero_le _, rfl, fun j hj => by omega⟩, by repeat (first | exact trivial | refine ⟨rfl, ?_⟩ | refine ⟨?_, ?_⟩)⟩ ?_
  rintro n k ⟨hk, rfl, hb⟩
  refine cx_seq ?_
  refine cx_ops ?_
  refine ax_q (q_ibin rfl rfl rfl) ?_
  refine ax_nil ?_
  refine cx_keep rfl rfl ?_
  refine cx_seq ?_
  refine cx_cond rfl (fun h0 => ?_) (fun h0 => ?_)
  · have h0 := dT h0
    have h0x : k < s.length := by omega
    refine cx_skip ?_
    refine cx_keep rfl rfl ?_
    refine cx_seq ?_
    refine cx_block ?_
    refine cx_seq ?_
    refine cx_ops ?_
    refine ax_q (q_mov rfl) ?_
    refine ax_q (q_mov rfl) ?_
    refine ax_nil ?_
    refine cx_keep rfl rfl ?_
    refine cx_seq ?_
    refine cx_ops ?_
    refine ax_q (q_mov rfl) ?_
    refine ax_q (q_mov rfl) ?_
    refine ax_q (q_idxN rfl rfl (by first | assumption | omega)) ?_
    first | refine ax_call rfl (vc_pure0 (c_isLetter  ) hP rfl rfl ?_) | refine ax_call rfl (vc_lend0 (c_isLetter  ) hP (by repeat (first | exact lal_id _ rfl | exact LAL.nil | refine LAL.cons ?_ ?_ | exact la_id _ rfl | exact LA.lend (lend_whole rfl (by first | (simp; done) | (rw [List.length_map]; rfl))) | refine LA.agg ?_ | refine LA.fn ?_ | refine LA.lend ?_ | exact Lend.d _ | exact Lend.zs _ | exact lend_whole rfl (by first | (simp; done) | (rw [List.length_map]; rfl)) | refine Lend.ptr rfl ?_ | refine Lend.fn ?_ | exact LendL.nil | refine LendL.cons ?_ ?_)) rfl rfl ?_)
    refine ax_q (q_not rfl) ?_
    refine ax_nil ?_
    refine cx_keep rfl rfl ?_
    refine cx_cond rfl (fun h1 => ?_) (fun h1 => ?_)
    · have h1 : badCh s[k] = true := h1
      refine cx_seq ?_
      refine cx_ops ?_
      refine ax_q (q_mov rfl) ?_
      refine ax_nil ?_
      refine cx_keep rfl rfl ?_
      refine cx_ret (ret0 rfl rfl ?_)
      exact ⟨by unfold isWord; rw [any_hit h0x h1] <;> rfl, rfl⟩
    · have h1 : badCh s[k] = false := h1
      refine cx_skip ?_
      refine cx_keep rfl rfl ?_
      refine cx_ops ?_
      refine ax_qe (r' := int ((k + 1 : Nat) : Int)) (q_ibin rfl rfl rfl) (by rw [wi (by omega) (by omega)]; rfl) ?_
      refine ax_q (q_mov rfl) ?_
      refine ax_nil ?_
      exact ⟨_, k + 1, by omega, ⟨by omega, rfl, before_step h0x hb h1⟩, by repeat (first | exact trivial | refine ⟨rfl, ?_⟩ | refine ⟨?_, ?_⟩)⟩
  · have h0 := dF h0
    have h0x : k = s.length := by omega
    refine cx_exit rfl ?_
    refine cx_keep rfl rfl ?_
    refine cx_seq ?_
    refine cx_ops ?_
    refine ax_q (q_mov rfl) ?_
    refine ax_q (q_lenT rfl) ?_
    refine ax_q (q_ibin rfl rfl rfl) ?_
    refine ax_q (q_mov rfl) ?_
    refine ax_nil ?_
    refine cx_keep rfl rfl ?_
    refine cx_ret (ret0 rfl rfl ?_)
    exact ⟨by unfold isWord; rw [any_all (fun i hi => hb i (by omega))] <;> rfl, rfl⟩


/- loop.example/g00332/impl.ValueOK -/
def k_c_ValueOK : XCode :=
  .seq (.ops [.op (some 1) (.box (.t 0)),
     .op (some 2) (.mov (.k (.bool false)))])
  (.keep [1] (.seq (.seq (.ops [.op (some 3) (.fadr (.t 1) 0),
      .op (some 4) (.load1 (.t 3))])
   (.keep [1, 4] (.block 0 (.seq (.ops [.op (some 6) (.bin .eql (.t 4) (.k (.int .i64 0))),
       .op (some 5) (.mov (.t 6))])
    (.keep [1, 4, 5] (.cond (.t 5)
     (.seq (.ops [.op (some 7) (.loadN 3 (.t 1)),
         .op (some 8) (.build [.int .i64 0, .int .i64 0, .str []] []),
         .op (some 9) (.eqs false [0, 0, 2] (.t 7) (.t 8)),
         .op (some 2) (.mov (.t 9))])
      (.keep [2] (.ret)))
     (.seq (.ops [.op (some 11) (.bin .eql (.t 4) (.k (.int .i64 1))),
         .op (some 10) (.mov (.t 11))])
      (.keep [1, 10] (.cond (.t 10)
       (.seq (.ops [.op (some 12) (.fadr (.t 1) 1),
           .op (some 13) (.load1 (.t 12)),
           .call (some 14) 102 [.t 13],
           .op (some 15) (.mov (.t 14)),
           .andor 19 true 3 15 [.op (some 16) (.fadr (.t 1) 2), .op (some 17) (.load1 (.t 16)), .op (some 18) (.bin .eql (.t 17) (.k (.str [])))] (.t 18),
           .op (some 2) (.mov (.t 19))])
        (.keep [2] (.ret)))
       (.skip))))))))))
  (.keep [1] (.seq (.ops [.op (some 20) (.fadr (.t 1) 0),
     .op (some 21) (.load1 (.t 20)),
     .op (some 22) (.bin .eql (.t 21) (.k (.int .i64 2))),
     .op (some 23) (.mov (.t 22)),
     .andor 27 true 3 23 [.op (some 24) (.fadr (.t 1) 1), .op (some 25) (.load1 (.t 24)), .op (some 26) (.bin .eql (.t 25) (.k (.int .i64 0)))] (.t 26),
     .op (some 28) (.mov (.t 27)),
     .andor 32 true 8 28 [.op (some 29) (.fadr (.t 1) 2), .op (some 30) (.load1 (.t 29)), .call (some 31) 103 [.t 30]] (.t 31),
     .op (some 2) (.mov (.t 32))])
  (.keep [2] (.ret))))))
theorem k_c_ValueOK_fits : fitsF Try.prog 78 ⟨33, k_c_ValueOK, [.t 2]⟩ = true := by kernel_rfl
theorem c_ValueOK {v : GValue} (hv : v.T.length ≤ 1048576) : Con Try.prog noMv 78 [v.av] [] (fun r h => r = bool (valueOK v) ∧ h = []) := by
  refine con_of2 k_c_ValueOK_fits rfl fun C hP hmv => ?_
  unfold k_c_ValueOK
  refine cx_seq ?_
  refine cx_ops ?_
  refine ax_e (e_box rfl rfl (by decide) rfl rfl rfl) ?_
  refine ax_q (q_mov rfl) ?_
  refine ax_nil ?_
  refine cx_keep rfl rfl ?_
  refine cx_seq ?_
  refine cx_seq ?_
  refine cx_ops ?_
  first | refine ax_q (q_fadr_ptr rfl) ?_ | refine ax_q (q_fadr_rptr rfl) ?_ | refine ax_q (q_fadr_ip rfl) ?_
  first | refine ax_q (q_load1_ptr rfl rfl rfl) ?_ | refine ax_q (q_load1_ip rfl) ?_ | refine ax_q (q_load1_rptr rfl rfl rfl rfl) ?_ | refine ax_q (q_load1_rptr rfl rfl (by assumption) rfl) ?_ | refine ax_q (q_load1_rptr rfl rfl (mapAt (by first | assumption | omega)) rfl) ?_
  refine ax_nil ?_
  refine cx_keep rfl rfl ?_
  refine cx_block ?_
  refine cx_seq ?_
  refine cx_ops ?_
  refine ax_q (q_ibin rfl rfl rfl) ?_
  refine ax_q (q_mov rfl) ?_
  refine ax_nil ?_
  refine cx_keep rfl rfl ?_
  refine cx_cond rfl (fun h0 => ?_) (fun h0 => ?_)
  · have h0 := dT h0
    refine cx_seq ?_
    refine cx_ops ?_
    first | refine ax_q (q_ldN rfl rfl rfl) ?_ | refine ax_q (q_loadN_ip rfl (Nat.le_refl _)) ?_ | refine ax_q (q_loadN_ip rfl (by decide)) ?_ | refine ax_q (q_loadN_rptr rfl rfl (by assumption) (by decide)) ?_ | refine ax_q (q_loadN_rptr rfl rfl (mapAt (by first | assumption | omega)) (by decide)) ?_
    refine ax_q (q_build rfl) ?_
    first | refine ax_q (GValue.q_eqs rfl rfl) ?_ | refine ax_q (q_eqs rfl rfl rfl) ?_
    refine ax_q (q_mov rfl) ?_
    refine ax_nil ?_
    refine cx_keep rfl rfl ?_
    refine cx_ret (ret0 rfl rfl ?_)
    exact ⟨by rw [valueOK_0 h0, decide_eq_true h0, Bool.and_true, Bool.true_and] <;> rfl, rfl⟩
  · have h0 := dF h0
    refine cx_seq ?_
    refine cx_ops ?_
    refine ax_q (q_ibin rfl rfl rfl) ?_
    refine ax_q (q_mov rfl) ?_
    refine ax_nil ?_
    refine cx_keep rfl rfl ?_
    refine cx_cond rfl (fun h1 => ?_) (fun h1 => ?_)
    · have h1 := dT h1
      refine cx_seq ?_
      refine cx_ops ?_
      first | refine ax_q (q_fadr_ptr rfl) ?_ | refine ax_q (q_fadr_rptr rfl) ?_ | refine ax_q (q_fadr_ip rfl) ?_
      first | refine ax_q (q_load1_ptr rfl rfl rfl) ?_ | refine ax_q (q_load1_ip rfl) ?_ | refine ax_q (q_load1_rptr rfl rfl rfl rfl) ?_ | refine ax_q (q_load1_rptr rfl rfl (by assumption) rfl) ?_ | refine ax_q (q_load1_rptr rfl rfl (mapAt (by first | assumption | omega)) rfl) ?_
      first | refine ax_call rfl (vc_pure0 (c_isNumber  ) hP rfl rfl ?_) | refine ax_call rfl (vc_lend0 (c_isNumber  ) hP (by repeat (first | exact lal_id _ rfl | exact LAL.nil | refine LAL.cons ?_ ?_ | exact la_id _ rfl | exact LA.lend (lend_whole rfl (by first | (simp; done) | (rw [List.length_map]; rfl))) | refine LA.agg ?_ | refine LA.fn ?_ | refine LA.lend ?_ | exact Lend.d _ | exact Lend.zs _ | exact lend_whole rfl (by first | (simp; done) | (rw [List.length_map]; rfl)) | refine Lend.ptr rfl ?_ | refine Lend.fn ?_ | exact LendL.nil | refine LendL.cons ?_ ?_)) rfl rfl ?_)
      refine ax_q (q_mov rfl) ?_
      apply ax_and rfl rfl
      · intro g
        first | refine ax_q (q_fadr_ptr rfl) ?_ | refine ax_q (q_fadr_rptr rfl) ?_ | refine ax_q (q_fadr_ip rfl) ?_
        first | refine ax_q (q_load1_ptr rfl rfl rfl) ?_ | refine ax_q (q_load1_ip rfl) ?_ | refine ax_q (q_load1_rptr rfl rfl rfl rfl) ?_ | refine ax_q (q_load1_rptr rfl rfl (by assumption) rfl) ?_ | refine ax_q (q_load1_rptr rfl rfl (mapAt (by first | assumption | omega)) rfl) ?_
        refine ax_q (q_sbin rfl rfl rfl) ?_
        exact ax_nil ⟨rfl, by repeat (first | exact trivial | refine ⟨rfl, ?_⟩ | refine ⟨?_, ?_⟩)⟩
      refine ax_q (q_mov rfl) ?_
      refine ax_nil ?_
      refine cx_keep rfl rfl ?_
      refine cx_ret (ret0 rfl rfl ?_)
      exact ⟨by rw [valueOK_1 h1] <;> rfl, rfl⟩
    · have h1 := dF h1
      refine cx_skip ?_
      refine cx_keep rfl rfl ?_
      refine cx_seq ?_
      refine cx_ops ?_
      first | refine ax_q (q_fadr_ptr rfl) ?_ | refine ax_q (q_fadr_rptr rfl) ?_ | refine ax_q (q_fadr_ip rfl) ?_
      first | refine ax_q (q_load1_ptr rfl rfl rfl) ?_ | refine ax_q (q_load1_ip rfl) ?_ | refine ax_q (q_load1_rptr rfl rfl rfl rfl) ?_ | refine ax_q (q_load1_rptr rfl rfl (by assumption) rfl) ?_ | refine ax_q (q_load1_rptr rfl rfl (mapAt (by first | assumption | omega)) rfl) ?_
      refine ax_q (q_ibin rfl rfl rfl) ?_
      refine ax_q (q_mov rfl) ?_
      apply ax_and rfl rfl
      · intro g
        have g := dT g
        first | refine ax_q (q_fadr_ptr rfl) ?_ | refine ax_q (q_fadr_rptr rfl) ?_ | refine ax_q (q_fadr_ip rfl) ?_
        first | refine ax_q (q_load1_ptr rfl rfl rfl) ?_ | refine ax_q (q_load1_ip rfl) ?_ | refine ax_q (q_load1_rptr rfl rfl rfl rfl) ?_ | refine ax_q (q_load1_rptr rfl rfl (by assumption) rfl) ?_ | refine ax_q (q_load1_rptr rfl rfl (mapAt (by first | assumption | omega)) rfl) ?_
        refine ax_q (q_ibin rfl rfl rfl) ?_
        exact ax_nil ⟨rfl, by repeat (first | exact trivial | refine ⟨rfl, ?_⟩ | refine ⟨?_, ?_⟩)⟩
      refine ax_q (q_mov rfl) ?_
      apply ax_and rfl rfl
      · intro g
        have g := (fun h => And.intro (dT (and_T h).1) (dT (and_T h).2)) g
        first | refine ax_q (q_fadr_ptr rfl) ?_ | refine ax_q (q_fadr_rptr rfl) ?_ | refine ax_q (q_fadr_ip rfl) ?_
        first | refine ax_q (q_load1_ptr rfl rfl rfl) ?_ | refine ax_q (q_load1_ip rfl) ?_ | refine ax_q (q_load1_rptr rfl rfl rfl rfl) ?_ | refine ax_q (q_load1_rptr rfl rfl (by assumption) rfl) ?_ | refine ax_q (q_load1_rptr rfl rfl (mapAt (by first | assumption | omega)) rfl) ?_
        first | refine ax_call rfl (vc_pure0 (c_isWord  ?_) hP rfl rfl ?_) | refine ax_call rfl (vc_lend0 (c_isWord  ?_) hP (by repeat (first | exact lal_id _ rfl | exact LAL.nil | refine LAL.cons ?_ ?_ | exact la_id _ rfl | exact LA.lend (lend_whole rfl (by first | (simp; done) | (rw [List.length_map]; rfl))) | refine LA.agg ?_ | refine LA.fn ?_ | refine LA.lend ?_ | exact Lend.d _ | exact Lend.zs _ | exact lend_whole rfl (by first | (simp; done) | (rw [List.length_map]; rfl)) | refine Lend.ptr rfl ?_ | refine Lend.fn ?_ | exact LendL.nil | refine LendL.cons ?_ ?_)) rfl rfl ?_)
        · first | assumption | omega | (simp; done) | (simp; omega)
        exact ax_nil ⟨rfl, by repeat (first | exact trivial | refine ⟨rfl, ?_⟩ | refine ⟨?_, ?_⟩)⟩
      refine ax_q (q_mov rfl) ?_
      refine ax_nil ?_
      refine cx_keep rfl rfl ?_
      refine cx_ret (ret0 rfl rfl ?_)
      exact ⟨by rw [valueOK_2 h0 h1] <;> rfl, rfl⟩


/- loop.example/g00332/impl.isUnary -/
def k_c_isUnary : XCode :=
  .seq (.ops [.op (some 2) (.mov (.k (.bool false)))])
  (.keep [0] (.seq (.ops [.op (some 3) (.mov (.t 0)),
     .call (some 4) 54 [.t 3, .k (.int .i64 3), .k (.int .i64 5)],
     .op (some 2) (.mov (.t 4))])
  (.keep [2] (.ret))))
theorem k_c_isUnary_fits : fitsF Try.prog 82 ⟨5, k_c_isUnary, [.t 2]⟩ = true := by kernel_rfl
theorem c_isUnary {n : Int} : Con Try.prog noMv 82 [int n] [] (fun r h => r = bool (inR n 3 5) ∧ h = []) := by
  refine con_of2 k_c_isUnary_fits rfl fun C hP hmv => ?_
  unfold k_c_isUnary
  refine cx_seq ?_
  refine cx_ops ?_
  refine ax_q (q_mov rfl) ?_
  refine ax_nil ?_
  refine cx_keep rfl rfl ?_
  refine cx_seq ?_
  refine cx_ops ?_
  refine ax_q (q_mov rfl) ?_
  first | refine ax_call rfl (vc_pure0 (c_inRange  ) hP rfl rfl ?_) | refine ax_call rfl (vc_lend0 (c_inRange  ) hP (by repeat (first | exact lal_id _ rfl | exact LAL.nil | refine LAL.cons ?_ ?_ | exact la_id _ rfl | exact LA.lend (lend_whole rfl (by first | (simp; done) | (rw [List.length_map]; rfl))) | refine LA.agg ?_ | refine LA.fn ?_ | refine LA.lend ?_ | exact Lend.d _ | exact Lend.zs _ | exact lend_whole rfl (by first | (simp; done) | (rw [List.length_map]; rfl)) | refine Lend.ptr rfl ?_ | refine Lend.fn ?_ | exact LendL.nil | refine LendL.cons ?_ ?_)) rfl rfl ?_)
  refine ax_q (q_mov rfl) ?_
  refine ax_nil ?_
  refine cx_keep rfl rfl ?_
  refine cx_ret (ret0 rfl rfl ?_)
  exact ⟨rfl, rfl⟩


/- loop.example/g00332/impl.isBinary -/
def k_c_isBinary : XCode :=
  .seq (.ops [.op (some 2) (.mov (.k (.bool false)))])
  (.keep [0] (.seq (.ops [.op (some 3) (.mov (.t 0)),
     .call (some 4) 54 [.t 3, .k (.int .i64 6), .k (.int .i64 13)],
     .op (some 2) (.mov (.t 4))])
  (.keep [2] (.ret))))
theorem k_c_isBinary_fits : fitsF Try.prog 100 ⟨5, k_c_isBinary, [.t 2]⟩ = true := by kernel_rfl
theorem c_isBinary {n : Int} : Con Try.prog noMv 100 [int n] [] (fun r h => r = bool (inR n 6 13) ∧ h = []) := by
  refine con_of2 k_c_isBinary_fits rfl fun C hP hmv => ?_
  unfold k_c_isBinary
  refine cx_seq ?_
  refine cx_ops ?_
  refine ax_q (q_mov rfl) ?_
  refine ax_nil ?_
  refine cx_keep rfl rfl ?_
  refine cx_seq ?_
  refine cx_ops ?_
  refine ax_q (q_mov rfl) ?_
  first | refine ax_call rfl (vc_pure0 (c_inRange  ) hP rfl rfl ?_) | refine ax_call rfl (vc_lend0 (c_inRange  ) hP (by repeat (first | exact lal_id _ rfl | exact LAL.nil | refine LAL.cons ?_ ?_ | exact la_id _ rfl | exact LA.lend (lend_whole rfl (by first | (simp; done) | (rw [List.length_map]; rfl))) | refine LA.agg ?_ | refine LA.fn ?_ | refine LA.lend ?_ | exact Lend.d _ | exact Lend.zs _ | exact lend_whole rfl (by first | (simp; done) | (rw [List.length_map]; rfl)) | refine Lend.ptr rfl ?_ | refine Lend.fn ?_ | exact LendL.nil | refine LendL.cons ?_ ?_)) rfl rfl ?_)
  refine ax_q (q_mov rfl) ?_
  refine ax_nil ?_
  refine cx_keep rfl rfl ?_
  refine cx_ret (ret0 rfl rfl ?_)
  exact ⟨rfl, rfl⟩


/- loop.example/g00332/impl.insOK -/
def k_c_insOK : XCode :=
  .seq (.ops [.op (some 3) (.box (.t 0)),
     .op (some 6) (.mov (.k (.bool false)))])
  (.keep [1, 2, 3] (.seq (.seq (.ops [.op (some 7) (.fadr (.t 3) 0),
      .op (some 8) (.load1 (.t 7)),
      .op (some 9) (.bin .neq (.t 8) (.k (.int .i64 1))),
      .op (some 10) (.mov (.t 9)),
      .andor 15 true 3 10 [.op (some 11) (.fadr (.t 3) 2), .op (some 12) (.loadN 3 (.t 11)), .op (some 13) (.build [.int .i64 0, .int .i64 0, .str []] []), .op (some 14) (.eqs true [0, 0, 2] (.t 12) (.t 13))] (.t 14)])
   (.keep [1, 2, 3, 15] (.cond (.t 15)
    (.seq (.ops [.op (some 6) (.mov (.k (.bool false)))])
     (.keep [6] (.ret)))
    (.skip))))
  (.keep [1, 2, 3] (.seq (.seq (.ops [.op (some 16) (.fadr (.t 3) 0),
      .op (some 17) (.load1 (.t 16))])
   (.keep [1, 2, 3, 17] (.block 0 (.seq (.ops [.op (some 19) (.bin .eql (.t 17) (.k (.int .i64 1))),
       .op (some 18) (.mov (.t 19))])
    (.keep [1, 2, 3, 17, 18] (.cond (.t 18)
     (.seq (.ops [.op (some 20) (.fadr (.t 3) 1),
         .op (some 21) (.load1 (.t 20)),
         .op (some 22) (.bin .eql (.t 21) (.k (.int .i64 0))),
         .op (some 23) (.mov (.t 22)),
         .andor 27 true 3 23 [.op (some 24) (.fadr (.t 3) 2), .op (some 25) (.loadN 3 (.t 24)), .call (some 26) 78 [.t 25]] (.t 26),
         .op (some 6) (.mov (.t 27))])
      (.keep [6] (.ret)))
     (.seq (.ops [.op (some 29) (.bin .eql (.t 17) (.k (.int .i64 2))),
         .op (some 28) (.mov (.t 29))])
      (.keep [1, 2, 3, 17, 28] (.cond (.t 28)
       (.seq (.ops [.op (some 30) (.fadr (.t 3) 1),
           .op (some 31) (.load1 (.t 30)),
           .call (some 32) 52 [.t 31, .k (.int .i64 3)],
           .op (some 6) (.mov (.t 32))])
        (.keep [6] (.ret)))
       (.seq (.ops [.op (some 34) (.bin .eql (.t 17) (.k (.int .i64 3))),
           .op (some 33) (.mov (.t 34))])
        (.keep [1, 2, 3, 17, 33] (.cond (.t 33)
         (.seq (.ops [.op (some 35) (.fadr (.t 3) 1),
             .op (some 36) (.load1 (.t 35)),
             .call (some 37) 82 [.t 36],
             .op (some 6) (.mov (.t 37))])
          (.keep [6] (.ret)))
         (.seq (.ops [.op (some 39) (.bin .eql (.t 17) (.k (.int .i64 4))),
             .op (some 38) (.mov (.t 39))])
          (.keep [1, 2, 3, 17, 38] (.cond (.t 38)
           (.seq (.ops [.op (some 40) (.fadr (.t 3) 1),
               .op (some 41) (.load1 (.t 40)),
               .call (some 42) 100 [.t 41],
               .op (some 6) (.mov (.t 42))])
            (.keep [6] (.ret)))
           (.seq (.seq (.ops [.op (some 44) (.bin .eql (.t 17) (.k (.int .i64 5))),
                .op (some 43) (.mov (.t 44))])
             (.keep [1, 2, 3, 17, 43] (.cond (.t 43)
              (.skip)
              (.ops [.op (some 45) (.bin .eql (.t 17) (.k (.int .i64 6))),
                 .op (some 43) (.mov (.t 45))]))))
            (.keep [1, 2, 3, 43] (.cond (.t 43)
             (.seq (.ops [.op (some 46) (.fadr (.t 3) 1),
                 .op (some 47) (.load1 (.t 46)),
                 .op (some 48) (.mov (.t 1)),
                 .op (some 49) (.bin .add (.t 48) (.k (.int .i64 1))),
                 .op (some 50) (.mov (.t 2)),
                 .call (some 51) 54 [.t 47, .t 49, .t 50],
                 .op (some 6) (.mov (.t 51))])
              (.keep [6] (.ret)))
             (.skip)))))))))))))))))))
  (.keep [] (.seq (.ops [.op (some 6) (.mov (.k (.bool false)))])
  (.keep [6] (.ret))))))))
theorem k_c_insOK_fits : fitsF Try.prog 74 ⟨52, k_c_insOK, [.t 6]⟩ = true := by kernel_rfl
theorem c_insOK {x : GIns} {i n : Int} (hv : x.V.T.length ≤ 1048576) (hi : 0 ≤ i ∧ i ≤ 1000) : Con Try.prog noMv 74 [x.av, int i, int n] [] (fun r h => r = bool (insOK x i n) ∧ h = []) := by
  refine con_of2 k_c_insOK_fits rfl fun C hP hmv => ?_
  unfold k_c_insOK
  refine cx_seq ?_
  refine cx_ops ?_
  refine ax_e (e_box rfl rfl (by decide) rfl rfl rfl) ?_
  refine ax_q (q_mov rfl) ?_
  refine ax_nil ?_
  refine cx_keep rfl rfl ?_
  refine cx_seq ?_
  refine cx_seq ?_
  refine cx_ops ?_
  first | refine ax_q (q_fadr_ptr rfl) ?_ | refine ax_q (q_fadr_rptr rfl) ?_ | refine ax_q (q_fadr_ip rfl) ?_
  first | refine ax_q (q_load1_ptr rfl rfl rfl) ?_ | refine ax_q (q_load1_ip rfl) ?_ | refine ax_q (q_load1_rptr rfl rfl rfl rfl) ?_ | refine ax_q (q_load1_rptr rfl rfl (by assumption) rfl) ?_ | refine ax_q (q_load1_rptr rfl rfl (mapAt (by first | assumption | omega)) rfl) ?_
  refine ax_q (q_ibin rfl rfl rfl) ?_
  refine ax_q (q_mov rfl) ?_
  apply ax_and rfl rfl
  · intro g
    have g := nT g
    first | refine ax_q (q_fadr_ptr rfl) ?_ | refine ax_q (q_fadr_rptr rfl) ?_ | refine ax_q (q_fadr_ip rfl) ?_
    first | refine ax_q (q_ldN rfl rfl rfl) ?_ | refine ax_q (q_loadN_ip rfl (Nat.le_refl _)) ?_ | refine ax_q (q_loadN_ip rfl (by decide)) ?_ | refine ax_q (q_loadN_rptr rfl rfl (by assumption) (by decide)) ?_ | refine ax_q (q_loadN_rptr rfl rfl (mapAt (by first | assumption | omega)) (by decide)) ?_
    refine ax_q (q_build rfl) ?_
    first | refine ax_q (GValue.q_eqs rfl rfl) ?_ | refine ax_q (q_eqs rfl rfl rfl) ?_
    exact ax_nil ⟨rfl, by repeat (first | exact trivial | refine ⟨rfl, ?_⟩ | refine ⟨?_, ?_⟩)⟩
  refine ax_nil ?_
  refine cx_keep rfl rfl ?_
  refine cx_cond rfl (fun h0 => ?_) (fun h0 => ?_)
  · obtain ⟨ha, hz⟩ := and_T h0
    have ha : ¬ x.Op = 1 := nT ha
    have hz : zeroV x.V = false := bT hz
    refine cx_seq ?_
    refine cx_ops ?_
    refine ax_q (q_mov rfl) ?_
    refine ax_nil ?_
    refine cx_keep rfl rfl ?_
    refine cx_ret (ret0 rfl rfl ?_)
    exact ⟨by rw [insOK_z ha hz]; rfl, rfl⟩
  · have hz : ¬ x.Op = 1 → zeroV x.V = true := fun h => (and_F h0).elim (fun e => absurd (nF e) h) (fun e => bF e)
    refine cx_skip ?_
    refine cx_keep rfl rfl ?_
    refine cx_seq ?_
    refine cx_seq ?_
    refine cx_ops ?_
    first | refine ax_q (q_fadr_ptr rfl) ?_ | refine ax_q (q_fadr_rptr rfl) ?_ | refine ax_q (q_fadr_ip rfl) ?_
    first | refine ax_q (q_load1_ptr rfl rfl rfl) ?_ | refine ax_q (q_load1_ip rfl) ?_ | refine ax_q (q_load1_rptr rfl rfl rfl rfl) ?_ | refine ax_q (q_load1_rptr rfl rfl (by assumption) rfl) ?_ | refine ax_q (q_load1_rptr rfl rfl (mapAt (by first | assumption | omega)) rfl) ?_
    refine ax_nil ?_
    refine cx_keep rfl rfl ?_
    refine cx_block ?_
    refine cx_seq ?_
    refine cx_ops ?_
    refine ax_q (q_ibin rfl rfl rfl) ?_
    refine ax_q (q_mov rfl) ?_
    refine ax_nil ?_
    refine cx_keep rfl rfl ?_
    refine cx_cond rfl (fun h1 => ?_) (fun h1 => ?_)
    · have h1 := dT h1
      refine cx_seq ?_
      refine cx_ops ?_
      first | refine ax_q (q_fadr_ptr rfl) ?_ | refine ax_q (q_fadr_rptr rfl) ?_ | refine ax_q (q_fadr_ip rfl) ?_
      first | refine ax_q (q_load1_ptr rfl rfl rfl) ?_ | refine ax_q (q_load1_ip rfl) ?_ | refine ax_q (q_load1_rptr rfl rfl rfl rfl) ?_ | refine ax_q (q_load1_rptr rfl rfl (by assumption) rfl) ?_ | refine ax_q (q_load1_rptr rfl rfl (mapAt (by first | assumption | omega)) rfl) ?_
      refine ax_q (q_ibin rfl rfl rfl) ?_
      refine ax_q (q_mov rfl) ?_
      apply ax_and rfl rfl
      · intro g
        have g := dT g
        first | refine ax_q (q_fadr_ptr rfl) ?_ | refine ax_q (q_fadr_rptr rfl) ?_ | refine ax_q (q_fadr_ip rfl) ?_
        first | refine ax_q (q_ldN rfl rfl rfl) ?_ | refine ax_q (q_loadN_ip rfl (Nat.le_refl _)) ?_ | refine ax_q (q_loadN_ip rfl (by decide)) ?_ | refine ax_q (q_loadN_rptr rfl rfl (by assumption) (by decide)) ?_ | refine ax_q (q_loadN_rptr rfl rfl (mapAt (by first | assumption | omega)) (by decide)) ?_
        first | refine ax_call rfl (vc_pure0 (c_ValueOK  ?_) hP rfl rfl ?_) | refine ax_call rfl (vc_lend0 (c_ValueOK  ?_) hP (by repeat (first | exact lal_id _ rfl | exact LAL.nil | refine LAL.cons ?_ ?_ | exact la_id _ rfl | exact LA.lend (lend_whole rfl (by first | (simp; done) | (rw [List.length_map]; rfl))) | refine LA.agg ?_ | refine LA.fn ?_ | refine LA.lend ?_ | exact Lend.d _ | exact Lend.zs _ | exact lend_whole rfl (by first | (simp; done) | (rw [List.length_map]; rfl)) | refine Lend.ptr rfl ?_ | refine Lend.fn ?_ | exact LendL.nil | refine LendL.cons ?_ ?_)) rfl rfl ?_)
        · first | assumption | omega | (simp; done) | (simp; omega)
        exact ax_nil ⟨rfl, by repeat (first | exact trivial | refine ⟨rfl, ?_⟩ | refine ⟨?_, ?_⟩)⟩
      refine ax_q (q_mov rfl) ?_
      refine ax_nil ?_
      refine cx_keep rfl rfl ?_
      refine cx_ret (ret0 rfl rfl ?_)
      exact ⟨by rw [insOK_1 h1]; rfl, rfl⟩
    · have h1 := dF h1
      refine cx_seq ?_
      refine cx_ops ?_
      refine ax_q (q_ibin rfl rfl rfl) ?_
      refine ax_q (q_mov rfl) ?_
      refine ax_nil ?_
      refine cx_keep rfl rfl ?_
      refine cx_cond rfl (fun h2 => ?_) (fun h2 => ?_)
      · have h2 := dT h2
        refine cx_seq ?_
        refine cx_ops ?_
        first | refine ax_q (q_fadr_ptr rfl) ?_ | refine ax_q (q_fadr_rptr rfl) ?_ | refine ax_q (q_fadr_ip rfl) ?_
        first | refine ax_q (q_load1_ptr rfl rfl rfl) ?_ | refine ax_q (q_load1_ip rfl) ?_ | refine ax_q (q_load1_rptr rfl rfl rfl rfl) ?_ | refine ax_q (q_load1_rptr rfl rfl (by assumption) rfl) ?_ | refine ax_q (q_load1_rptr rfl rfl (mapAt (by first | assumption | omega)) rfl) ?_
        first | refine ax_call rfl (vc_pure0 (c_isPlace  ?_) hP rfl rfl ?_) | refine ax_call rfl (vc_lend0 (c_isPlace  ?_) hP (by repeat (first | exact lal_id _ rfl | exact LAL.nil | refine LAL.cons ?_ ?_ | exact la_id _ rfl | exact LA.lend (lend_whole rfl (by first | (simp; done) | (rw [List.length_map]; rfl))) | refine LA.agg ?_ | refine LA.fn ?_ | refine LA.lend ?_ | exact Lend.d _ | exact Lend.zs _ | exact lend_whole rfl (by first | (simp; done) | (rw [List.length_map]; rfl)) | refine Lend.ptr rfl ?_ | refine Lend.fn ?_ | exact LendL.nil | refine LendL.cons ?_ ?_)) rfl rfl ?_)
        · first | assumption | omega | (simp; done) | (simp; omega)
        refine ax_q (q_mov rfl) ?_
        refine ax_nil ?_
        refine cx_keep rfl rfl ?_
        refine cx_ret (ret0 rfl rfl ?_)
        exact ⟨by rw [insOK_v h1 (hz h1), if_pos h2]; rfl, rfl⟩
      · have h2 := dF h2
        refine cx_seq ?_
        refine cx_ops ?_
        refine ax_q (q_ibin rfl rfl rfl) ?_
        refine ax_q (q_mov rfl) ?_
        refine ax_nil ?_
        refine cx_keep rfl rfl ?_
        refine cx_cond rfl (fun h3 => ?_) (fun h3 => ?_)
        · have h3 := dT h3
          refine cx_seq ?_
          refine cx_ops ?_
          first | refine ax_q (q_fadr_ptr rfl) ?_ | refine ax_q (q_fadr_rptr rfl) ?_ | refine ax_q (q_fadr_ip rfl) ?_
          first | refine ax_q (q_load1_ptr rfl rfl rfl) ?_ | refine ax_q (q_load1_ip rfl) ?_ | refine ax_q (q_load1_rptr rfl rfl rfl rfl) ?_ | refine ax_q (q_load1_rptr rfl rfl (by assumption) rfl) ?_ | refine ax_q (q_load1_rptr rfl rfl (mapAt (by first | assumption | omega)) rfl) ?_
          first | refine ax_call rfl (vc_pure0 (c_isUnary  ) hP rfl rfl ?_) | refine ax_call rfl (vc_lend0 (c_isUnary  ) hP (by repeat (first | exact lal_id _ rfl | exact LAL.nil | refine LAL.cons ?_ ?_ | exact la_id _ rfl | exact LA.lend (lend_whole rfl (by first | (simp; done) | (rw [List.length_map]; rfl))) | refine LA.agg ?_ | refine LA.fn ?_ | refine LA.lend ?_ | exact Lend.d _ | exact Lend.zs _ | exact lend_whole rfl (by first | (simp; done) | (rw [List.length_map]; rfl)) | refine Lend.ptr rfl ?_ | refine Lend.fn ?_ | exact LendL.nil | refine LendL.cons ?_ ?_)) rfl rfl ?_)
          refine ax_q (q_mov rfl) ?_
          refine ax_nil ?_
          refine cx_keep rfl rfl ?_
          refine cx_ret (ret0 rfl rfl ?_)
          exact ⟨by rw [insOK_v h1 (hz h1), if_neg h2, if_pos h3]; rfl, rfl⟩
        · have h3 := dF h3
          refine cx_seq ?_
          refine cx_ops ?_
          refine ax_q (q_ibin rfl rfl rfl) ?_
          refine ax_q (q_mov rfl) ?_
          refine ax_nil ?_
          refine cx_keep rfl rfl ?_
          refine cx_cond rfl (fun h4 => ?_) (fun h4 => ?_)
          · have h4 := dT h4
            refine cx_seq ?_
            refine cx_ops ?_
            first | refine ax_q (q_fadr_ptr rfl) ?_ | refine ax_q (q_fadr_rptr rfl) ?_ | refine ax_q (q_fadr_ip rfl) ?_
            first | refine ax_q (q_load1_ptr rfl rfl rfl) ?_ | refine ax_q (q_load1_ip rfl) ?_ | refine ax_q (q_load1_rptr rfl rfl rfl rfl) ?_ | refine ax_q (q_load1_rptr rfl rfl (by assumption) rfl) ?_ | refine ax_q (q_load1_rptr rfl rfl (mapAt (by first | assumption | omega)) rfl) ?_
            first | refine ax_call rfl (vc_pure0 (c_isBinary  ) hP rfl rfl ?_) | refine ax_call rfl (vc_lend0 (c_isBinary  ) hP (by repeat (first | exact lal_id _ rfl | exact LAL.nil | refine LAL.cons ?_ ?_ | exact la_id _ rfl | exact LA.lend (lend_whole rfl (by first | (simp; done) | (rw [List.length_map]; rfl))) | refine LA.agg ?_ | refine LA.fn ?_ | refine LA.lend ?_ | exact Lend.d _ | exact Lend.zs _ | exact lend_whole rfl (by first | (simp; done) | (rw [List.length_map]; rfl)) | refine Lend.ptr rfl ?_ | refine Lend.fn ?_ | exact LendL.nil | refine LendL.cons ?_ ?_)) rfl rfl ?_)
            refine ax_q (q_mov rfl) ?_
            refine ax_nil ?_
            refine cx_keep rfl rfl ?_
            refine cx_ret (ret0 rfl rfl ?_)
            exact ⟨by rw [insOK_v h1 (hz h1), if_neg h2, if_neg h3, if_pos h4]; rfl, rfl⟩
          · have h4 := dF h4
            refine cx_seq ?_
            refine cx_seq ?_
            refine cx_ops ?_
            refine ax_q (q_ibin rfl rfl rfl) ?_
            refine ax_q (q_mov rfl) ?_
            refine ax_nil ?_
            refine cx_keep rfl rfl ?_
            refine cx_cond rfl (fun h5 => ?_) (fun h5 => ?_)
            · have h5 := dT h5
              refine cx_skip ?_
              refine cx_keep rfl rfl ?_
              refine cx_cond rfl (fun h6 => ?_) (fun h6 => ?_)
              · have h6 := dT h6
                refine cx_seq ?_
                refine cx_ops ?_
                first | refine ax_q (q_fadr_ptr rfl) ?_ | refine ax_q (q_fadr_rptr rfl) ?_ | refine ax_q (q_fadr_ip rfl) ?_
                first | refine ax_q (q_load1_ptr rfl rfl rfl) ?_ | refine ax_q (q_load1_ip rfl) ?_ | refine ax_q (q_load1_rptr rfl rfl rfl rfl) ?_ | refine ax_q (q_load1_rptr rfl rfl (by assumption) rfl) ?_ | refine ax_q (q_load1_rptr rfl rfl (mapAt (by first | assumption | omega)) rfl) ?_
                refine ax_q (q_mov rfl) ?_
                refine ax_q (q_add rfl rfl (by omega)) ?_
                refine ax_q (q_mov rfl) ?_
                first | refine ax_call rfl (vc_pure0 (c_inRange  ) hP rfl rfl ?_) | refine ax_call rfl (vc_lend0 (c_inRange  ) hP (by repeat (first | exact lal_id _ rfl | exact LAL.nil | refine LAL.cons ?_ ?_ | exact la_id _ rfl | exact LA.lend (lend_whole rfl (by first | (simp; done) | (rw [List.length_map]; rfl))) | refine LA.agg ?_ | refine LA.fn ?_ | refine LA.lend ?_ | exact Lend.d _ | exact Lend.zs _ | exact lend_whole rfl (by first | (simp; done) | (rw [List.length_map]; rfl)) | refine Lend.ptr rfl ?_ | refine Lend.fn ?_ | exact LendL.nil | refine LendL.cons ?_ ?_)) rfl rfl ?_)
                refine ax_q (q_mov rfl) ?_
                refine ax_nil ?_
                refine cx_keep rfl rfl ?_
                refine cx_ret (ret0 rfl rfl ?_)
                exact ⟨by rw [insOK_v h1 (hz h1), if_neg h2, if_neg h3, if_neg h4, if_pos (by omega)]; rfl, rfl⟩
              · have h6 := dF h6
                exfalso; omega
            · have h5 := dF h5
              refine cx_ops ?_
              refine ax_q (q_ibin rfl rfl rfl) ?_
              refine ax_q (q_mov rfl) ?_
              refine ax_nil ?_
              refine cx_keep rfl rfl ?_
              refine cx_cond rfl (fun h6 => ?_) (fun h6 => ?_)
              · have h6 := dT h6
                refine cx_seq ?_
                refine cx_ops ?_
                first | refine ax_q (q_fadr_ptr rfl) ?_ | refine ax_q (q_fadr_rptr rfl) ?_ | refine ax_q (q_fadr_ip rfl) ?_
                first | refine ax_q (q_load1_ptr rfl rfl rfl) ?_ | refine ax_q (q_load1_ip rfl) ?_ | refine ax_q (q_load1_rptr rfl rfl rfl rfl) ?_ | refine ax_q (q_load1_rptr rfl rfl (by assumption) rfl) ?_ | refine ax_q (q_load1_rptr rfl rfl (mapAt (by first | assumption | omega)) rfl) ?_
                refine ax_q (q_mov rfl) ?_
                refine ax_q (q_add rfl rfl (by omega)) ?_
                refine ax_q (q_mov rfl) ?_
                first | refine ax_call rfl (vc_pure0 (c_inRange  ) hP rfl rfl ?_) | refine ax_call rfl (vc_lend0 (c_inRange  ) hP (by repeat (first | exact lal_id _ rfl | exact LAL.nil | refine LAL.cons ?_ ?_ | exact la_id _ rfl | exact LA.lend (lend_whole rfl (by first | (simp; done) | (rw [List.length_map]; rfl))) | refine LA.agg ?_ | refine LA.fn ?_ | refine LA.lend ?_ | exact Lend.d _ | exact Lend.zs _ | exact lend_whole rfl (by first | (simp; done) | (rw [List.length_map]; rfl)) | refine Lend.ptr rfl ?_ | refine Lend.fn ?_ | exact LendL.nil | refine LendL.cons ?_ ?_)) rfl rfl ?_)
                refine ax_q (q_mov rfl) ?_
                refine ax_nil ?_
                refine cx_keep rfl rfl ?_
                refine cx_ret (ret0 rfl rfl ?_)
                exact ⟨by rw [insOK_v h1 (hz h1), if_neg h2, if_neg h3, if_neg h4, if_pos (by omega)]; rfl, rfl⟩
              · have h6 := dF h6
                refine cx_skip ?_
                refine cx_keep rfl rfl ?_
                refine cx_seq ?_
                refine cx_ops ?_
                refine ax_q (q_mov rfl) ?_
                refine ax_nil ?_
                refine cx_keep rfl rfl ?_
                refine cx_ret (ret0 rfl rfl ?_)
                exact ⟨by rw [insOK_v h1 (hz h1), if_neg h2, if_neg h3, if_neg h4, if_neg (by omega)]; rfl, rfl⟩


/- loop.example/g00332/impl.heights -/
def k_c_heights : XCode :=
  .seq (.ops [.op (some 2) (.mov (.k (.nils 1))),
     .op (some 3) (.mov (.k (.bool false)))])
  (.keep [0] (.seq (.seq (.ops [.op (some 12) (.mov (.t 0)),
      .op (some 13) (.lenS (.t 12)),
      .op (some 14) (.bin .gtr (.t 13) (.k (.int .i64 80)))])
   (.keep [0, 14] (.cond (.t 14)
    (.seq (.ops [.op (some 2) (.mov (.k (.nils 1))),
        .op (some 3) (.mov (.k (.bool false)))])
     (.keep [2, 3] (.ret)))
    (.skip))))
  (.keep [0] (.seq (.ops [.op (some 15) (.bslice 1 [.k (.int .i64 (-1))]),
     .op (some 16) (.mov (.t 0)),
     .op (some 17) (.lenS (.t 16)),
     .op (some 18) (.bin .add (.t 17) (.k (.int .i64 1))),
     .call (some 19) 73 [.t 15, .t 18],
     .op (some 4) (.mov (.t 19))])
  (.keep [0, 4] (.seq (.ops [.op (some 20) (.mov (.t 4)),
     .op (some 21) (.iadr 1 (.t 20) (.k (.int .i64 0))),
     .op none (.store 1 (.t 21) (.k (.int .i64 0)))])
  (.keep [0, 4] (.seq (.seq (.ops [.op (some 22) (.mov (.t 0)),
      .op (some 23) (.lenS (.t 22)),
      .op (some 24) (.mov (.k (.int .i64 0)))])
   (.keep [0, 4, 22, 23, 24] (.block 0 (.loop (.seq (.ops [.op (some 25) (.bin .lss (.t 24) (.t 23))])
     (.keep [0, 4, 22, 23, 24, 25] (.seq (.cond (.t 25)
       (.skip)
       (.exit 0))
     (.keep [0, 4, 22, 23, 24] (.seq (.block 1 (.seq (.ops [.op (some 26) (.mov (.t 24)),
          .op (some 27) (.iadr 5 (.t 22) (.t 24)),
          .op (some 28) (.loadN 5 (.t 27)),
          .op (some 6) (.alloc [.int .i64 0, .int .i64 0, .int .i64 0, .int .i64 0, .str []]),
          .op (some 5) (.mov (.t 26)),
          .op none (.store 5 (.t 6) (.t 28))])
       (.keep [0, 4, 5, 6, 22, 23, 24] (.seq (.seq (.ops [.op (some 29) (.mov (.t 4)),
           .op (some 30) (.mov (.t 5)),
           .op (some 31) (.iadr 1 (.t 29) (.t 30)),
           .op (some 32) (.load1 (.t 31)),
           .op (some 33) (.bin .lss (.t 32) (.k (.int .i64 0))),
           .op (some 34) (.mov (.t 33)),
           .andor 41 false 5 34 [.op (some 35) (.loadN 5 (.t 6)), .op (some 36) (.mov (.t 5)), .op (some 37) (.mov (.t 0)), .op (some 38) (.lenS (.t 37)), .call (some 39) 74 [.t 35, .t 36, .t 38], .op (some 40) (.not (.t 39))] (.t 40)])
        (.keep [0, 4, 5, 6, 22, 23, 24, 41] (.cond (.t 41)
         (.seq (.ops [.op (some 2) (.mov (.k (.nils 1))),
             .op (some 3) (.mov (.k (.bool false)))])
          (.keep [2, 3] (.ret)))
         (.skip))))
       (.keep [0, 4, 5, 6, 22, 23, 24] (.seq (.ops [.op (some 42) (.mov (.t 4)),
          .op (some 43) (.mov (.t 5)),
          .op (some 44) (.iadr 1 (.t 42) (.t 43)),
          .op (some 45) (.load1 (.t 44)),
          .op (some 7) (.mov (.t 45)),
          .op (some 8) (.mov (.k (.int .i64 1)))])
       (.keep [0, 4, 5, 6, 7, 8, 22, 23, 24] (.seq (.ops [.op (some 46) (.mov (.t 5)),
          .op (some 47) (.bin .add (.t 46) (.k (.int .i64 1))),
          .op (some 48) (.bslice 1 [.t 47]),
          .op (some 9) (.mov (.t 48))])
       (.keep [0, 4, 5, 6, 7, 8, 9, 22, 23, 24] (.seq (.seq (.ops [.op (some 49) (.fadr (.t 6) 0),
           .op (some 50) (.load1 (.t 49))])
        (.keep [0, 4, 5, 6, 7, 8, 9, 22, 23, 24, 50] (.block 2 (.seq (.seq (.ops [.op (some 52) (.bin .eql (.t 50) (.k (.int .i64 1))),
             .op (some 51) (.mov (.t 52))])
          (.keep [0, 4, 5, 6, 7, 8, 9, 22, 23, 24, 50, 51] (.cond (.t 51)
           (.skip)
           (.ops [.op (some 53) (.bin .eql (.t 50) (.k (.int .i64 2))),
              .op (some 51) (.mov (.t 53))]))))
         (.keep [0, 4, 5, 6, 7, 8, 9, 22, 23, 24, 50, 51] (.cond (.t 51)
          (.ops [.op (some 54) (.mov (.t 7)),
             .op (some 55) (.bin .add (.t 54) (.k (.int .i64 1))),
             .op (some 7) (.mov (.t 55)),
             .op (some 8) (.mov (.k (.int .i64 0)))])
          (.seq (.ops [.op (some 57) (.bin .eql (.t 50) (.k (.int .i64 4))),
              .op (some 56) (.mov (.t 57))])
           (.keep [0, 4, 5, 6, 7, 8, 9, 22, 23, 24, 50, 56] (.cond (.t 56)
            (.ops [.op (some 58) (.mov (.t 7)),
               .op (some 59) (.bin .sub (.t 58) (.k (.int .i64 1))),
               .op (some 7) (.mov (.t 59)),
               .op (some 8) (.mov (.k (.int .i64 2)))])
            (.seq (.seq (.ops [.op (some 61) (.bin .eql (.t 50) (.k (.int .i64 5))),
                 .op (some 60) (.mov (.t 61))])
              (.keep [0, 4, 5, 6, 7, 8, 9, 22, 23, 24, 50, 60] (.cond (.t 60)
               (.skip)
               (.ops [.op (some 62) (.bin .eql (.t 50) (.k (.int .i64 6))),
                  .op (some 60) (.mov (.t 62))]))))
             (.keep [0, 4, 5, 6, 7, 8, 9, 22, 23, 24, 60] (.cond (.t 60)
              (.ops [.op (some 63) (.mov (.t 9)),
                 .op (some 64) (.fadr (.t 6) 1),
                 .op (some 65) (.load1 (.t 64)),
                 .op (some 66) (.bslice 1 [.t 65]),
                 .op (some 67) (.app 1 8 [.int .i64 0] (.t 63) (.t 66)),
                 .op (some 9) (.mov (.t 67))])
              (.skip)))))))))))))
       (.keep [0, 4, 5, 7, 8, 9, 22, 23, 24] (.seq (.seq (.ops [.op (some 68) (.mov (.t 4)),
           .op (some 69) (.mov (.t 5)),
           .op (some 70) (.iadr 1 (.t 68) (.t 69)),
           .op (some 71) (.load1 (.t 70)),
           .op (some 72) (.mov (.t 8)),
           .op (some 73) (.bin .lss (.t 71) (.t 72)),
           .op (some 74) (.mov (.t 73)),
           .andor 77 false 6 74 [.op (some 75) (.mov (.t 7)), .op (some 76) (.bin .gtr (.t 75) (.k (.int .i64 60)))] (.t 76)])
        (.keep [0, 4, 7, 9, 22, 23, 24, 77] (.cond (.t 77)
         (.seq (.ops [.op (some 2) (.mov (.k (.nils 1))),
             .op (some 3) (.mov (.k (.bool false)))])
          (.keep [2, 3] (.ret)))
         (.skip))))
       (.keep [0, 4, 7, 9, 22, 23, 24] (.seq (.ops [.op (some 78) (.mov (.t 9)),
          .op (some 79) (.lenS (.t 78)),
          .op (some 80) (.mov (.k (.int .i64 0)))])
       (.keep [0, 4, 7, 22, 23, 24, 78, 79, 80] (.block 3 (.loop (.seq (.ops [.op (some 81) (.bin .lss (.t 80) (.t 79))])
         (.keep [0, 4, 7, 22, 23, 24, 78, 79, 80, 81] (.seq (.cond (.t 81)
           (.skip)
           (.exit 3))
         (.keep [0, 4, 7, 22, 23, 24, 78, 79, 80] (.seq (.block 4 (.seq (.ops [.op (some 82) (.iadr 1 (.t 78) (.t 80)),
              .op (some 83) (.load1 (.t 82)),
              .op (some 11) (.mov (.t 83))])
           (.keep [0, 4, 7, 11, 22, 23, 24, 78, 79, 80] (.seq (.seq (.ops [.op (some 84) (.mov (.t 4)),
               .op (some 85) (.mov (.t 11)),
               .op (some 86) (.iadr 1 (.t 84) (.t 85)),
               .op (some 87) (.load1 (.t 86)),
               .op (some 88) (.bin .geq (.t 87) (.k (.int .i64 0))),
               .op (some 89) (.mov (.t 88)),
               .andor 96 true 5 89 [.op (some 90) (.mov (.t 4)), .op (some 91) (.mov (.t 11)), .op (some 92) (.iadr 1 (.t 90) (.t 91)), .op (some 93) (.load1 (.t 92)), .op (some 94) (.mov (.t 7)), .op (some 95) (.bin .neq (.t 93) (.t 94))] (.t 95)])
            (.keep [0, 4, 7, 11, 22, 23, 24, 78, 79, 80, 96] (.cond (.t 96)
             (.seq (.ops [.op (some 2) (.mov (.k (.nils 1))),
                 .op (some 3) (.mov (.k (.bool false)))])
              (.keep [2, 3] (.ret)))
             (.skip))))
           (.keep [0, 4, 7, 11, 22, 23, 24, 78, 79, 80] (.ops [.op (some 97) (.mov (.t 4)),
             .op (some 98) (.mov (.t 11)),
             .op (some 99) (.mov (.t 7)),
             .op (some 100) (.iadr 1 (.t 97) (.t 98)),
             .op none (.store 1 (.t 100) (.t 99))]))))))
         (.keep [0, 4, 7, 22, 23, 24, 78, 79, 80] (.ops [.op (some 101) (.bin .add (.t 80) (.k (.int .i64 1))),
           .op (some 80) (.mov (.t 101))]))))))))))))))))))))))))
     (.keep [0, 4, 22, 23, 24] (.ops [.op (some 102) (.bin .add (.t 24) (.k (.int .i64 1))),
       .op (some 24) (.mov (.t 102))])))))))))))
  (.keep [0, 4] (.seq (.draw [.op (some 103) (.mov (.t 4)),
     .op (some 104) (.mov (.t 4)),
     .op (some 105) (.mov (.t 0)),
     .op (some 106) (.lenS (.t 105)),
     .op (some 107) (.iadr 1 (.t 104) (.t 106)),
     .op (some 108) (.load1 (.t 107)),
     .op (some 109) (.bin .eql (.t 108) (.k (.int .i64 1))),
     .op (some 2) (.mov (.t 103)),
     .op (some 3) (.mov (.t 109))])
  (.keep [2, 3] (.ret))))))))))))
theorem k_c_heights_fits : fitsF Try.prog 42 ⟨110, k_c_heights, [.t 2, .t 3]⟩ = true := by kernel_rfl
set_option maxHeartbeats 8000000 in
theorem c_heights {l : List GIns} (hw : l.length ≤ 1048576) (hv : ∀ x ∈ l, x.V.T.length ≤ 1048576) : Con Try.prog noMv 42 [.d (.sl 5 (l.map GIns.row))] [] (fun r h => ∃ ds : List Int, r = .tup [.osl 0 1 0 ds.length, bool (codeOK l)] ∧ h = [(0, .rows 1 (ds.map intRow))] ∧ (codeOK l = true → runH l l.length = some ds)) := by
  refine con_of2 k_c_heights_fits rfl fun C hP hmv => ?_
  unfold k_c_heights
  refine cx_seq ?_
  refine cx_ops ?_
  refine ax_q (q_mov rfl) ?_
  refine ax_q (q_mov rfl) ?_
  refine ax_nil ?_
  refine cx_keep rfl rfl ?_
  refine cx_seq ?_
  refine cx_seq ?_
  refine cx_ops ?_
  refine ax_q (q_mov rfl) ?_
  first | refine ax_q (q_lenS_map rfl) ?_ | refine ax_q (q_lenS_osl rfl) ?_ | refine ax_q (q_lenS_zs rfl) ?_ | refine ax_q (q_lenS rfl) ?_
  refine ax_q (q_ibin rfl rfl rfl) ?_
  refine ax_nil ?_
  refine cx_keep rfl rfl ?_
  refine cx_cond rfl (fun h0 => ?_) (fun h0 => ?_)
  · have h0 := dT h0
    refine cx_seq ?_
    refine cx_ops ?_
    refine ax_q (q_mov rfl) ?_
    refine ax_q (q_mov rfl) ?_
    refine ax_nil ?_
    refine cx_keep rfl rfl ?_
    have hc : codeOK l = false := codeOK_0 (by omega)
    refine cx_wk (wk_virt 901 1 rfl rfl rfl) ?_
    refine cx_wk (wk_zs 2 901 [] rfl rfl) ?_
    refine cx_ret (retN (fun _ => 0) [901] rfl rfl rfl rfl rfl ?_)
    exact ⟨[], by rw [hc]; rfl, rfl, fun h => by rw [hc] at h; cases h⟩
  · have h0 := dF h0
    have h0 : l.length ≤ 80 := by omega
    refine cx_skip ?_
    refine cx_keep rfl rfl ?_
    refine cx_seq ?_
    refine cx_ops ?_
    refine ax_e (e_bslice rfl (by decide) rfl rfl) ?_
    refine ax_q (q_mov rfl) ?_
    first | refine ax_q (q_lenS_map rfl) ?_ | refine ax_q (q_lenS_osl rfl) ?_ | refine ax_q (q_lenS_zs rfl) ?_ | refine ax_q (q_lenS rfl) ?_
    refine ax_qe (r' := int ((l.length + 1 : Nat) : Int)) (q_ibin rfl rfl rfl) (by rw [wi (by omega) (by omega)]; rfl) ?_
    first | refine ax_call rfl (vc_pure (c_Repeat (q := -1) (m := l.length + 1) ?_) hP rfl ?_) | refine ax_call rfl (vc_lend (c_Repeat (q := -1) (m := l.length + 1) ?_) hP (by repeat (first | exact lal_id _ rfl | exact LAL.nil | refine LAL.cons ?_ ?_ | exact la_id _ rfl | exact LA.lend (lend_whole rfl (by first | (simp; done) | (rw [List.length_map]; rfl))) | refine LA.agg ?_ | refine LA.fn ?_ | refine LA.lend ?_ | exact Lend.d _ | exact Lend.zs _ | exact lend_whole rfl (by first | (simp; done) | (rw [List.length_map]; rfl)) | refine Lend.ptr rfl ?_ | refine Lend.fn ?_ | exact LendL.nil | refine LendL.cons ?_ ?_)) ?_)
    · first | assumption | omega | (simp; done) | (simp; omega)
    rintro r h ⟨rfl, rfl⟩
    refine ⟨fun i => 19 + 200 * i, [0], ⟨rfl, rfl, rfl, rfl, rfl, (by first | exact (fun h => absurd h Bool.false_ne_true) | exact (fun _ => ⟨rfl, (noisl_of ⟨noisl_rep, trivial⟩)⟩))⟩, ?_⟩
    skip
    refine ax_q (q_mov rfl) ?_
    refine ax_nil ?_
    refine cx_keep rfl rfl ?_
    refine cx_seq ?_
    refine cx_ops ?_
    refine ax_q (q_mov rfl) ?_
    refine ax_q (q_ixoI rfl rfl (by omega) (by omega)) ?_
    refine ax_e (e_str (q := intRow 0) (row := intRow (-1)) (rs' := (0 :: List.replicate l.length (-1)).map intRow) rfl rfl rfl rfl rfl rfl (rep_get (by omega)) rfl rfl (rep_set rfl)) ?_
    refine ax_nil ?_
    refine cx_keep rfl rfl ?_
    refine cx_seq ?_
    refine cx_seq ?_
    refine cx_ops ?_
    refine ax_q (q_mov rfl) ?_
    first | refine ax_q (q_lenS_map rfl) ?_ | refine ax_q (q_lenS_osl rfl) ?_ | refine ax_q (q_lenS_zs rfl) ?_ | refine ax_q (q_lenS rfl) ?_
    refine ax_q (q_mov rfl) ?_
    refine ax_nil ?_
    refine cx_keep rfl rfl ?_
    refine cx_block ?_
    refine cx_loopU (fun n (p : Nat × List Int) => p.1 ≤ l.length ∧ n = l.length - p.1 ∧ runH l p.1 = some p.2) (fun p => [(24, int p.1)]) (fun p => [(19, .rows 1 (p.2.map intRow))]) ⟨_, (0, _), ⟨Nat.zero_le _, rfl, rfl⟩, by repeat (first | exact trivial | refine ⟨rfl, ?_⟩ | refine ⟨?_, ?_⟩)⟩ ?_
    rintro n ⟨k, ds⟩ ⟨hk, rfl, hr⟩
    simp only at hk hr ⊢
    have hdl := runH_len hr
    have hg := runH_good hk hr
    refine cx_seq ?_
    refine cx_ops ?_
    refine ax_q (q_ibin rfl rfl rfl) ?_
    refine ax_nil ?_
    refine cx_keep rfl rfl ?_
    refine cx_seq ?_
    refine cx_cond rfl (fun h1 => ?_) (fun h1 => ?_)
    · have h1 := dT h1
      have h1x : k < l.length := by omega
      have hxv := hv _ (List.getElem_mem h1x)
      have hd := dB hg (k := k) (by omega)
      refine cx_skip ?_
      refine cx_keep rfl rfl ?_
      refine cx_seq ?_
      refine cx_block ?_
      refine cx_seq ?_
      refine cx_ops ?_
      refine ax_q (q_mov rfl) ?_
      first | refine ax_q (q_ix rfl rfl (by assumption)) ?_ | refine ax_q (q_ix rfl rfl (mapAt (by first | assumption | omega))) ?_ | refine ax_q (q_ixo rfl rfl (by first | assumption | omega)) ?_ | refine ax_q (q_ixI rfl rfl (by omega) (mapAt (by first | assumption | omega))) ?_ | refine ax_q (q_ixoI rfl rfl (by omega) (by omega)) ?_
      first | refine ax_q (q_ldN rfl rfl rfl) ?_ | refine ax_q (q_loadN_ip rfl (Nat.le_refl _)) ?_ | refine ax_q (q_loadN_ip rfl (by decide)) ?_ | refine ax_q (q_loadN_rptr rfl rfl (by assumption) (by decide)) ?_ | refine ax_q (q_loadN_rptr rfl rfl (mapAt (by first | assumption | omega)) (by decide)) ?_
      refine ax_e (e_alloc (by decide) rfl rfl) ?_
      refine ax_q (q_mov rfl) ?_
      refine ax_e (e_st rfl rfl rfl rfl rfl rfl rfl) ?_
      refine ax_nil ?_
      refine cx_keep rfl rfl ?_
      refine cx_seq ?_
      refine cx_seq ?_
      refine cx_ops ?_
      refine ax_q (q_mov rfl) ?_
      refine ax_q (q_mov rfl) ?_
      refine ax_q (q_ixo rfl rfl (by omega)) ?_
      refine ax_q (q_load1_rptr (r := intRow (ds.getD k 0)) rfl rfl (dAt (by omega)) rfl) ?_
      refine ax_q (q_ibin rfl rfl rfl) ?_
      refine ax_q (q_mov rfl) ?_
      apply ax_or rfl rfl
      · intro g
        have g := dF g
        first | refine ax_q (q_ldN rfl rfl rfl) ?_ | refine ax_q (q_loadN_ip rfl (Nat.le_refl _)) ?_ | refine ax_q (q_loadN_ip rfl (by decide)) ?_ | refine ax_q (q_loadN_rptr rfl rfl (by assumption) (by decide)) ?_ | refine ax_q (q_loadN_rptr rfl rfl (mapAt (by first | assumption | omega)) (by decide)) ?_
        refine ax_q (q_mov rfl) ?_
        refine ax_q (q_mov rfl) ?_
        first | refine ax_q (q_lenS_map rfl) ?_ | refine ax_q (q_lenS_osl rfl) ?_ | refine ax_q (q_lenS_zs rfl) ?_ | refine ax_q (q_lenS rfl) ?_
        first | refine ax_call rfl (vc_pure0 (c_insOK (x := l[k]) (i := k) ?_ ?_) hP rfl rfl ?_) | refine ax_call rfl (vc_lend0 (c_insOK (x := l[k]) (i := k) ?_ ?_) hP (by repeat (first | exact lal_id _ rfl | exact LAL.nil | refine LAL.cons ?_ ?_ | exact la_id _ rfl | exact LA.lend (lend_whole rfl (by first | (simp; done) | (rw [List.length_map]; rfl))) | refine LA.agg ?_ | refine LA.fn ?_ | refine LA.lend ?_ | exact Lend.d _ | exact Lend.zs _ | exact lend_whole rfl (by first | (simp; done) | (rw [List.length_map]; rfl)) | refine Lend.ptr rfl ?_ | refine Lend.fn ?_ | exact LendL.nil | refine LendL.cons ?_ ?_)) rfl rfl ?_)
        · first | assumption | omega | (simp; done) | (simp; omega)
        · first | assumption | omega | (simp; done) | (simp; omega)
        refine ax_q (q_not rfl) ?_
        exact ax_nil ⟨rfl, by repeat (first | exact trivial | refine ⟨rfl, ?_⟩ | refine ⟨?_, ?_⟩)⟩
      refine ax_nil ?_
      refine cx_keep rfl rfl ?_
      refine cx_cond rfl (fun h2 => ?_) (fun h2 => ?_)
      · have h2 := (fun h => (or_T h).imp dT bT) h2
        refine cx_seq ?_
        refine cx_ops ?_
        refine ax_q (q_mov rfl) ?_
        refine ax_q (q_mov rfl) ?_
        refine ax_nil ?_
        refine cx_keep rfl rfl ?_
        have hc : codeOK l = false := codeOK_no h0 hr h1x (h2.elim (fun h => stepK_1 h) (fun h => stepK_2 h))
        refine cx_wk (wk_virt 901 1 rfl rfl rfl) ?_
        refine cx_wk (wk_zs 2 901 [] rfl rfl) ?_
        refine cx_ret (retN (fun _ => 0) [901] rfl rfl rfl rfl rfl ?_)
        exact ⟨[], by rw [hc]; rfl, rfl, fun h => by rw [hc] at h; cases h⟩
      · have h2 := (fun h => And.intro (dF (or_F h).1) (bF (or_F h).2)) h2
        refine cx_skip ?_
        refine cx_keep rfl rfl ?_
        refine cx_seq ?_
        refine cx_ops ?_
        refine ax_q (q_mov rfl) ?_
        refine ax_q (q_mov rfl) ?_
        refine ax_q (q_ixo rfl rfl (by omega)) ?_
        refine ax_q (q_load1_rptr (r := intRow (ds.getD k 0)) rfl rfl (dAt (by omega)) rfl) ?_
        refine ax_q (q_mov rfl) ?_
        refine ax_q (q_mov rfl) ?_
        refine ax_nil ?_
        refine cx_keep rfl rfl ?_
        refine cx_seq ?_
        refine cx_ops ?_
        refine ax_q (q_mov rfl) ?_
        refine ax_q (q_add rfl rfl (by omega)) ?_
        refine ax_e (e_bslice rfl (by decide) rfl rfl) ?_
        refine ax_q (q_mov rfl) ?_
        refine ax_nil ?_
        refine cx_keep rfl rfl ?_
        refine cx_seq ?_
        refine cx_seq ?_
        refine cx_ops ?_
        first | refine ax_q (q_fadr_ptr rfl) ?_ | refine ax_q (q_fadr_rptr rfl) ?_ | refine ax_q (q_fadr_ip rfl) ?_
        first | refine ax_q (q_load1_ptr rfl rfl rfl) ?_ | refine ax_q (q_load1_ip rfl) ?_ | refine ax_q (q_load1_rptr rfl rfl rfl rfl) ?_ | refine ax_q (q_load1_rptr rfl rfl (by assumption) rfl) ?_ | refine ax_q (q_load1_rptr rfl rfl (mapAt (by first | assumption | omega)) rfl) ?_
        refine ax_nil ?_
        refine cx_keep rfl rfl ?_
        refine cx_block ?_
        refine cx_seq ?_
        refine cx_seq ?_
        refine cx_ops ?_
        refine ax_q (q_ibin rfl rfl rfl) ?_
        refine ax_q (q_mov rfl) ?_
        refine ax_nil ?_
        refine cx_keep rfl rfl ?_
        refine cx_cond rfl (fun h3 => ?_) (fun h3 => ?_)
        · have h3 := dT h3
          refine cx_skip ?_
          refine cx_keep rfl rfl ?_
          refine cx_cond rfl (fun h4 => ?_) (fun h4 => ?_)
          · have h4 := dT h4
            have hb : behI l[k] (ds.getD k 0) = (ds.getD k 0) + 1 := by unfold behI; rw [if_pos (by omega)]
            have hlw : lowI l[k] = 0 := by unfold lowI; rw [if_pos (by omega)]
            have ht : tosI l[k] (k : Int) = [(k : Int) + 1] := by unfold tosI; rw [if_neg (by omega)]
            have htl : (tosI l[k] (k : Int)).length = 1 := by rw [ht]; rfl
            refine cx_ops ?_
            refine ax_q (q_mov rfl) ?_
            refine ax_q (q_add rfl rfl (by omega)) ?_
            refine ax_q (q_mov rfl) ?_
            refine ax_q (q_mov rfl) ?_
            refine ax_nil ?_
            refine cx_keep rfl rfl ?_
            refine cx_seq ?_
            refine cx_seq ?_
            refine cx_ops ?_
            refine ax_q (q_mov rfl) ?_
            refine ax_q (q_mov rfl) ?_
            refine ax_q (q_ixo rfl rfl (by omega)) ?_
            refine ax_q (q_load1_rptr (r := intRow (ds.getD k 0)) rfl rfl (dAt (by omega)) rfl) ?_
            refine ax_q (q_mov rfl) ?_
            refine ax_q (q_ibin rfl rfl rfl) ?_
            refine ax_q (q_mov rfl) ?_
            apply ax_or rfl rfl
            · intro g
              have g := dF g
              refine ax_q (q_mov rfl) ?_
              refine ax_q (q_ibin rfl rfl rfl) ?_
              exact ax_nil ⟨rfl, by repeat (first | exact trivial | refine ⟨rfl, ?_⟩ | refine ⟨?_, ?_⟩)⟩
            refine ax_nil ?_
            refine cx_keep rfl rfl ?_
            refine cx_cond rfl (fun h8 => ?_) (fun h8 => ?_)
            · have h8 := (fun h => (or_T h).imp dT dT) h8
              refine cx_seq ?_
              refine cx_ops ?_
              refine ax_q (q_mov rfl) ?_
              refine ax_q (q_mov rfl) ?_
              refine ax_nil ?_
              refine cx_keep rfl rfl ?_
              have hc : codeOK l = false := codeOK_no h0 hr h1x (stepK_3 (by rw [hlw, hb]; exact h8))
              refine cx_wk (wk_virt 901 1 rfl rfl rfl) ?_
              refine cx_wk (wk_zs 2 901 [] rfl rfl) ?_
              refine cx_ret (retN (fun _ => 0) [901] rfl rfl rfl rfl rfl ?_)
              exact ⟨[], by rw [hc]; rfl, rfl, fun h => by rw [hc] at h; cases h⟩
            · have h8 := (fun h => And.intro (dF (or_F h).1) (dF (or_F h).2)) h8
              have hst := stepK_4 (x := l[k]) (ds := ds) (n := (l.length : Int)) h2.1 h2.2 (by rw [hlw]; exact h8.1) (by rw [hb]; exact h8.2)
              have htb := tosI_b (x := l[k]) (i := (k : Int)) (n := (l.length : Int)) (by omega) (by omega) h2.2
              refine cx_skip ?_
              refine cx_keep rfl rfl ?_
              refine cx_seq ?_
              refine cx_ops ?_
              refine ax_q (q_mov rfl) ?_
              first | refine ax_q (q_lenS_map rfl) ?_ | refine ax_q (q_lenS_osl rfl) ?_ | refine ax_q (q_lenS_zs rfl) ?_ | refine ax_q (q_lenS rfl) ?_
              refine ax_q (q_mov rfl) ?_
              refine ax_nil ?_
              refine cx_keep rfl rfl ?_
              refine cx_block ?_
              refine cx_loopU (fun n (p : Nat × List Int) => p.1 ≤ (tosI l[k] (k : Int)).length ∧ n = (tosI l[k] (k : Int)).length - p.1 ∧ p.2.length = l.length + 1 ∧ putL (behI l[k] (ds.getD k 0)) ds ((tosI l[k] (k : Int)).take p.1) = some p.2) (fun p => [(80, int p.1)]) (fun p => [(19, .rows 1 (p.2.map intRow)), (48, .rows 1 (([(k : Int) + 1] : List Int).map intRow))]) ⟨_, (0, ds), ⟨Nat.zero_le _, rfl, hdl, rfl⟩, by repeat (first | exact trivial | refine ⟨rfl, ?_⟩ | refine ⟨?_, ?_⟩)⟩ ?_
              rintro n ⟨j, p⟩ ⟨hj, rfl, hpl, hp⟩
              simp only at hj hpl hp ⊢
              refine cx_seq ?_
              refine cx_ops ?_
              refine ax_q (q_ibin rfl rfl rfl) ?_
              refine ax_nil ?_
              refine cx_keep rfl rfl ?_
              refine cx_seq ?_
              refine cx_cond rfl (fun h9 => ?_) (fun h9 => ?_)
              · have h9 := dT h9
                try simp only [List.length_cons, List.length_nil] at h9
                have h9x : j < (tosI l[k] (k : Int)).length := by omega
                have htj := htb _ (List.getElem_mem h9x)
                have hte : ([(k : Int) + 1] : List Int)[j]? = some (tosI l[k] (k : Int))[j] := by rw [← List.getElem?_eq_getElem h9x, ht]
                refine cx_skip ?_
                refine cx_keep rfl rfl ?_
                refine cx_seq ?_
                refine cx_block ?_
                refine cx_seq ?_
                refine cx_ops ?_
                refine ax_q (q_ixo rfl rfl (by first | omega | (simp only [List.length_cons, List.length_nil]; omega))) ?_
                refine ax_q (q_load1_rptr (r := intRow ((tosI l[k] (k : Int))[j])) rfl rfl (tosAt hte) rfl) ?_
                refine ax_q (q_mov rfl) ?_
                refine ax_nil ?_
                refine cx_keep rfl rfl ?_
                refine cx_seq ?_
                refine cx_seq ?_
                refine cx_ops ?_
                refine ax_q (q_mov rfl) ?_
                refine ax_q (q_mov rfl) ?_
                refine ax_q (q_ixoI rfl rfl (by omega) (by omega)) ?_
                refine ax_q (q_load1_rptr (r := intRow (p.getD (tosI l[k] (k : Int))[j].toNat 0)) rfl rfl (dAt (by omega)) rfl) ?_
                refine ax_q (q_ibin rfl rfl rfl) ?_
                refine ax_q (q_mov rfl) ?_
                apply ax_and rfl rfl
                · intro g
                  have g := dT g
                  refine ax_q (q_mov rfl) ?_
                  refine ax_q (q_mov rfl) ?_
                  refine ax_q (q_ixoI rfl rfl (by omega) (by omega)) ?_
                  refine ax_q (q_load1_rptr (r := intRow (p.getD (tosI l[k] (k : Int))[j].toNat 0)) rfl rfl (dAt (by omega)) rfl) ?_
                  refine ax_q (q_mov rfl) ?_
                  refine ax_q (q_ibin rfl rfl rfl) ?_
                  exact ax_nil ⟨rfl, by repeat (first | exact trivial | refine ⟨rfl, ?_⟩ | refine ⟨?_, ?_⟩)⟩
                refine ax_nil ?_
                refine cx_keep rfl rfl ?_
                refine cx_cond rfl (fun h10 => ?_) (fun h10 => ?_)
                · have h10 := (fun h => And.intro (dT (and_T h).1) (nT (and_T h).2)) h10
                  refine cx_seq ?_
                  refine cx_ops ?_
                  refine ax_q (q_mov rfl) ?_
                  refine ax_q (q_mov rfl) ?_
                  refine ax_nil ?_
                  refine cx_keep rfl rfl ?_
                  have hc : codeOK l = false := codeOK_no h0 hr h1x (hst.trans (putL_none (j := j + 1) (by rw [putL_step h9x hp]; exact put1_no (by rw [hb]; exact h10))))
                  refine cx_wk (wk_virt 901 1 rfl rfl rfl) ?_
                  refine cx_wk (wk_zs 2 901 [] rfl rfl) ?_
                  refine cx_ret (retN (fun _ => 0) [901] rfl rfl rfl rfl rfl ?_)
                  exact ⟨[], by rw [hc]; rfl, rfl, fun h => by rw [hc] at h; cases h⟩
                · have h10 := (fun h => (and_F h).imp dF nF) h10
                  refine cx_skip ?_
                  refine cx_keep rfl rfl ?_
                  refine cx_ops ?_
                  refine ax_q (q_mov rfl) ?_
                  refine ax_q (q_mov rfl) ?_
                  refine ax_q (q_mov rfl) ?_
                  refine ax_q (q_ixoI rfl rfl (by omega) (by omega)) ?_
                  refine ax_e (e_str (q := intRow _) (row := intRow _) (rs' := (p.set (tosI l[k] (k : Int))[j].toNat _).map intRow) rfl rfl rfl rfl rfl rfl (dAt (by omega)) rfl rfl setI) ?_
                  refine ax_nil ?_
                  refine cx_keep rfl rfl ?_
                  refine cx_ops ?_
                  refine ax_qe (r' := int ((j + 1 : Nat) : Int)) (q_ibin rfl rfl rfl) (by rw [wi (by omega) (by omega)]; rfl) ?_
                  refine ax_q (q_mov rfl) ?_
                  refine ax_nil ?_
                  exact ⟨_, (j + 1, p.set (tosI l[k] (k : Int))[j].toNat ((ds.getD k 0) + 1)), by simp only; omega, ⟨by simp only; omega, rfl, by simp only [List.length_set]; exact hpl, by simp only; rw [putL_step h9x hp, hb]; exact put1_ok h10⟩, by repeat (first | exact trivial | refine ⟨rfl, ?_⟩ | refine ⟨?_, ?_⟩)⟩
              · have h9 := dF h9
                try simp only [List.length_cons, List.length_nil] at h9
                have h9x : j = (tosI l[k] (k : Int)).length := by omega
                refine cx_exit rfl ?_
                refine cx_keep rfl rfl ?_
                refine cx_ops ?_
                refine ax_qe (r' := int ((k + 1 : Nat) : Int)) (q_ibin rfl rfl rfl) (by rw [wi (by omega) (by omega)]; rfl) ?_
                refine ax_q (q_mov rfl) ?_
                refine ax_nil ?_
                exact ⟨_, (k + 1, p), by simp only; omega, ⟨by simp only; omega, rfl, by simp only; rw [runH_next hr h1x]; exact hst.trans (by have hq := hp; rw [h9x, List.take_length] at hq; exact hq)⟩, by repeat (first | exact trivial | refine ⟨rfl, ?_⟩ | refine ⟨?_, ?_⟩)⟩
          · have h4 := dF h4
            exfalso; omega
        · have h3 := dF h3
          refine cx_ops ?_
          refine ax_q (q_ibin rfl rfl rfl) ?_
          refine ax_q (q_mov rfl) ?_
          refine ax_nil ?_
          refine cx_keep rfl rfl ?_
          refine cx_cond rfl (fun h4 => ?_) (fun h4 => ?_)
          · have h4 := dT h4
            have hb : behI l[k] (ds.getD k 0) = (ds.getD k 0) + 1 := by unfold behI; rw [if_pos (by omega)]
            have hlw : lowI l[k] = 0 := by unfold lowI; rw [if_pos (by omega)]
            have ht : tosI l[k] (k : Int) = [(k : Int) + 1] := by unfold tosI; rw [if_neg (by omega)]
            have htl : (tosI l[k] (k : Int)).length = 1 := by rw [ht]; rfl
            refine cx_ops ?_
            refine ax_q (q_mov rfl) ?_
            refine ax_q (q_add rfl rfl (by omega)) ?_
            refine ax_q (q_mov rfl) ?_
            refine ax_q (q_mov rfl) ?_
            refine ax_nil ?_
            refine cx_keep rfl rfl ?_
            refine cx_seq ?_
            refine cx_seq ?_
            refine cx_ops ?_
            refine ax_q (q_mov rfl) ?_
            refine ax_q (q_mov rfl) ?_
            refine ax_q (q_ixo rfl rfl (by omega)) ?_
            refine ax_q (q_load1_rptr (r := intRow (ds.getD k 0)) rfl rfl (dAt (by omega)) rfl) ?_
            refine ax_q (q_mov rfl) ?_
            refine ax_q (q_ibin rfl rfl rfl) ?_
            refine ax_q (q_mov rfl) ?_
            apply ax_or rfl rfl
            · intro g
              have g := dF g
              refine ax_q (q_mov rfl) ?_
              refine ax_q (q_ibin rfl rfl rfl) ?_
              exact ax_nil ⟨rfl, by repeat (first | exact trivial | refine ⟨rfl, ?_⟩ | refine ⟨?_, ?_⟩)⟩
            refine ax_nil ?_
            refine cx_keep rfl rfl ?_
            refine cx_cond rfl (fun h8 => ?_) (fun h8 => ?_)
            · have h8 := (fun h => (or_T h).imp dT dT) h8
              refine cx_seq ?_
              refine cx_ops ?_
              refine ax_q (q_mov rfl) ?_
              refine ax_q (q_mov rfl) ?_
              refine ax_nil ?_
              refine cx_keep rfl rfl ?_
              have hc : codeOK l = false := codeOK_no h0 hr h1x (stepK_3 (by rw [hlw, hb]; exact h8))
              refine cx_wk (wk_virt 901 1 rfl rfl rfl) ?_
              refine cx_wk (wk_zs 2 901 [] rfl rfl) ?_
              refine cx_ret (retN (fun _ => 0) [901] rfl rfl rfl rfl rfl ?_)
              exact ⟨[], by rw [hc]; rfl, rfl, fun h => by rw [hc] at h; cases h⟩
            · have h8 := (fun h => And.intro (dF (or_F h).1) (dF (or_F h).2)) h8
              have hst := stepK_4 (x := l[k]) (ds := ds) (n := (l.length : Int)) h2.1 h2.2 (by rw [hlw]; exact h8.1) (by rw [hb]; exact h8.2)
              have htb := tosI_b (x := l[k]) (i := (k : Int)) (n := (l.length : Int)) (by omega) (by omega) h2.2
              refine cx_skip ?_
              refine cx_keep rfl rfl ?_
              refine cx_seq ?_
              refine cx_ops ?_
              refine ax_q (q_mov rfl) ?_
              first | refine ax_q (q_lenS_map rfl) ?_ | refine ax_q (q_lenS_osl rfl) ?_ | refine ax_q (q_lenS_zs rfl) ?_ | refine ax_q (q_lenS rfl) ?_
              refine ax_q (q_mov rfl) ?_
              refine ax_nil ?_
              refine cx_keep rfl rfl ?_
              refine cx_block ?_
              refine cx_loopU (fun n (p : Nat × List Int) => p.1 ≤ (tosI l[k] (k : Int)).length ∧ n = (tosI l[k] (k : Int)).length - p.1 ∧ p.2.length = l.length + 1 ∧ putL (behI l[k] (ds.getD k 0)) ds ((tosI l[k] (k : Int)).take p.1) = some p.2) (fun p => [(80, int p.1)]) (fun p => [(19, .rows 1 (p.2.map intRow)), (48, .rows 1 (([(k : Int) + 1] : List Int).map intRow))]) ⟨_, (0, ds), ⟨Nat.zero_le _, rfl, hdl, rfl⟩, by repeat (first | exact trivial | refine ⟨rfl, ?_⟩ | refine ⟨?_, ?_⟩)⟩ ?_
              rintro n ⟨j, p⟩ ⟨hj, rfl, hpl, hp⟩
              simp only at hj hpl hp ⊢
              refine cx_seq ?_
              refine cx_ops ?_
              refine ax_q (q_ibin rfl rfl rfl) ?_
              refine ax_nil ?_
              refine cx_keep rfl rfl ?_
              refine cx_seq ?_
              refine cx_cond rfl (fun h9 => ?_) (fun h9 => ?_)
              · have h9 := dT h9
                try simp only [List.length_cons, List.length_nil] at h9
                have h9x : j < (tosI l[k] (k : Int)).length := by omega
                have htj := htb _ (List.getElem_mem h9x)
                have hte : ([(k : Int) + 1] : List Int)[j]? = some (tosI l[k] (k : Int))[j] := by rw [← List.getElem?_eq_getElem h9x, ht]
                refine cx_skip ?_
                refine cx_keep rfl rfl ?_
                refine cx_seq ?_
                refine cx_block ?_
                refine cx_seq ?_
                refine cx_ops ?_
                refine ax_q (q_ixo rfl rfl (by first | omega | (simp only [List.length_cons, List.length_nil]; omega))) ?_
                refine ax_q (q_load1_rptr (r := intRow ((tosI l[k] (k : Int))[j])) rfl rfl (tosAt hte) rfl) ?_
                refine ax_q (q_mov rfl) ?_
                refine ax_nil ?_
                refine cx_keep rfl rfl ?_
                refine cx_seq ?_
                refine cx_seq ?_
                refine cx_ops ?_
                refine ax_q (q_mov rfl) ?_
                refine ax_q (q_mov rfl) ?_
                refine ax_q (q_ixoI rfl rfl (by omega) (by omega)) ?_
                refine ax_q (q_load1_rptr (r := intRow (p.getD (tosI l[k] (k : Int))[j].toNat 0)) rfl rfl (dAt (by omega)) rfl) ?_
                refine ax_q (q_ibin rfl rfl rfl) ?_
                refine ax_q (q_mov rfl) ?_
                apply ax_and rfl rfl
                · intro g
                  have g := dT g
                  refine ax_q (q_mov rfl) ?_
                  refine ax_q (q_mov rfl) ?_
                  refine ax_q (q_ixoI rfl rfl (by omega) (by omega)) ?_
                  refine ax_q (q_load1_rptr (r := intRow (p.getD (tosI l[k] (k : Int))[j].toNat 0)) rfl rfl (dAt (by omega)) rfl) ?_
                  refine ax_q (q_mov rfl) ?_
                  refine ax_q (q_ibin rfl rfl rfl) ?_
                  exact ax_nil ⟨rfl, by repeat (first | exact trivial | refine ⟨rfl, ?_⟩ | refine ⟨?_, ?_⟩)⟩
                refine ax_nil ?_
                refine cx_keep rfl rfl ?_
                refine cx_cond rfl (fun h10 => ?_) (fun h10 => ?_)
                · have h10 := (fun h => And.intro (dT (and_T h).1) (nT (and_T h).2)) h10
                  refine cx_seq ?_
                  refine cx_ops ?_
                  refine ax_q (q_mov rfl) ?_
                  refine ax_q (q_mov rfl) ?_
                  refine ax_nil ?_
                  refine cx_keep rfl rfl ?_
                  have hc : codeOK l = false := codeOK_no h0 hr h1x (hst.trans (putL_none (j := j + 1) (by rw [putL_step h9x hp]; exact put1_no (by rw [hb]; exact h10))))
                  refine cx_wk (wk_virt 901 1 rfl rfl rfl) ?_
                  refine cx_wk (wk_zs 2 901 [] rfl rfl) ?_
                  refine cx_ret (retN (fun _ => 0) [901] rfl rfl rfl rfl rfl ?_)
                  exact ⟨[], by rw [hc]; rfl, rfl, fun h => by rw [hc] at h; cases h⟩
                · have h10 := (fun h => (and_F h).imp dF nF) h10
                  refine cx_skip ?_
                  refine cx_keep rfl rfl ?_
                  refine cx_ops ?_
                  refine ax_q (q_mov rfl) ?_
                  refine ax_q (q_mov rfl) ?_
                  refine ax_q (q_mov rfl) ?_
                  refine ax_q (q_ixoI rfl rfl (by omega) (by omega)) ?_
                  refine ax_e (e_str (q := intRow _) (row := intRow _) (rs' := (p.set (tosI l[k] (k : Int))[j].toNat _).map intRow) rfl rfl rfl rfl rfl rfl (dAt (by omega)) rfl rfl setI) ?_
                  refine ax_nil ?_
                  refine cx_keep rfl rfl ?_
                  refine cx_ops ?_
                  refine ax_qe (r' := int ((j + 1 : Nat) : Int)) (q_ibin rfl rfl rfl) (by rw [wi (by omega) (by omega)]; rfl) ?_
                  refine ax_q (q_mov rfl) ?_
                  refine ax_nil ?_
                  exact ⟨_, (j + 1, p.set (tosI l[k] (k : Int))[j].toNat ((ds.getD k 0) + 1)), by simp only; omega, ⟨by simp only; omega, rfl, by simp only [List.length_set]; exact hpl, by simp only; rw [putL_step h9x hp, hb]; exact put1_ok h10⟩, by repeat (first | exact trivial | refine ⟨rfl, ?_⟩ | refine ⟨?_, ?_⟩)⟩
              · have h9 := dF h9
                try simp only [List.length_cons, List.length_nil] at h9
                have h9x : j = (tosI l[k] (k : Int)).length := by omega
                refine cx_exit rfl ?_
                refine cx_keep rfl rfl ?_
                refine cx_ops ?_
                refine ax_qe (r' := int ((k + 1 : Nat) : Int)) (q_ibin rfl rfl rfl) (by rw [wi (by omega) (by omega)]; rfl) ?_
                refine ax_q (q_mov rfl) ?_
                refine ax_nil ?_
                exact ⟨_, (k + 1, p), by simp only; omega, ⟨by simp only; omega, rfl, by simp only; rw [runH_next hr h1x]; exact hst.trans (by have hq := hp; rw [h9x, List.take_length] at hq; exact hq)⟩, by repeat (first | exact trivial | refine ⟨rfl, ?_⟩ | refine ⟨?_, ?_⟩)⟩
          · have h4 := dF h4
            refine cx_seq ?_
            refine cx_ops ?_
            refine ax_q (q_ibin rfl rfl rfl) ?_
            refine ax_q (q_mov rfl) ?_
            refine ax_nil ?_
            refine cx_keep rfl rfl ?_
            refine cx_cond rfl (fun h5 => ?_) (fun h5 => ?_)
            · have h5 := dT h5
              have hb : behI l[k] (ds.getD k 0) = (ds.getD k 0) - 1 := by unfold behI; rw [if_neg (by omega), if_pos (by omega)]
              have hlw : lowI l[k] = 2 := by unfold lowI; rw [if_neg (by omega), if_pos (by omega)]
              have ht : tosI l[k] (k : Int) = [(k : Int) + 1] := by unfold tosI; rw [if_neg (by omega)]
              have htl : (tosI l[k] (k : Int)).length = 1 := by rw [ht]; rfl
              refine cx_ops ?_
              refine ax_q (q_mov rfl) ?_
              refine ax_q (q_sub rfl rfl (by omega)) ?_
              refine ax_q (q_mov rfl) ?_
              refine ax_q (q_mov rfl) ?_
              refine ax_nil ?_
              refine cx_keep rfl rfl ?_
              refine cx_seq ?_
              refine cx_seq ?_
              refine cx_ops ?_
              refine ax_q (q_mov rfl) ?_
              refine ax_q (q_mov rfl) ?_
              refine ax_q (q_ixo rfl rfl (by omega)) ?_
              refine ax_q (q_load1_rptr (r := intRow (ds.getD k 0)) rfl rfl (dAt (by omega)) rfl) ?_
              refine ax_q (q_mov rfl) ?_
              refine ax_q (q_ibin rfl rfl rfl) ?_
              refine ax_q (q_mov rfl) ?_
              apply ax_or rfl rfl
              · intro g
                have g := dF g
                refine ax_q (q_mov rfl) ?_
                refine ax_q (q_ibin rfl rfl rfl) ?_
                exact ax_nil ⟨rfl, by repeat (first | exact trivial | refine ⟨rfl, ?_⟩ | refine ⟨?_, ?_⟩)⟩
              refine ax_nil ?_
              refine cx_keep rfl rfl ?_
              refine cx_cond rfl (fun h8 => ?_) (fun h8 => ?_)
              · have h8 := (fun h => (or_T h).imp dT dT) h8
                refine cx_seq ?_
                refine cx_ops ?_
                refine ax_q (q_mov rfl) ?_
                refine ax_q (q_mov rfl) ?_
                refine ax_nil ?_
                refine cx_keep rfl rfl ?_
                have hc : codeOK l = false := codeOK_no h0 hr h1x (stepK_3 (by rw [hlw, hb]; exact h8))
                refine cx_wk (wk_virt 901 1 rfl rfl rfl) ?_
                refine cx_wk (wk_zs 2 901 [] rfl rfl) ?_
                refine cx_ret (retN (fun _ => 0) [901] rfl rfl rfl rfl rfl ?_)
                exact ⟨[], by rw [hc]; rfl, rfl, fun h => by rw [hc] at h; cases h⟩
              · have h8 := (fun h => And.intro (dF (or_F h).1) (dF (or_F h).2)) h8
                have hst := stepK_4 (x := l[k]) (ds := ds) (n := (l.length : Int)) h2.1 h2.2 (by rw [hlw]; exact h8.1) (by rw [hb]; exact h8.2)
                have htb := tosI_b (x := l[k]) (i := (k : Int)) (n := (l.length : Int)) (by omega) (by omega) h2.2
                refine cx_skip ?_
                refine cx_keep rfl rfl ?_
                refine cx_seq ?_
                refine cx_ops ?_
                refine ax_q (q_mov rfl) ?_
                first | refine ax_q (q_lenS_map rfl) ?_ | refine ax_q (q_lenS_osl rfl) ?_ | refine ax_q (q_lenS_zs rfl) ?_ | refine ax_q (q_lenS rfl) ?_
                refine ax_q (q_mov rfl) ?_
                refine ax_nil ?_
                refine cx_keep rfl rfl ?_
                refine cx_block ?_
                refine cx_loopU (fun n (p : Nat × List Int) => p.1 ≤ (tosI l[k] (k : Int)).length ∧ n = (tosI l[k] (k : Int)).length - p.1 ∧ p.2.length = l.length + 1 ∧ putL (behI l[k] (ds.getD k 0)) ds ((tosI l[k] (k : Int)).take p.1) = some p.2) (fun p => [(80, int p.1)]) (fun p => [(19, .rows 1 (p.2.map intRow)), (48, .rows 1 (([(k : Int) + 1] : List Int).map intRow))]) ⟨_, (0, ds), ⟨Nat.zero_le _, rfl, hdl, rfl⟩, by repeat (first | exact trivial | refine ⟨rfl, ?_⟩ | refine ⟨?_, ?_⟩)⟩ ?_
                rintro n ⟨j, p⟩ ⟨hj, rfl, hpl, hp⟩
                simp only at hj hpl hp ⊢
                refine cx_seq ?_
                refine cx_ops ?_
                refine ax_q (q_ibin rfl rfl rfl) ?_
                refine ax_nil ?_
                refine cx_keep rfl rfl ?_
                refine cx_seq ?_
                refine cx_cond rfl (fun h9 => ?_) (fun h9 => ?_)
                · have h9 := dT h9
                  try simp only [List.length_cons, List.length_nil] at h9
                  have h9x : j < (tosI l[k] (k : Int)).length := by omega
                  have htj := htb _ (List.getElem_mem h9x)
                  have hte : ([(k : Int) + 1] : List Int)[j]? = some (tosI l[k] (k : Int))[j] := by rw [← List.getElem?_eq_getElem h9x, ht]
                  refine cx_skip ?_
                  refine cx_keep rfl rfl ?_
                  refine cx_seq ?_
                  refine cx_block ?_
                  refine cx_seq ?_
                  refine cx_ops ?_
                  refine ax_q (q_ixo rfl rfl (by first | omega | (simp only [List.length_cons, List.length_nil]; omega))) ?_
                  refine ax_q (q_load1_rptr (r := intRow ((tosI l[k] (k : Int))[j])) rfl rfl (tosAt hte) rfl) ?_
                  refine ax_q (q_mov rfl) ?_
                  refine ax_nil ?_
                  refine cx_keep rfl rfl ?_
                  refine cx_seq ?_
                  refine cx_seq ?_
                  refine cx_ops ?_
                  refine ax_q (q_mov rfl) ?_
                  refine ax_q (q_mov rfl) ?_
                  refine ax_q (q_ixoI rfl rfl (by omega) (by omega)) ?_
                  refine ax_q (q_load1_rptr (r := intRow (p.getD (tosI l[k] (k : Int))[j].toNat 0)) rfl rfl (dAt (by omega)) rfl) ?_
                  refine ax_q (q_ibin rfl rfl rfl) ?_
                  refine ax_q (q_mov rfl) ?_
                  apply ax_and rfl rfl
                  · intro g
                    have g := dT g
                    refine ax_q (q_mov rfl) ?_
                    refine ax_q (q_mov rfl) ?_
                    refine ax_q (q_ixoI rfl rfl (by omega) (by omega)) ?_
                    refine ax_q (q_load1_rptr (r := intRow (p.getD (tosI l[k] (k : Int))[j].toNat 0)) rfl rfl (dAt (by omega)) rfl) ?_
                    refine ax_q (q_mov rfl) ?_
                    refine ax_q (q_ibin rfl rfl rfl) ?_
                    exact ax_nil ⟨rfl, by repeat (first | exact trivial | refine ⟨rfl, ?_⟩ | refine ⟨?_, ?_⟩)⟩
                  refine ax_nil ?_
                  refine cx_keep rfl rfl ?_
                  refine cx_cond rfl (fun h10 => ?_) (fun h10 => ?_)
                  · have h10 := (fun h => And.intro (dT (and_T h).1) (nT (and_T h).2)) h10
                    refine cx_seq ?_
                    refine cx_ops ?_
                    refine ax_q (q_mov rfl) ?_
                    refine ax_q (q_mov rfl) ?_
                    refine ax_nil ?_
                    refine cx_keep rfl rfl ?_
                    have hc : codeOK l = false := codeOK_no h0 hr h1x (hst.trans (putL_none (j := j + 1) (by rw [putL_step h9x hp]; exact put1_no (by rw [hb]; exact h10))))
                    refine cx_wk (wk_virt 901 1 rfl rfl rfl) ?_
                    refine cx_wk (wk_zs 2 901 [] rfl rfl) ?_
                    refine cx_ret (retN (fun _ => 0) [901] rfl rfl rfl rfl rfl ?_)
                    exact ⟨[], by rw [hc]; rfl, rfl, fun h => by rw [hc] at h; cases h⟩
                  · have h10 := (fun h => (and_F h).imp dF nF) h10
                    refine cx_skip ?_
                    refine cx_keep rfl rfl ?_
                    refine cx_ops ?_
                    refine ax_q (q_mov rfl) ?_
                    refine ax_q (q_mov rfl) ?_
                    refine ax_q (q_mov rfl) ?_
                    refine ax_q (q_ixoI rfl rfl (by omega) (by omega)) ?_
                    refine ax_e (e_str (q := intRow _) (row := intRow _) (rs' := (p.set (tosI l[k] (k : Int))[j].toNat _).map intRow) rfl rfl rfl rfl rfl rfl (dAt (by omega)) rfl rfl setI) ?_
                    refine ax_nil ?_
                    refine cx_keep rfl rfl ?_
                    refine cx_ops ?_
                    refine ax_qe (r' := int ((j + 1 : Nat) : Int)) (q_ibin rfl rfl rfl) (by rw [wi (by omega) (by omega)]; rfl) ?_
                    refine ax_q (q_mov rfl) ?_
                    refine ax_nil ?_
                    exact ⟨_, (j + 1, p.set (tosI l[k] (k : Int))[j].toNat ((ds.getD k 0) - 1)), by simp only; omega, ⟨by simp only; omega, rfl, by simp only [List.length_set]; exact hpl, by simp only; rw [putL_step h9x hp, hb]; exact put1_ok h10⟩, by repeat (first | exact trivial | refine ⟨rfl, ?_⟩ | refine ⟨?_, ?_⟩)⟩
                · have h9 := dF h9
                  try simp only [List.length_cons, List.length_nil] at h9
                  have h9x : j = (tosI l[k] (k : Int)).length := by omega
                  refine cx_exit rfl ?_
                  refine cx_keep rfl rfl ?_
                  refine cx_ops ?_
                  refine ax_qe (r' := int ((k + 1 : Nat) : Int)) (q_ibin rfl rfl rfl) (by rw [wi (by omega) (by omega)]; rfl) ?_
                  refine ax_q (q_mov rfl) ?_
                  refine ax_nil ?_
                  exact ⟨_, (k + 1, p), by simp only; omega, ⟨by simp only; omega, rfl, by simp only; rw [runH_next hr h1x]; exact hst.trans (by have hq := hp; rw [h9x, List.take_length] at hq; exact hq)⟩, by repeat (first | exact trivial | refine ⟨rfl, ?_⟩ | refine ⟨?_, ?_⟩)⟩
            · have h5 := dF h5
              refine cx_seq ?_
              refine cx_seq ?_
              refine cx_ops ?_
              refine ax_q (q_ibin rfl rfl rfl) ?_
              refine ax_q (q_mov rfl) ?_
              refine ax_nil ?_
              refine cx_keep rfl rfl ?_
              refine cx_cond rfl (fun h6 => ?_) (fun h6 => ?_)
              · have h6 := dT h6
                refine cx_skip ?_
                refine cx_keep rfl rfl ?_
                refine cx_cond rfl (fun h7 => ?_) (fun h7 => ?_)
                · have h7 := dT h7
                  have hb : behI l[k] (ds.getD k 0) = (ds.getD k 0) := by unfold behI; rw [if_neg (by omega), if_neg (by omega)]
                  have hlw : lowI l[k] = 1 := by unfold lowI; rw [if_neg (by omega), if_neg (by omega)]
                  have ht : tosI l[k] (k : Int) = [(k : Int) + 1, l[k].N] := by unfold tosI; rw [if_pos (by omega)]
                  have htl : (tosI l[k] (k : Int)).length = 2 := by rw [ht]; rfl
                  refine cx_ops ?_
                  refine ax_q (q_mov rfl) ?_
                  first | refine ax_q (q_fadr_ptr rfl) ?_ | refine ax_q (q_fadr_rptr rfl) ?_ | refine ax_q (q_fadr_ip rfl) ?_
                  first | refine ax_q (q_load1_ptr rfl rfl rfl) ?_ | refine ax_q (q_load1_ip rfl) ?_ | refine ax_q (q_load1_rptr rfl rfl rfl rfl) ?_ | refine ax_q (q_load1_rptr rfl rfl (by assumption) rfl) ?_ | refine ax_q (q_load1_rptr rfl rfl (mapAt (by first | assumption | omega)) rfl) ?_
                  refine ax_e (e_bslice rfl (by decide) rfl rfl) ?_
                  refine ax_e (e_appn (n' := 2) (rs' := ([(k : Int) + 1, l[k].N] : List Int).map intRow) rfl rfl (by simp) rfl (src_osl rfl (by simp)) (.inl (by decide)) (hbnd (by simp) (by simp) (by decide)) rfl rfl) ?_
                  refine ax_q (q_mov rfl) ?_
                  refine ax_nil ?_
                  refine cx_keep rfl rfl ?_
                  refine cx_seq ?_
                  refine cx_seq ?_
                  refine cx_ops ?_
                  refine ax_q (q_mov rfl) ?_
                  refine ax_q (q_mov rfl) ?_
                  refine ax_q (q_ixo rfl rfl (by omega)) ?_
                  refine ax_q (q_load1_rptr (r := intRow (ds.getD k 0)) rfl rfl (dAt (by omega)) rfl) ?_
                  refine ax_q (q_mov rfl) ?_
                  refine ax_q (q_ibin rfl rfl rfl) ?_
                  refine ax_q (q_mov rfl) ?_
                  apply ax_or rfl rfl
                  · intro g
                    have g := dF g
                    refine ax_q (q_mov rfl) ?_
                    refine ax_q (q_ibin rfl rfl rfl) ?_
                    exact ax_nil ⟨rfl, by repeat (first | exact trivial | refine ⟨rfl, ?_⟩ | refine ⟨?_, ?_⟩)⟩
                  refine ax_nil ?_
                  refine cx_keep rfl rfl ?_
                  refine cx_cond rfl (fun h8 => ?_) (fun h8 => ?_)
                  · have h8 := (fun h => (or_T h).imp dT dT) h8
                    refine cx_seq ?_
                    refine cx_ops ?_
                    refine ax_q (q_mov rfl) ?_
                    refine ax_q (q_mov rfl) ?_
                    refine ax_nil ?_
                    refine cx_keep rfl rfl ?_
                    have hc : codeOK l = false := codeOK_no h0 hr h1x (stepK_3 (by rw [hlw, hb]; exact h8))
                    refine cx_wk (wk_virt 901 1 rfl rfl rfl) ?_
                    refine cx_wk (wk_zs 2 901 [] rfl rfl) ?_
                    refine cx_ret (retN (fun _ => 0) [901] rfl rfl rfl rfl rfl ?_)
                    exact ⟨[], by rw [hc]; rfl, rfl, fun h => by rw [hc] at h; cases h⟩
                  · have h8 := (fun h => And.intro (dF (or_F h).1) (dF (or_F h).2)) h8
                    have hst := stepK_4 (x := l[k]) (ds := ds) (n := (l.length : Int)) h2.1 h2.2 (by rw [hlw]; exact h8.1) (by rw [hb]; exact h8.2)
                    have htb := tosI_b (x := l[k]) (i := (k : Int)) (n := (l.length : Int)) (by omega) (by omega) h2.2
                    refine cx_skip ?_
                    refine cx_keep rfl rfl ?_
                    refine cx_seq ?_
                    refine cx_ops ?_
                    refine ax_q (q_mov rfl) ?_
                    first | refine ax_q (q_lenS_map rfl) ?_ | refine ax_q (q_lenS_osl rfl) ?_ | refine ax_q (q_lenS_zs rfl) ?_ | refine ax_q (q_lenS rfl) ?_
                    refine ax_q (q_mov rfl) ?_
                    refine ax_nil ?_
                    refine cx_keep rfl rfl ?_
                    refine cx_block ?_
                    refine cx_loopU (fun n (p : Nat × List Int) => p.1 ≤ (tosI l[k] (k : Int)).length ∧ n = (tosI l[k] (k : Int)).length - p.1 ∧ p.2.length = l.length + 1 ∧ putL (behI l[k] (ds.getD k 0)) ds ((tosI l[k] (k : Int)).take p.1) = some p.2) (fun p => [(80, int p.1)]) (fun p => [(19, .rows 1 (p.2.map intRow)), (48, .rows 1 (([(k : Int) + 1, l[k].N] : List Int).map intRow))]) ⟨_, (0, ds), ⟨Nat.zero_le _, rfl, hdl, rfl⟩, by repeat (first | exact trivial | refine ⟨rfl, ?_⟩ | refine ⟨?_, ?_⟩)⟩ ?_
                    rintro n ⟨j, p⟩ ⟨hj, rfl, hpl, hp⟩
                    simp only at hj hpl hp ⊢
                    refine cx_seq ?_
                    refine cx_ops ?_
                    refine ax_q (q_ibin rfl rfl rfl) ?_
                    refine ax_nil ?_
                    refine cx_keep rfl rfl ?_
                    refine cx_seq ?_
                    refine cx_cond rfl (fun h9 => ?_) (fun h9 => ?_)
                    · have h9 := dT h9
                      try simp only [List.length_cons, List.length_nil] at h9
                      have h9x : j < (tosI l[k] (k : Int)).length := by omega
                      have htj := htb _ (List.getElem_mem h9x)
                      have hte : ([(k : Int) + 1, l[k].N] : List Int)[j]? = some (tosI l[k] (k : Int))[j] := by rw [← List.getElem?_eq_getElem h9x, ht]
                      refine cx_skip ?_
                      refine cx_keep rfl rfl ?_
                      refine cx_seq ?_
                      refine cx_block ?_
                      refine cx_seq ?_
                      refine cx_ops ?_
                      refine ax_q (q_ixo rfl rfl (by first | omega | (simp only [List.length_cons, List.length_nil]; omega))) ?_
                      refine ax_q (q_load1_rptr (r := intRow ((tosI l[k] (k : Int))[j])) rfl rfl (tosAt hte) rfl) ?_
                      refine ax_q (q_mov rfl) ?_
                      refine ax_nil ?_
                      refine cx_keep rfl rfl ?_
                      refine cx_seq ?_
                      refine cx_seq ?_
                      refine cx_ops ?_
                      refine ax_q (q_mov rfl) ?_
                      refine ax_q (q_mov rfl) ?_
                      refine ax_q (q_ixoI rfl rfl (by omega) (by omega)) ?_
                      refine ax_q (q_load1_rptr (r := intRow (p.getD (tosI l[k] (k : Int))[j].toNat 0)) rfl rfl (dAt (by omega)) rfl) ?_
                      refine ax_q (q_ibin rfl rfl rfl) ?_
                      refine ax_q (q_mov rfl) ?_
                      apply ax_and rfl rfl
                      · intro g
                        have g := dT g
                        refine ax_q (q_mov rfl) ?_
                        refine ax_q (q_mov rfl) ?_
                        refine ax_q (q_ixoI rfl rfl (by omega) (by omega)) ?_
                        refine ax_q (q_load1_rptr (r := intRow (p.getD (tosI l[k] (k : Int))[j].toNat 0)) rfl rfl (dAt (by omega)) rfl) ?_
                        refine ax_q (q_mov rfl) ?_
                        refine ax_q (q_ibin rfl rfl rfl) ?_
                        exact ax_nil ⟨rfl, by repeat (first | exact trivial | refine ⟨rfl, ?_⟩ | refine ⟨?_, ?_⟩)⟩
                      refine ax_nil ?_
                      refine cx_keep rfl rfl ?_
                      refine cx_cond rfl (fun h10 => ?_) (fun h10 => ?_)
                      · have h10 := (fun h => And.intro (dT (and_T h).1) (nT (and_T h).2)) h10
                        refine cx_seq ?_
                        refine cx_ops ?_
                        refine ax_q (q_mov rfl) ?_
                        refine ax_q (q_mov rfl) ?_
                        refine ax_nil ?_
                        refine cx_keep rfl rfl ?_
                        have hc : codeOK l = false := codeOK_no h0 hr h1x (hst.trans (putL_none (j := j + 1) (by rw [putL_step h9x hp]; exact put1_no (by rw [hb]; exact h10))))
                        refine cx_wk (wk_virt 901 1 rfl rfl rfl) ?_
                        refine cx_wk (wk_zs 2 901 [] rfl rfl) ?_
                        refine cx_ret (retN (fun _ => 0) [901] rfl rfl rfl rfl rfl ?_)
                        exact ⟨[], by rw [hc]; rfl, rfl, fun h => by rw [hc] at h; cases h⟩
                      · have h10 := (fun h => (and_F h).imp dF nF) h10
                        refine cx_skip ?_
                        refine cx_keep rfl rfl ?_
                        refine cx_ops ?_
                        refine ax_q (q_mov rfl) ?_
                        refine ax_q (q_mov rfl) ?_
                        refine ax_q (q_mov rfl) ?_
                        refine ax_q (q_ixoI rfl rfl (by omega) (by omega)) ?_
                        refine ax_e (e_str (q := intRow _) (row := intRow _) (rs' := (p.set (tosI l[k] (k : Int))[j].toNat _).map intRow) rfl rfl rfl rfl rfl rfl (dAt (by omega)) rfl rfl setI) ?_
                        refine ax_nil ?_
                        refine cx_keep rfl rfl ?_
                        refine cx_ops ?_
                        refine ax_qe (r' := int ((j + 1 : Nat) : Int)) (q_ibin rfl rfl rfl) (by rw [wi (by omega) (by omega)]; rfl) ?_
                        refine ax_q (q_mov rfl) ?_
                        refine ax_nil ?_
                        exact ⟨_, (j + 1, p.set (tosI l[k] (k : Int))[j].toNat ((ds.getD k 0))), by simp only; omega, ⟨by simp only; omega, rfl, by simp only [List.length_set]; exact hpl, by simp only; rw [putL_step h9x hp, hb]; exact put1_ok h10⟩, by repeat (first | exact trivial | refine ⟨rfl, ?_⟩ | refine ⟨?_, ?_⟩)⟩
                    · have h9 := dF h9
                      try simp only [List.length_cons, List.length_nil] at h9
                      have h9x : j = (tosI l[k] (k : Int)).length := by omega
                      refine cx_exit rfl ?_
                      refine cx_keep rfl rfl ?_
                      refine cx_ops ?_
                      refine ax_qe (r' := int ((k + 1 : Nat) : Int)) (q_ibin rfl rfl rfl) (by rw [wi (by omega) (by omega)]; rfl) ?_
                      refine ax_q (q_mov rfl) ?_
                      refine ax_nil ?_
                      exact ⟨_, (k + 1, p), by simp only; omega, ⟨by simp only; omega, rfl, by simp only; rw [runH_next hr h1x]; exact hst.trans (by have hq := hp; rw [h9x, List.take_length] at hq; exact hq)⟩, by repeat (first | exact trivial | refine ⟨rfl, ?_⟩ | refine ⟨?_, ?_⟩)⟩
                · have h7 := dF h7
                  exfalso; omega
              · have h6 := dF h6
                refine cx_ops ?_
                refine ax_q (q_ibin rfl rfl rfl) ?_
                refine ax_q (q_mov rfl) ?_
                refine ax_nil ?_
                refine cx_keep rfl rfl ?_
                refine cx_cond rfl (fun h7 => ?_) (fun h7 => ?_)
                · have h7 := dT h7
                  have hb : behI l[k] (ds.getD k 0) = (ds.getD k 0) := by unfold behI; rw [if_neg (by omega), if_neg (by omega)]
                  have hlw : lowI l[k] = 1 := by unfold lowI; rw [if_neg (by omega), if_neg (by omega)]
                  have ht : tosI l[k] (k : Int) = [(k : Int) + 1, l[k].N] := by unfold tosI; rw [if_pos (by omega)]
                  have htl : (tosI l[k] (k : Int)).length = 2 := by rw [ht]; rfl
                  refine cx_ops ?_
                  refine ax_q (q_mov rfl) ?_
                  first | refine ax_q (q_fadr_ptr rfl) ?_ | refine ax_q (q_fadr_rptr rfl) ?_ | refine ax_q (q_fadr_ip rfl) ?_
                  first | refine ax_q (q_load1_ptr rfl rfl rfl) ?_ | refine ax_q (q_load1_ip rfl) ?_ | refine ax_q (q_load1_rptr rfl rfl rfl rfl) ?_ | refine ax_q (q_load1_rptr rfl rfl (by assumption) rfl) ?_ | refine ax_q (q_load1_rptr rfl rfl (mapAt (by first | assumption | omega)) rfl) ?_
                  refine ax_e (e_bslice rfl (by decide) rfl rfl) ?_
                  refine ax_e (e_appn (n' := 2) (rs' := ([(k : Int) + 1, l[k].N] : List Int).map intRow) rfl rfl (by simp) rfl (src_osl rfl (by simp)) (.inl (by decide)) (hbnd (by simp) (by simp) (by decide)) rfl rfl) ?_
                  refine ax_q (q_mov rfl) ?_
                  refine ax_nil ?_
                  refine cx_keep rfl rfl ?_
                  refine cx_seq ?_
                  refine cx_seq ?_
                  refine cx_ops ?_
                  refine ax_q (q_mov rfl) ?_
                  refine ax_q (q_mov rfl) ?_
                  refine ax_q (q_ixo rfl rfl (by omega)) ?_
                  refine ax_q (q_load1_rptr (r := intRow (ds.getD k 0)) rfl rfl (dAt (by omega)) rfl) ?_
                  refine ax_q (q_mov rfl) ?_
                  refine ax_q (q_ibin rfl rfl rfl) ?_
                  refine ax_q (q_mov rfl) ?_
                  apply ax_or rfl rfl
                  · intro g
                    have g := dF g
                    refine ax_q (q_mov rfl) ?_
                    refine ax_q (q_ibin rfl rfl rfl) ?_
                    exact ax_nil ⟨rfl, by repeat (first | exact trivial | refine ⟨rfl, ?_⟩ | refine ⟨?_, ?_⟩)⟩
                  refine ax_nil ?_
                  refine cx_keep rfl rfl ?_
                  refine cx_cond rfl (fun h8 => ?_) (fun h8 => ?_)
                  · have h8 := (fun h => (or_T h).imp dT dT) h8
                    refine cx_seq ?_
                    refine cx_ops ?_
                    refine ax_q (q_mov rfl) ?_
                    refine ax_q (q_mov rfl) ?_
                    refine ax_nil ?_
                    refine cx_keep rfl rfl ?_
                    have hc : codeOK l = false := codeOK_no h0 hr h1x (stepK_3 (by rw [hlw, hb]; exact h8))
                    refine cx_wk (wk_virt 901 1 rfl rfl rfl) ?_
                    refine cx_wk (wk_zs 2 901 [] rfl rfl) ?_
                    refine cx_ret (retN (fun _ => 0) [901] rfl rfl rfl rfl rfl ?_)
                    exact ⟨[], by rw [hc]; rfl, rfl, fun h => by rw [hc] at h; cases h⟩
                  · have h8 := (fun h => And.intro (dF (or_F h).1) (dF (or_F h).2)) h8
                    have hst := stepK_4 (x := l[k]) (ds := ds) (n := (l.length : Int)) h2.1 h2.2 (by rw [hlw]; exact h8.1) (by rw [hb]; exact h8.2)
                    have htb := tosI_b (x := l[k]) (i := (k : Int)) (n := (l.length : Int)) (by omega) (by omega) h2.2
                    refine cx_skip ?_
                    refine cx_keep rfl rfl ?_
                    refine cx_seq ?_
                    refine cx_ops ?_
                    refine ax_q (q_mov rfl) ?_
                    first | refine ax_q (q_lenS_map rfl) ?_ | refine ax_q (q_lenS_osl rfl) ?_ | refine ax_q (q_lenS_zs rfl) ?_ | refine ax_q (q_lenS rfl) ?_
                    refine ax_q (q_mov rfl) ?_
                    refine ax_nil ?_
                    refine cx_keep rfl rfl ?_
                    refine cx_block ?_
                    refine cx_loopU (fun n (p : Nat × List Int) => p.1 ≤ (tosI l[k] (k : Int)).length ∧ n = (tosI l[k] (k : Int)).length - p.1 ∧ p.2.length = l.length + 1 ∧ putL (behI l[k] (ds.getD k 0)) ds ((tosI l[k] (k : Int)).take p.1) = some p.2) (fun p => [(80, int p.1)]) (fun p => [(19, .rows 1 (p.2.map intRow)), (48, .rows 1 (([(k : Int) + 1, l[k].N] : List Int).map intRow))]) ⟨_, (0, ds), ⟨Nat.zero_le _, rfl, hdl, rfl⟩, by repeat (first | exact trivial | refine ⟨rfl, ?_⟩ | refine ⟨?_, ?_⟩)⟩ ?_
                    rintro n ⟨j, p⟩ ⟨hj, rfl, hpl, hp⟩
                    simp only at hj hpl hp ⊢
                    refine cx_seq ?_
                    refine cx_ops ?_
                    refine ax_q (q_ibin rfl rfl rfl) ?_
                    refine ax_nil ?_
                    refine cx_keep rfl rfl ?_
                    refine cx_seq ?_
                    refine cx_cond rfl (fun h9 => ?_) (fun h9 => ?_)
                    · have h9 := dT h9
                      try simp only [List.length_cons, List.length_nil] at h9
                      have h9x : j < (tosI l[k] (k : Int)).length := by omega
                      have htj := htb _ (List.getElem_mem h9x)
                      have hte : ([(k : Int) + 1, l[k].N] : List Int)[j]? = some (tosI l[k] (k : Int))[j] := by rw [← List.getElem?_eq_getElem h9x, ht]
                      refine cx_skip ?_
                      refine cx_keep rfl rfl ?_
                      refine cx_seq ?_
                      refine cx_block ?_
                      refine cx_seq ?_
                      refine cx_ops ?_
                      refine ax_q (q_ixo rfl rfl (by first | omega | (simp only [List.length_cons, List.length_nil]; omega))) ?_
                      refine ax_q (q_load1_rptr (r := intRow ((tosI l[k] (k : Int))[j])) rfl rfl (tosAt hte) rfl) ?_
                      refine ax_q (q_mov rfl) ?_
                      refine ax_nil ?_
                      refine cx_keep rfl rfl ?_
                      refine cx_seq ?_
                      refine cx_seq ?_
                      refine cx_ops ?_
                      refine ax_q (q_mov rfl) ?_
                      refine ax_q (q_mov rfl) ?_
                      refine ax_q (q_ixoI rfl rfl (by omega) (by omega)) ?_
                      refine ax_q (q_load1_rptr (r := intRow (p.getD (tosI l[k] (k : Int))[j].toNat 0)) rfl rfl (dAt (by omega)) rfl) ?_
                      refine ax_q (q_ibin rfl rfl rfl) ?_
                      refine ax_q (q_mov rfl) ?_
                      apply ax_and rfl rfl
                      · intro g
                        have g := dT g
                        refine ax_q (q_mov rfl) ?_
                        refine ax_q (q_mov rfl) ?_
                        refine ax_q (q_ixoI rfl rfl (by omega) (by omega)) ?_
                        refine ax_q (q_load1_rptr (r := intRow (p.getD (tosI l[k] (k : Int))[j].toNat 0)) rfl rfl (dAt (by omega)) rfl) ?_
                        refine ax_q (q_mov rfl) ?_
                        refine ax_q (q_ibin rfl rfl rfl) ?_
                        exact ax_nil ⟨rfl, by repeat (first | exact trivial | refine ⟨rfl, ?_⟩ | refine ⟨?_, ?_⟩)⟩
                      refine ax_nil ?_
                      refine cx_keep rfl rfl ?_
                      refine cx_cond rfl (fun h10 => ?_) (fun h10 => ?_)
                      · have h10 := (fun h => And.intro (dT (and_T h).1) (nT (and_T h).2)) h10
                        refine cx_seq ?_
                        refine cx_ops ?_
                        refine ax_q (q_mov rfl) ?_
                        refine ax_q (q_mov rfl) ?_
                        refine ax_nil ?_
                        refine cx_keep rfl rfl ?_
                        have hc : codeOK l = false := codeOK_no h0 hr h1x (hst.trans (putL_none (j := j + 1) (by rw [putL_step h9x hp]; exact put1_no (by rw [hb]; exact h10))))
                        refine cx_wk (wk_virt 901 1 rfl rfl rfl) ?_
                        refine cx_wk (wk_zs 2 901 [] rfl rfl) ?_
                        refine cx_ret (retN (fun _ => 0) [901] rfl rfl rfl rfl rfl ?_)
                        exact ⟨[], by rw [hc]; rfl, rfl, fun h => by rw [hc] at h; cases h⟩
                      · have h10 := (fun h => (and_F h).imp dF nF) h10
                        refine cx_skip ?_
                        refine cx_keep rfl rfl ?_
                        refine cx_ops ?_
                        refine ax_q (q_mov rfl) ?_
                        refine ax_q (q_mov rfl) ?_
                        refine ax_q (q_mov rfl) ?_
                        refine ax_q (q_ixoI rfl rfl (by omega) (by omega)) ?_
                        refine ax_e (e_str (q := intRow _) (row := intRow _) (rs' := (p.set (tosI l[k] (k : Int))[j].toNat _).map intRow) rfl rfl rfl rfl rfl rfl (dAt (by omega)) rfl rfl setI) ?_
                        refine ax_nil ?_
                        refine cx_keep rfl rfl ?_
                        refine cx_ops ?_
                        refine ax_qe (r' := int ((j + 1 : Nat) : Int)) (q_ibin rfl rfl rfl) (by rw [wi (by omega) (by omega)]; rfl) ?_
                        refine ax_q (q_mov rfl) ?_
                        refine ax_nil ?_
                        exact ⟨_, (j + 1, p.set (tosI l[k] (k : Int))[j].toNat ((ds.getD k 0))), by simp only; omega, ⟨by simp only; omega, rfl, by simp only [List.length_set]; exact hpl, by simp only; rw [putL_step h9x hp, hb]; exact put1_ok h10⟩, by repeat (first | exact trivial | refine ⟨rfl, ?_⟩ | refine ⟨?_, ?_⟩)⟩
                    · have h9 := dF h9
                      try simp only [List.length_cons, List.length_nil] at h9
                      have h9x : j = (tosI l[k] (k : Int)).length := by omega
                      refine cx_exit rfl ?_
                      refine cx_keep rfl rfl ?_
                      refine cx_ops ?_
                      refine ax_qe (r' := int ((k + 1 : Nat) : Int)) (q_ibin rfl rfl rfl) (by rw [wi (by omega) (by omega)]; rfl) ?_
                      refine ax_q (q_mov rfl) ?_
                      refine ax_nil ?_
                      exact ⟨_, (k + 1, p), by simp only; omega, ⟨by simp only; omega, rfl, by simp only; rw [runH_next hr h1x]; exact hst.trans (by have hq := hp; rw [h9x, List.take_length] at hq; exact hq)⟩, by repeat (first | exact trivial | refine ⟨rfl, ?_⟩ | refine ⟨?_, ?_⟩)⟩
                · have h7 := dF h7
                  have hb : behI l[k] (ds.getD k 0) = (ds.getD k 0) := by unfold behI; rw [if_neg (by omega), if_neg (by omega)]
                  have hlw : lowI l[k] = 1 := by unfold lowI; rw [if_neg (by omega), if_neg (by omega)]
                  have ht : tosI l[k] (k : Int) = [(k : Int) + 1] := by unfold tosI; rw [if_neg (by omega)]
                  have htl : (tosI l[k] (k : Int)).length = 1 := by rw [ht]; rfl
                  refine cx_skip ?_
                  refine cx_keep rfl rfl ?_
                  refine cx_seq ?_
                  refine cx_seq ?_
                  refine cx_ops ?_
                  refine ax_q (q_mov rfl) ?_
                  refine ax_q (q_mov rfl) ?_
                  refine ax_q (q_ixo rfl rfl (by omega)) ?_
                  refine ax_q (q_load1_rptr (r := intRow (ds.getD k 0)) rfl rfl (dAt (by omega)) rfl) ?_
                  refine ax_q (q_mov rfl) ?_
                  refine ax_q (q_ibin rfl rfl rfl) ?_
                  refine ax_q (q_mov rfl) ?_
                  apply ax_or rfl rfl
                  · intro g
                    have g := dF g
                    refine ax_q (q_mov rfl) ?_
                    refine ax_q (q_ibin rfl rfl rfl) ?_
                    exact ax_nil ⟨rfl, by repeat (first | exact trivial | refine ⟨rfl, ?_⟩ | refine ⟨?_, ?_⟩)⟩
                  refine ax_nil ?_
                  refine cx_keep rfl rfl ?_
                  refine cx_cond rfl (fun h8 => ?_) (fun h8 => ?_)
                  · have h8 := (fun h => (or_T h).imp dT dT) h8
                    refine cx_seq ?_
                    refine cx_ops ?_
                    refine ax_q (q_mov rfl) ?_
                    refine ax_q (q_mov rfl) ?_
                    refine ax_nil ?_
                    refine cx_keep rfl rfl ?_
                    have hc : codeOK l = false := codeOK_no h0 hr h1x (stepK_3 (by rw [hlw, hb]; exact h8))
                    refine cx_wk (wk_virt 901 1 rfl rfl rfl) ?_
                    refine cx_wk (wk_zs 2 901 [] rfl rfl) ?_
                    refine cx_ret (retN (fun _ => 0) [901] rfl rfl rfl rfl rfl ?_)
                    exact ⟨[], by rw [hc]; rfl, rfl, fun h => by rw [hc] at h; cases h⟩
                  · have h8 := (fun h => And.intro (dF (or_F h).1) (dF (or_F h).2)) h8
                    have hst := stepK_4 (x := l[k]) (ds := ds) (n := (l.length : Int)) h2.1 h2.2 (by rw [hlw]; exact h8.1) (by rw [hb]; exact h8.2)
                    have htb := tosI_b (x := l[k]) (i := (k : Int)) (n := (l.length : Int)) (by omega) (by omega) h2.2
                    refine cx_skip ?_
                    refine cx_keep rfl rfl ?_
                    refine cx_seq ?_
                    refine cx_ops ?_
                    refine ax_q (q_mov rfl) ?_
                    first | refine ax_q (q_lenS_map rfl) ?_ | refine ax_q (q_lenS_osl rfl) ?_ | refine ax_q (q_lenS_zs rfl) ?_ | refine ax_q (q_lenS rfl) ?_
                    refine ax_q (q_mov rfl) ?_
                    refine ax_nil ?_
                    refine cx_keep rfl rfl ?_
                    refine cx_block ?_
                    refine cx_loopU (fun n (p : Nat × List Int) => p.1 ≤ (tosI l[k] (k : Int)).length ∧ n = (tosI l[k] (k : Int)).length - p.1 ∧ p.2.length = l.length + 1 ∧ putL (behI l[k] (ds.getD k 0)) ds ((tosI l[k] (k : Int)).take p.1) = some p.2) (fun p => [(80, int p.1)]) (fun p => [(19, .rows 1 (p.2.map intRow)), (48, .rows 1 (([(k : Int) + 1] : List Int).map intRow))]) ⟨_, (0, ds), ⟨Nat.zero_le _, rfl, hdl, rfl⟩, by repeat (first | exact trivial | refine ⟨rfl, ?_⟩ | refine ⟨?_, ?_⟩)⟩ ?_
                    rintro n ⟨j, p⟩ ⟨hj, rfl, hpl, hp⟩
                    simp only at hj hpl hp ⊢
                    refine cx_seq ?_
                    refine cx_ops ?_
                    refine ax_q (q_ibin rfl rfl rfl) ?_
                    refine ax_nil ?_
                    refine cx_keep rfl rfl ?_
                    refine cx_seq ?_
                    refine cx_cond rfl (fun h9 => ?_) (fun h9 => ?_)
                    · have h9 := dT h9
                      try simp only [List.length_cons, List.length_nil] at h9
                      have h9x : j < (tosI l[k] (k : Int)).length := by omega
                      have htj := htb _ (List.getElem_mem h9x)
                      have hte : ([(k : Int) + 1] : List Int)[j]? = some (tosI l[k] (k : Int))[j] := by rw [← List.getElem?_eq_getElem h9x, ht]
                      refine cx_skip ?_
                      refine cx_keep rfl rfl ?_
                      refine cx_seq ?_
                      refine cx_block ?_
                      refine cx_seq ?_
                      refine cx_ops ?_
                      refine ax_q (q_ixo rfl rfl (by first | omega | (simp only [List.length_cons, List.length_nil]; omega))) ?_
                      refine ax_q (q_load1_rptr (r := intRow ((tosI l[k] (k : Int))[j])) rfl rfl (tosAt hte) rfl) ?_
                      refine ax_q (q_mov rfl) ?_
                      refine ax_nil ?_
                      refine cx_keep rfl rfl ?_
                      refine cx_seq ?_
                      refine cx_seq ?_
                      refine cx_ops ?_
                      refine ax_q (q_mov rfl) ?_
                      refine ax_q (q_mov rfl) ?_
                      refine ax_q (q_ixoI rfl rfl (by omega) (by omega)) ?_
                      refine ax_q (q_load1_rptr (r := intRow (p.getD (tosI l[k] (k : Int))[j].toNat 0)) rfl rfl (dAt (by omega)) rfl) ?_
                      refine ax_q (q_ibin rfl rfl rfl) ?_
                      refine ax_q (q_mov rfl) ?_
                      apply ax_and rfl rfl
                      · intro g
                        have g := dT g
                        refine ax_q (q_mov rfl) ?_
                        refine ax_q (q_mov rfl) ?_
                        refine ax_q (q_ixoI rfl rfl (by omega) (by omega)) ?_
                        refine ax_q (q_load1_rptr (r := intRow (p.getD (tosI l[k] (k : Int))[j].toNat 0)) rfl rfl (dAt (by omega)) rfl) ?_
                        refine ax_q (q_mov rfl) ?_
                        refine ax_q (q_ibin rfl rfl rfl) ?_
                        exact ax_nil ⟨rfl, by repeat (first | exact trivial | refine ⟨rfl, ?_⟩ | refine ⟨?_, ?_⟩)⟩
                      refine ax_nil ?_
                      refine cx_keep rfl rfl ?_
                      refine cx_cond rfl (fun h10 => ?_) (fun h10 => ?_)
                      · have h10 := (fun h => And.intro (dT (and_T h).1) (nT (and_T h).2)) h10
                        refine cx_seq ?_
                        refine cx_ops ?_
                        refine ax_q (q_mov rfl) ?_
                        refine ax_q (q_mov rfl) ?_
                        refine ax_nil ?_
                        refine cx_keep rfl rfl ?_
                        have hc : codeOK l = false := codeOK_no h0 hr h1x (hst.trans (putL_none (j := j + 1) (by rw [putL_step h9x hp]; exact put1_no (by rw [hb]; exact h10))))
                        refine cx_wk (wk_virt 901 1 rfl rfl rfl) ?_
                        refine cx_wk (wk_zs 2 901 [] rfl rfl) ?_
                        refine cx_ret (retN (fun _ => 0) [901] rfl rfl rfl rfl rfl ?_)
                        exact ⟨[], by rw [hc]; rfl, rfl, fun h => by rw [hc] at h; cases h⟩
                      · have h10 := (fun h => (and_F h).imp dF nF) h10
                        refine cx_skip ?_
                        refine cx_keep rfl rfl ?_
                        refine cx_ops ?_
                        refine ax_q (q_mov rfl) ?_
                        refine ax_q (q_mov rfl) ?_
                        refine ax_q (q_mov rfl) ?_
                        refine ax_q (q_ixoI rfl rfl (by omega) (by omega)) ?_
                        refine ax_e (e_str (q := intRow _) (row := intRow _) (rs' := (p.set (tosI l[k] (k : Int))[j].toNat _).map intRow) rfl rfl rfl rfl rfl rfl (dAt (by omega)) rfl rfl setI) ?_
                        refine ax_nil ?_
                        refine cx_keep rfl rfl ?_
                        refine cx_ops ?_
                        refine ax_qe (r' := int ((j + 1 : Nat) : Int)) (q_ibin rfl rfl rfl) (by rw [wi (by omega) (by omega)]; rfl) ?_
                        refine ax_q (q_mov rfl) ?_
                        refine ax_nil ?_
                        exact ⟨_, (j + 1, p.set (tosI l[k] (k : Int))[j].toNat ((ds.getD k 0))), by simp only; omega, ⟨by simp only; omega, rfl, by simp only [List.length_set]; exact hpl, by simp only; rw [putL_step h9x hp, hb]; exact put1_ok h10⟩, by repeat (first | exact trivial | refine ⟨rfl, ?_⟩ | refine ⟨?_, ?_⟩)⟩
                    · have h9 := dF h9
                      try simp only [List.length_cons, List.length_nil] at h9
                      have h9x : j = (tosI l[k] (k : Int)).length := by omega
                      refine cx_exit rfl ?_
                      refine cx_keep rfl rfl ?_
                      refine cx_ops ?_
                      refine ax_qe (r' := int ((k + 1 : Nat) : Int)) (q_ibin rfl rfl rfl) (by rw [wi (by omega) (by omega)]; rfl) ?_
                      refine ax_q (q_mov rfl) ?_
                      refine ax_nil ?_
                      exact ⟨_, (k + 1, p), by simp only; omega, ⟨by simp only; omega, rfl, by simp only; rw [runH_next hr h1x]; exact hst.trans (by have hq := hp; rw [h9x, List.take_length] at hq; exact hq)⟩, by repeat (first | exact trivial | refine ⟨rfl, ?_⟩ | refine ⟨?_, ?_⟩)⟩
    · have h1 := dF h1
      have h1x : k = l.length := by omega
      subst h1x
      refine cx_exit rfl ?_
      refine cx_keep rfl rfl ?_
      refine cx_seq ?_
      refine cx_draw ?_
      refine ax_q (q_mov rfl) ?_
      refine ax_q (q_mov rfl) ?_
      refine ax_q (q_mov rfl) ?_
      first | refine ax_q (q_lenS_map rfl) ?_ | refine ax_q (q_lenS_osl rfl) ?_ | refine ax_q (q_lenS_zs rfl) ?_ | refine ax_q (q_lenS rfl) ?_
      refine ax_q (q_ixo rfl rfl (by omega)) ?_
      refine ax_q (q_load1_rptr (r := intRow (ds.getD l.length 0)) rfl rfl (dAt (by omega)) rfl) ?_
      refine ax_q (q_ibin rfl rfl rfl) ?_
      refine ax_q (q_mov rfl) ?_
      refine ax_q (q_mov rfl) ?_
      refine ax_nil ?_
      refine cx_keep rfl rfl ?_
      refine cx_ret (retN (fun _ => 0) [19] rfl rfl rfl rfl rfl ?_)
      exact ⟨ds, by rw [codeOK_end h0 hr, hdl]; rfl, rfl, fun _ => hr⟩


/- loop.example/g00332/impl.CodeOK -/
def k_c_CodeOK : XCode :=
  .seq (.ops [.op (some 2) (.mov (.k (.bool false)))])
  (.keep [0] (.seq (.ops [.op (some 6) (.mov (.t 0)),
     .call (some 7) 42 [.t 6],
     .op (some 5) (.mov (.t 7)),
     .op (some 8) (.ext (.t 5) 0),
     .op (some 9) (.ext (.t 5) 1),
     .op (some 3) (.mov (.t 8)),
     .op (some 4) (.mov (.t 9))])
  (.keep [4] (.seq (.ops [.op (some 10) (.mov (.t 4)),
     .op (some 2) (.mov (.t 10))])
  (.keep [2] (.ret))))))
theorem k_c_CodeOK_fits : fitsF Try.prog 13 ⟨11, k_c_CodeOK, [.t 2]⟩ = true := by kernel_rfl
theorem c_CodeOK {l : List GIns} (hw : l.length ≤ 1048576) (hv : ∀ x ∈ l, x.V.T.length ≤ 1048576) : Con Try.prog noMv 13 [.d (.sl 5 (l.map GIns.row))] [] (fun r h => r = bool (codeOK l) ∧ h = []) := by
  refine con_of2 k_c_CodeOK_fits rfl fun C hP hmv => ?_
  unfold k_c_CodeOK
  refine cx_seq ?_
  refine cx_ops ?_
  refine ax_q (q_mov rfl) ?_
  refine ax_nil ?_
  refine cx_keep rfl rfl ?_
  refine cx_seq ?_
  refine cx_ops ?_
  refine ax_q (q_mov rfl) ?_
  first | refine ax_call rfl (vc_pure (c_heights  ?_ ?_) hP rfl ?_) | refine ax_call rfl (vc_lend (c_heights  ?_ ?_) hP (by repeat (first | exact lal_id _ rfl | exact LAL.nil | refine LAL.cons ?_ ?_ | exact la_id _ rfl | exact LA.lend (lend_whole rfl (by first | (simp; done) | (rw [List.length_map]; rfl))) | refine LA.agg ?_ | refine LA.fn ?_ | refine LA.lend ?_ | exact Lend.d _ | exact Lend.zs _ | exact lend_whole rfl (by first | (simp; done) | (rw [List.length_map]; rfl)) | refine Lend.ptr rfl ?_ | refine Lend.fn ?_ | exact LendL.nil | refine LendL.cons ?_ ?_)) ?_)
  · first | assumption | omega | (simp; done) | (simp; omega)
  · first | assumption | omega | (simp; done) | (simp; omega)
  rintro r h ⟨ds, rfl, rfl, hd⟩
  refine ⟨fun i => 7 + 200 * i, [0], ⟨rfl, rfl, rfl, rfl, rfl, (by first | exact (fun h => absurd h Bool.false_ne_true) | exact (fun _ => ⟨rfl, (noisl_of ⟨noisl_map (fun _ => rfl), trivial⟩)⟩))⟩, ?_⟩
  skip
  refine ax_q (q_mov rfl) ?_
  refine ax_q (q_ext rfl rfl) ?_
  refine ax_q (q_ext rfl rfl) ?_
  refine ax_q (q_mov rfl) ?_
  refine ax_q (q_mov rfl) ?_
  refine ax_nil ?_
  refine cx_keep rfl rfl ?_
  refine cx_seq ?_
  refine cx_ops ?_
  refine ax_q (q_mov rfl) ?_
  refine ax_q (q_mov rfl) ?_
  refine ax_nil ?_
  refine cx_keep rfl rfl ?_
  refine cx_ret (ret0 rfl rfl ?_)
  exact ⟨rfl, rfl⟩


/- loop.example/g00332/impl.isId -/
def k_c_isId : XCode :=
  .seq (.ops [.op (some 2) (.mov (.k (.bool false)))])
  (.keep [0] (.seq (.ops [.op (some 3) (.mov (.t 0)),
     .call (some 4) 54 [.t 3, .k (.int .i64 0), .k (.int .i64 1000)],
     .op (some 2) (.mov (.t 4))])
  (.keep [2] (.ret))))
theorem k_c_isId_fits : fitsF Try.prog 77 ⟨5, k_c_isId, [.t 2]⟩ = true := by kernel_rfl
theorem c_isId {n : Int} : Con Try.prog noMv 77 [int n] [] (fun r h => r = bool (inR n 0 1000) ∧ h = []) := by
  refine con_of2 k_c_isId_fits rfl fun C hP hmv => ?_
  unfold k_c_isId
  refine cx_seq ?_
  refine cx_ops ?_
  refine ax_q (q_mov rfl) ?_
  refine ax_nil ?_
  refine cx_keep rfl rfl ?_
  refine cx_seq ?_
  refine cx_ops ?_
  refine ax_q (q_mov rfl) ?_
  first | refine ax_call rfl (vc_pure0 (c_inRange  ) hP rfl rfl ?_) | refine ax_call rfl (vc_lend0 (c_inRange  ) hP (by repeat (first | exact lal_id _ rfl | exact LAL.nil | refine LAL.cons ?_ ?_ | exact la_id _ rfl | exact LA.lend (lend_whole rfl (by first | (simp; done) | (rw [List.length_map]; rfl))) | refine LA.agg ?_ | refine LA.fn ?_ | refine LA.lend ?_ | exact Lend.d _ | exact Lend.zs _ | exact lend_whole rfl (by first | (simp; done) | (rw [List.length_map]; rfl)) | refine Lend.ptr rfl ?_ | refine Lend.fn ?_ | exact LendL.nil | refine LendL.cons ?_ ?_)) rfl rfl ?_)
  refine ax_q (q_mov rfl) ?_
  refine ax_nil ?_
  refine cx_keep rfl rfl ?_
  refine cx_ret (ret0 rfl rfl ?_)
  exact ⟨rfl, rfl⟩


/- loop.example/g00332/impl.rowOK -/
def k_c_rowOK : XCode :=
  .seq (.ops [.op (some 1) (.box (.t 0)),
     .op (some 2) (.mov (.k (.bool false)))])
  (.keep [1] (.seq (.ops [.op (some 3) (.fadr (.t 1) 0),
     .op (some 4) (.load1 (.t 3)),
     .call (some 5) 77 [.t 4],
     .op (some 6) (.mov (.t 5)),
     .andor 10 true 3 6 [.op (some 7) (.fadr (.t 1) 1), .op (some 8) (.loadN 3 (.t 7)), .call (some 9) 78 [.t 8]] (.t 9),
     .op (some 11) (.mov (.t 10)),
     .andor 16 true 8 11 [.op (some 12) (.fadr (.t 1) 1), .op (some 13) (.fadr (.t 12) 0), .op (some 14) (.load1 (.t 13)), .op (some 15) (.bin .neq (.t 14) (.k (.int .i64 2)))] (.t 15),
     .op (some 17) (.mov (.t 16)),
     .andor 21 true 14 17 [.op (some 18) (.fadr (.t 1) 4), .op (some 19) (.loadN 3 (.t 18)), .call (some 20) 78 [.t 19]] (.t 20),
     .op (some 22) (.mov (.t 21)),
     .andor 27 true 19 22 [.op (some 23) (.fadr (.t 1) 4), .op (some 24) (.fadr (.t 23) 0), .op (some 25) (.load1 (.t 24)), .op (some 26) (.bin .neq (.t 25) (.k (.int .i64 1)))] (.t 26),
     .op (some 2) (.mov (.t 27))])
  (.keep [2] (.ret))))
theorem k_c_rowOK_fits : fitsF Try.prog 53 ⟨28, k_c_rowOK, [.t 2]⟩ = true := by kernel_rfl
theorem c_rowOK {a : GRow} (hv : a.N.T.length ≤ 1048576) (hw : a.Name.T.length ≤ 1048576) : Con Try.prog noMv 53 [a.av] [] (fun r h => r = bool (rowOK a) ∧ h = []) := by
  refine con_of2 k_c_rowOK_fits rfl fun C hP hmv => ?_
  unfold k_c_rowOK
  refine cx_seq ?_
  refine cx_ops ?_
  refine ax_e (e_box rfl rfl (by decide) rfl rfl rfl) ?_
  refine ax_q (q_mov rfl) ?_
  refine ax_nil ?_
  refine cx_keep rfl rfl ?_
  refine cx_seq ?_
  refine cx_ops ?_
  first | refine ax_q (q_fadr_ptr rfl) ?_ | refine ax_q (q_fadr_rptr rfl) ?_ | refine ax_q (q_fadr_ip rfl) ?_
  first | refine ax_q (q_load1_ptr rfl rfl rfl) ?_ | refine ax_q (q_load1_ip rfl) ?_ | refine ax_q (q_load1_rptr rfl rfl rfl rfl) ?_ | refine ax_q (q_load1_rptr rfl rfl (by assumption) rfl) ?_ | refine ax_q (q_load1_rptr rfl rfl (mapAt (by first | assumption | omega)) rfl) ?_
  first | refine ax_call rfl (vc_pure0 (c_isId  ) hP rfl rfl ?_) | refine ax_call rfl (vc_lend0 (c_isId  ) hP (by repeat (first | exact lal_id _ rfl | exact LAL.nil | refine LAL.cons ?_ ?_ | exact la_id _ rfl | exact LA.lend (lend_whole rfl (by first | (simp; done) | (rw [List.length_map]; rfl))) | refine LA.agg ?_ | refine LA.fn ?_ | refine LA.lend ?_ | exact Lend.d _ | exact Lend.zs _ | exact lend_whole rfl (by first | (simp; done) | (rw [List.length_map]; rfl)) | refine Lend.ptr rfl ?_ | refine Lend.fn ?_ | exact LendL.nil | refine LendL.cons ?_ ?_)) rfl rfl ?_)
  refine ax_q (q_mov rfl) ?_
  apply ax_and rfl rfl
  · intro g
    first | refine ax_q (q_fadr_ptr rfl) ?_ | refine ax_q (q_fadr_rptr rfl) ?_ | refine ax_q (q_fadr_ip rfl) ?_
    first | refine ax_q (q_ldN rfl rfl rfl) ?_ | refine ax_q (q_loadN_ip rfl (Nat.le_refl _)) ?_ | refine ax_q (q_loadN_ip rfl (by decide)) ?_ | refine ax_q (q_loadN_rptr rfl rfl (by assumption) (by decide)) ?_ | refine ax_q (q_loadN_rptr rfl rfl (mapAt (by first | assumption | omega)) (by decide)) ?_
    first | refine ax_call rfl (vc_pure0 (c_ValueOK (v := a.N) ?_) hP rfl rfl ?_) | refine ax_call rfl (vc_lend0 (c_ValueOK (v := a.N) ?_) hP (by repeat (first | exact lal_id _ rfl | exact LAL.nil | refine LAL.cons ?_ ?_ | exact la_id _ rfl | exact LA.lend (lend_whole rfl (by first | (simp; done) | (rw [List.length_map]; rfl))) | refine LA.agg ?_ | refine LA.fn ?_ | refine LA.lend ?_ | exact Lend.d _ | exact Lend.zs _ | exact lend_whole rfl (by first | (simp; done) | (rw [List.length_map]; rfl)) | refine Lend.ptr rfl ?_ | refine Lend.fn ?_ | exact LendL.nil | refine LendL.cons ?_ ?_)) rfl rfl ?_)
    · first | assumption | omega | (simp; done) | (simp; omega)
    exact ax_nil ⟨rfl, by repeat (first | exact trivial | refine ⟨rfl, ?_⟩ | refine ⟨?_, ?_⟩)⟩
  refine ax_q (q_mov rfl) ?_
  apply ax_and rfl rfl
  · intro g
    have g := (fun h => And.intro (id (and_T h).1) (id (and_T h).2)) g
    first | refine ax_q (q_fadr_ptr rfl) ?_ | refine ax_q (q_fadr_rptr rfl) ?_ | refine ax_q (q_fadr_ip rfl) ?_
    first | refine ax_q (q_fadr_ptr rfl) ?_ | refine ax_q (q_fadr_rptr rfl) ?_ | refine ax_q (q_fadr_ip rfl) ?_
    first | refine ax_q (q_load1_ptr rfl rfl rfl) ?_ | refine ax_q (q_load1_ip rfl) ?_ | refine ax_q (q_load1_rptr rfl rfl rfl rfl) ?_ | refine ax_q (q_load1_rptr rfl rfl (by assumption) rfl) ?_ | refine ax_q (q_load1_rptr rfl rfl (mapAt (by first | assumption | omega)) rfl) ?_
    refine ax_q (q_ibin rfl rfl rfl) ?_
    exact ax_nil ⟨rfl, by repeat (first | exact trivial | refine ⟨rfl, ?_⟩ | refine ⟨?_, ?_⟩)⟩
  refine ax_q (q_mov rfl) ?_
  apply ax_and rfl rfl
  · intro g
    have g := (fun h => And.intro ((fun h => And.intro (id (and_T h).1) (id (and_T h).2)) (and_T h).1) (nT (and_T h).2)) g
    first | refine ax_q (q_fadr_ptr rfl) ?_ | refine ax_q (q_fadr_rptr rfl) ?_ | refine ax_q (q_fadr_ip rfl) ?_
    first | refine ax_q (q_ldN rfl rfl rfl) ?_ | refine ax_q (q_loadN_ip rfl (Nat.le_refl _)) ?_ | refine ax_q (q_loadN_ip rfl (by decide)) ?_ | refine ax_q (q_loadN_rptr rfl rfl (by assumption) (by decide)) ?_ | refine ax_q (q_loadN_rptr rfl rfl (mapAt (by first | assumption | omega)) (by decide)) ?_
    first | refine ax_call rfl (vc_pure0 (c_ValueOK (v := a.Name) ?_) hP rfl rfl ?_) | refine ax_call rfl (vc_lend0 (c_ValueOK (v := a.Name) ?_) hP (by repeat (first | exact lal_id _ rfl | exact LAL.nil | refine LAL.cons ?_ ?_ | exact la_id _ rfl | exact LA.lend (lend_whole rfl (by first | (simp; done) | (rw [List.length_map]; rfl))) | refine LA.agg ?_ | refine LA.fn ?_ | refine LA.lend ?_ | exact Lend.d _ | exact Lend.zs _ | exact lend_whole rfl (by first | (simp; done) | (rw [List.length_map]; rfl)) | refine Lend.ptr rfl ?_ | refine Lend.fn ?_ | exact LendL.nil | refine LendL.cons ?_ ?_)) rfl rfl ?_)
    · first | assumption | omega | (simp; done) | (simp; omega)
    exact ax_nil ⟨rfl, by repeat (first | exact trivial | refine ⟨rfl, ?_⟩ | refine ⟨?_, ?_⟩)⟩
  refine ax_q (q_mov rfl) ?_
  apply ax_and rfl rfl
  · intro g
    have g := (fun h => And.intro ((fun h => And.intro ((fun h => And.intro (id (and_T h).1) (id (and_T h).2)) (and_T h).1) (nT (and_T h).2)) (and_T h).1) (id (and_T h).2)) g
    first | refine ax_q (q_fadr_ptr rfl) ?_ | refine ax_q (q_fadr_rptr rfl) ?_ | refine ax_q (q_fadr_ip rfl) ?_
    first | refine ax_q (q_fadr_ptr rfl) ?_ | refine ax_q (q_fadr_rptr rfl) ?_ | refine ax_q (q_fadr_ip rfl) ?_
    first | refine ax_q (q_load1_ptr rfl rfl rfl) ?_ | refine ax_q (q_load1_ip rfl) ?_ | refine ax_q (q_load1_rptr rfl rfl rfl rfl) ?_ | refine ax_q (q_load1_rptr rfl rfl (by assumption) rfl) ?_ | refine ax_q (q_load1_rptr rfl rfl (mapAt (by first | assumption | omega)) rfl) ?_
    refine ax_q (q_ibin rfl rfl rfl) ?_
    exact ax_nil ⟨rfl, by repeat (first | exact trivial | refine ⟨rfl, ?_⟩ | refine ⟨?_, ?_⟩)⟩
  refine ax_q (q_mov rfl) ?_
  refine ax_nil ?_
  refine cx_keep rfl rfl ?_
  refine cx_ret (ret0 rfl rfl ?_)
  exact ⟨by rw [← rowOK_i] <;> rfl, rfl⟩


/- loop.example/g00332/impl.numberValue -/
def k_c_numberValue : XCode :=
  .seq (.ops [.op (some 2) (.alloc [.int .i64 0, .int .i64 0, .str []])])
  (.keep [0, 2] (.seq (.ops [.op (some 3) (.mov (.t 0)),
     .op (some 4) (.build [.int .i64 0, .int .i64 0, .str []] [(0, 1, .k (.int .i64 1)), (1, 1, .t 3)]),
     .op none (.store 3 (.t 2) (.t 4))])
  (.keep [2] (.ret))))
theorem k_c_numberValue_fits : fitsF Try.prog 106 ⟨5, k_c_numberValue, [.cN 2 3]⟩ = true := by kernel_rfl
theorem c_numberValue {n : Int} : Con Try.prog noMv 106 [int n] [] (fun r h => r = (vI n).av ∧ h = []) := by
  refine con_of2 k_c_numberValue_fits rfl fun C hP hmv => ?_
  unfold k_c_numberValue
  refine cx_seq ?_
  refine cx_ops ?_
  refine ax_e (e_alloc (by decide) rfl rfl) ?_
  refine ax_nil ?_
  refine cx_keep rfl rfl ?_
  refine cx_seq ?_
  refine cx_ops ?_
  refine ax_q (q_mov rfl) ?_
  refine ax_q (q_build rfl) ?_
  refine ax_e (e_st rfl rfl rfl rfl rfl rfl rfl) ?_
  refine ax_nil ?_
  refine cx_keep rfl rfl ?_
  refine cx_ret (ret0 rfl rfl ?_)
  exact ⟨rfl, rfl⟩


/- loop.example/g00332/impl.columnOf -/
def k_c_columnOf : XCode :=
  .seq (.ops [.op (some 2) (.box (.t 0)),
     .op (some 4) (.alloc [.int .i64 0, .int .i64 0, .str []])])
  (.keep [1, 2, 4] (.seq (.drawE [[], [0], [0, 1], [], [3], [], [5], [0, 1, 2, 3, 4, 5, 6], [], [0, 1, 2, 3, 4, 5, 6, 7, 8], [0, 1, 2, 3, 4, 5, 6, 7, 8, 9]] [.op (some 5) (.fadr (.t 2) 0),
     .op (some 6) (.load1 (.t 5)),
     .call (some 7) 106 [.t 6],
     .op (some 8) (.fadr (.t 2) 1),
     .op (some 9) (.loadN 3 (.t 8)),
     .op (some 10) (.fadr (.t 2) 4),
     .op (some 11) (.loadN 3 (.t 10)),
     .op (some 12) (.build [.int .i64 0, .int .i64 0, .str [], .int .i64 0, .int .i64 0, .str [], .int .i64 0, .int .i64 0, .str []] [(0, 3, .t 7), (3, 3, .t 9), (6, 3, .t 11)]),
     .op (some 13) (.mov (.t 1))]
    [.op (some 14) (.idxA 3 3 (.t 12) (.t 13)),
     .op none (.store 3 (.t 4) (.t 14))])
  (.keep [4] (.ret))))
theorem k_c_columnOf_fits : fitsF Try.prog 89 ⟨15, k_c_columnOf, [.cN 4 3]⟩ = true := by kernel_rfl
theorem c_columnOf {w : GRow} {k : Int} (hk : 0 ≤ k ∧ k ≤ 2) : Con Try.prog noMv 89 [w.av, int k] [] (fun r h => r = (colF w k).av ∧ h = []) := by
  refine con_of2 k_c_columnOf_fits rfl fun C hP hmv => ?_
  unfold k_c_columnOf
  refine cx_seq ?_
  refine cx_ops ?_
  refine ax_e (e_box rfl rfl (by decide) rfl rfl rfl) ?_
  refine ax_e (e_alloc (by decide) rfl rfl) ?_
  refine ax_nil ?_
  refine cx_keep rfl rfl ?_
  refine cx_seq ?_
  refine cx_drawL 0 5 (fun _ => false) (fun _ => true) [] ([]) [[2], [5], [6], [2], [8], [2], [10], [7, 9, 11], [1]] [[], [], [], [], [], [], [], [], []] rfl ?_
  first | refine ⟨⟨5, _, []⟩, .inl ⟨rfl, rfl, rfl, locl_of (loc_q (q_fadr_ptr rfl))⟩, ?_⟩ | refine ⟨⟨5, _, []⟩, .inl ⟨rfl, rfl, rfl, locl_of (loc_q (q_fadr_rptr rfl))⟩, ?_⟩ | refine ⟨⟨5, _, []⟩, .inl ⟨rfl, rfl, rfl, locl_of (loc_q (q_fadr_ip rfl))⟩, ?_⟩
  first | refine ⟨_, .inr ⟨rfl, _, rfl, .inr ⟨rfl, rfl, .inl rfl, rfl, rfl⟩, loc_q (q_load1_ptr rfl rfl rfl)⟩, ?_⟩ | refine ⟨_, .inr ⟨rfl, _, rfl, .inr ⟨rfl, rfl, .inl rfl, rfl, rfl⟩, loc_q (q_load1_ip rfl)⟩, ?_⟩ | refine ⟨_, .inr ⟨rfl, _, rfl, .inr ⟨rfl, rfl, .inl rfl, rfl, rfl⟩, loc_q (q_load1_rptr rfl rfl rfl rfl)⟩, ?_⟩ | refine ⟨_, .inr ⟨rfl, _, rfl, .inr ⟨rfl, rfl, .inl rfl, rfl, rfl⟩, loc_q (q_load1_rptr rfl rfl (by assumption) rfl)⟩, ?_⟩ | refine ⟨_, .inr ⟨rfl, _, rfl, .inr ⟨rfl, rfl, .inl rfl, rfl, rfl⟩, loc_q (q_load1_rptr rfl rfl (mapAt (by first | assumption | omega)) rfl)⟩, ?_⟩
  first | refine ⟨_, .inr ⟨rfl, _, rfl, .inr ⟨rfl, rfl, .inl rfl, rfl, rfl⟩, loc_call (fun i => 7 + 200 * i) false rfl (c_numberValue  ) hP (.inr ⟨rfl, rfl, rfl⟩) rfl rfl (fun h => by cases h)⟩, ?_⟩ | refine ⟨_, .inr ⟨rfl, _, rfl, .inr ⟨rfl, rfl, .inl rfl, rfl, rfl⟩, loc_call (fun i => 7 + 200 * i) true rfl (c_numberValue  ) hP (.inl ⟨rfl, (by repeat (first | exact lal_id _ rfl | exact LAL.nil | refine LAL.cons ?_ ?_ | exact la_id _ rfl | exact LA.lend (lend_whole rfl (by first | (simp; done) | (rw [List.length_map]; rfl))) | refine LA.agg ?_ | refine LA.fn ?_ | refine LA.lend ?_ | exact Lend.d _ | exact Lend.zs _ | exact lend_whole rfl (by first | (simp; done) | (rw [List.length_map]; rfl)) | refine Lend.ptr rfl ?_ | refine Lend.fn ?_ | exact LendL.nil | refine LendL.cons ?_ ?_))⟩) rfl rfl (fun _ => ⟨rfl, noisl_of (by repeat (first | exact trivial | refine ⟨noisl_map (fun _ => rfl), ?_⟩ | refine ⟨?_, ?_⟩))⟩)⟩, ?_⟩
  first | refine ⟨_, .inr ⟨rfl, _, rfl, .inr ⟨rfl, rfl, .inr rfl, rfl, rfl⟩, loc_q (q_fadr_ptr rfl)⟩, ?_⟩ | refine ⟨_, .inr ⟨rfl, _, rfl, .inr ⟨rfl, rfl, .inr rfl, rfl, rfl⟩, loc_q (q_fadr_rptr rfl)⟩, ?_⟩ | refine ⟨_, .inr ⟨rfl, _, rfl, .inr ⟨rfl, rfl, .inr rfl, rfl, rfl⟩, loc_q (q_fadr_ip rfl)⟩, ?_⟩
  first | refine ⟨_, .inr ⟨rfl, _, rfl, .inr ⟨rfl, rfl, .inr rfl, rfl, rfl⟩, loc_q (q_ldN rfl rfl rfl)⟩, ?_⟩ | refine ⟨_, .inr ⟨rfl, _, rfl, .inr ⟨rfl, rfl, .inr rfl, rfl, rfl⟩, loc_q (q_loadN_ip rfl (Nat.le_refl _))⟩, ?_⟩ | refine ⟨_, .inr ⟨rfl, _, rfl, .inr ⟨rfl, rfl, .inr rfl, rfl, rfl⟩, loc_q (q_loadN_ip rfl (by decide))⟩, ?_⟩ | refine ⟨_, .inr ⟨rfl, _, rfl, .inr ⟨rfl, rfl, .inr rfl, rfl, rfl⟩, loc_q (q_loadN_rptr rfl rfl (by assumption) (by decide))⟩, ?_⟩ | refine ⟨_, .inr ⟨rfl, _, rfl, .inr ⟨rfl, rfl, .inr rfl, rfl, rfl⟩, loc_q (q_loadN_rptr rfl rfl (mapAt (by first | assumption | omega)) (by decide))⟩, ?_⟩
  first | refine ⟨_, .inr ⟨rfl, _, rfl, .inr ⟨rfl, rfl, .inr rfl, rfl, rfl⟩, loc_q (q_fadr_ptr rfl)⟩, ?_⟩ | refine ⟨_, .inr ⟨rfl, _, rfl, .inr ⟨rfl, rfl, .inr rfl, rfl, rfl⟩, loc_q (q_fadr_rptr rfl)⟩, ?_⟩ | refine ⟨_, .inr ⟨rfl, _, rfl, .inr ⟨rfl, rfl, .inr rfl, rfl, rfl⟩, loc_q (q_fadr_ip rfl)⟩, ?_⟩
  first | refine ⟨_, .inr ⟨rfl, _, rfl, .inr ⟨rfl, rfl, .inr rfl, rfl, rfl⟩, loc_q (q_ldN rfl rfl rfl)⟩, ?_⟩ | refine ⟨_, .inr ⟨rfl, _, rfl, .inr ⟨rfl, rfl, .inr rfl, rfl, rfl⟩, loc_q (q_loadN_ip rfl (Nat.le_refl _))⟩, ?_⟩ | refine ⟨_, .inr ⟨rfl, _, rfl, .inr ⟨rfl, rfl, .inr rfl, rfl, rfl⟩, loc_q (q_loadN_ip rfl (by decide))⟩, ?_⟩ | refine ⟨_, .inr ⟨rfl, _, rfl, .inr ⟨rfl, rfl, .inr rfl, rfl, rfl⟩, loc_q (q_loadN_rptr rfl rfl (by assumption) (by decide))⟩, ?_⟩ | refine ⟨_, .inr ⟨rfl, _, rfl, .inr ⟨rfl, rfl, .inr rfl, rfl, rfl⟩, loc_q (q_loadN_rptr rfl rfl (mapAt (by first | assumption | omega)) (by decide))⟩, ?_⟩
  first | refine ⟨_, .inr ⟨rfl, _, rfl, .inr ⟨rfl, rfl, .inl rfl, rfl, rfl⟩, loc_q (q_build rfl)⟩, ?_⟩
  first | refine ⟨_, .inr ⟨rfl, _, rfl, .inr ⟨rfl, rfl, .inr rfl, rfl, rfl⟩, loc_q (q_mov rfl)⟩, ?_⟩
  refine ⟨rfl, ?_⟩
  refine ax_qe (r' := (colF w k).av) (q_idxA rfl rfl (by omega)) (colF_at hk) ?_
  refine ax_e (e_st rfl rfl rfl rfl rfl rfl rfl) ?_
  refine ax_nil ?_
  refine cx_keep rfl rfl ?_
  refine cx_ret (ret0 rfl rfl ?_)
  exact ⟨rfl, rfl⟩


/- loop.example/g00332/impl.truth -/
def k_c_truth : XCode :=
  .seq (.ops [.op (some 2) (.alloc [.int .i64 0, .int .i64 0, .str []])])
  (.keep [0, 2] (.seq (.seq (.ops [.op (some 3) (.mov (.t 0))])
   (.keep [2, 3] (.cond (.t 3)
    (.seq (.ops [.call (some 4) 106 [.k (.int .i64 1)],
        .op none (.store 3 (.t 2) (.t 4))])
     (.keep [2] (.ret)))
    (.skip))))
  (.keep [2] (.seq (.ops [.call (some 5) 106 [.k (.int .i64 0)],
     .op none (.store 3 (.t 2) (.t 5))])
  (.keep [2] (.ret))))))
theorem k_c_truth_fits : fitsF Try.prog 94 ⟨6, k_c_truth, [.cN 2 3]⟩ = true := by kernel_rfl
theorem c_truth {b : Bool} : Con Try.prog noMv 94 [bool b] [] (fun r h => r = (vB b).av ∧ h = []) := by
  refine con_of2 k_c_truth_fits rfl fun C hP hmv => ?_
  unfold k_c_truth
  refine cx_seq ?_
  refine cx_ops ?_
  refine ax_e (e_alloc (by decide) rfl rfl) ?_
  refine ax_nil ?_
  refine cx_keep rfl rfl ?_
  refine cx_seq ?_
  refine cx_seq ?_
  refine cx_ops ?_
  refine ax_q (q_mov rfl) ?_
  refine ax_nil ?_
  refine cx_keep rfl rfl ?_
  refine cx_cond rfl (fun h0 => ?_) (fun h0 => ?_)
  · skip
    refine cx_seq ?_
    refine cx_ops ?_
    first | refine ax_call rfl (vc_pure0 (c_numberValue  ) hP rfl rfl ?_) | refine ax_call rfl (vc_lend0 (c_numberValue  ) hP (by repeat (first | exact lal_id _ rfl | exact LAL.nil | refine LAL.cons ?_ ?_ | exact la_id _ rfl | exact LA.lend (lend_whole rfl (by first | (simp; done) | (rw [List.length_map]; rfl))) | refine LA.agg ?_ | refine LA.fn ?_ | refine LA.lend ?_ | exact Lend.d _ | exact Lend.zs _ | exact lend_whole rfl (by first | (simp; done) | (rw [List.length_map]; rfl)) | refine Lend.ptr rfl ?_ | refine Lend.fn ?_ | exact LendL.nil | refine LendL.cons ?_ ?_)) rfl rfl ?_)
    refine ax_e (e_st rfl rfl rfl rfl rfl rfl rfl) ?_
    refine ax_nil ?_
    refine cx_keep rfl rfl ?_
    refine cx_ret (ret0 rfl rfl ?_)
    exact ⟨by rw [h0]; rfl, rfl⟩
  · skip
    refine cx_skip ?_
    refine cx_keep rfl rfl ?_
    refine cx_seq ?_
    refine cx_ops ?_
    first | refine ax_call rfl (vc_pure0 (c_numberValue  ) hP rfl rfl ?_) | refine ax_call rfl (vc_lend0 (c_numberValue  ) hP (by repeat (first | exact lal_id _ rfl | exact LAL.nil | refine LAL.cons ?_ ?_ | exact la_id _ rfl | exact LA.lend (lend_whole rfl (by first | (simp; done) | (rw [List.length_map]; rfl))) | refine LA.agg ?_ | refine LA.fn ?_ | refine LA.lend ?_ | exact Lend.d _ | exact Lend.zs _ | exact lend_whole rfl (by first | (simp; done) | (rw [List.length_map]; rfl)) | refine Lend.ptr rfl ?_ | refine Lend.fn ?_ | exact LendL.nil | refine LendL.cons ?_ ?_)) rfl rfl ?_)
    refine ax_e (e_st rfl rfl rfl rfl rfl rfl rfl) ?_
    refine ax_nil ?_
    refine cx_keep rfl rfl ?_
    refine cx_ret (ret0 rfl rfl ?_)
    exact ⟨by rw [h0]; rfl, rfl⟩


/- loop.example/g00332/impl.unary -/
def k_c_unary : XCode :=
  .seq (.ops [.op (some 3) (.box (.t 1)),
     .op (some 4) (.alloc [.int .i64 0, .int .i64 0, .str []]),
     .op (some 5) (.mov (.k (.int .i64 0)))])
  (.keep [0, 3, 4] (.seq (.block 0 (.seq (.ops [.op (some 7) (.mov (.t 0)),
       .op (some 8) (.bin .eql (.t 7) (.k (.int .i64 4))),
       .op (some 6) (.mov (.t 8))])
    (.keep [0, 3, 4, 6] (.cond (.t 6)
     (.seq (.ops [.op (some 9) (.fadr (.t 3) 0),
         .op (some 10) (.load1 (.t 9)),
         .op (some 11) (.bin .eql (.t 10) (.k (.int .i64 0))),
         .call (some 12) 94 [.t 11],
         .op none (.store 3 (.t 4) (.t 12)),
         .op (some 5) (.mov (.k (.int .i64 0)))])
      (.keep [4, 5] (.ret)))
     (.seq (.ops [.op (some 14) (.fadr (.t 3) 0),
         .op (some 15) (.load1 (.t 14)),
         .op (some 16) (.bin .eql (.t 15) (.k (.int .i64 2))),
         .op (some 13) (.mov (.t 16))])
      (.keep [0, 3, 4, 13] (.cond (.t 13)
       (.seq (.ops [.op (some 17) (.build [.int .i64 0, .int .i64 0, .str []] []),
           .op none (.store 3 (.t 4) (.t 17)),
           .op (some 5) (.mov (.k (.int .i64 10)))])
        (.keep [4, 5] (.ret)))
       (.seq (.ops [.op (some 19) (.fadr (.t 3) 0),
           .op (some 20) (.load1 (.t 19)),
           .op (some 21) (.bin .eql (.t 20) (.k (.int .i64 0))),
           .op (some 18) (.mov (.t 21))])
        (.keep [0, 3, 4, 18] (.cond (.t 18)
         (.seq (.ops [.op (some 22) (.build [.int .i64 0, .int .i64 0, .str []] []),
             .op none (.store 3 (.t 4) (.t 22)),
             .op (some 5) (.mov (.k (.int .i64 0)))])
          (.keep [4, 5] (.ret)))
         (.seq (.ops [.op (some 24) (.mov (.t 0)),
             .op (some 25) (.bin .eql (.t 24) (.k (.int .i64 3))),
             .op (some 23) (.mov (.t 25))])
          (.keep [3, 4, 23] (.cond (.t 23)
           (.seq (.ops [.op (some 26) (.fadr (.t 3) 1),
               .op (some 27) (.load1 (.t 26)),
               .op (some 28) (.bin .eql (.t 27) (.k (.int .i64 0))),
               .call (some 29) 94 [.t 28],
               .op none (.store 3 (.t 4) (.t 29)),
               .op (some 5) (.mov (.k (.int .i64 0)))])
            (.keep [4, 5] (.ret)))
           (.skip))))))))))))))
  (.keep [3, 4] (.seq (.ops [.op (some 30) (.fadr (.t 3) 1),
     .op (some 31) (.load1 (.t 30)),
     .op (some 32) (.neg (.t 31)),
     .call (some 33) 106 [.t 32],
     .op none (.store 3 (.t 4) (.t 33)),
     .op (some 5) (.mov (.k (.int .i64 0)))])
  (.keep [4, 5] (.ret))))))
theorem k_c_unary_fits : fitsF Try.prog 90 ⟨34, k_c_unary, [.cN 4 3, .t 5]⟩ = true := by kernel_rfl
theorem c_unary {op : Int} {a : GValue} (ha : RV a) : Con Try.prog noMv 90 [int op, a.av] [] (fun r h => r = .tup [(unF op a).1.av, int (unF op a).2] ∧ h = []) := by
  refine con_of2 k_c_unary_fits rfl fun C hP hmv => ?_
  unfold k_c_unary
  have hn := ha.n
  refine cx_seq ?_
  refine cx_ops ?_
  refine ax_e (e_box rfl rfl (by decide) rfl rfl rfl) ?_
  refine ax_e (e_alloc (by decide) rfl rfl) ?_
  refine ax_q (q_mov rfl) ?_
  refine ax_nil ?_
  refine cx_keep rfl rfl ?_
  refine cx_seq ?_
  refine cx_block ?_
  refine cx_seq ?_
  refine cx_ops ?_
  refine ax_q (q_mov rfl) ?_
  refine ax_q (q_ibin rfl rfl rfl) ?_
  refine ax_q (q_mov rfl) ?_
  refine ax_nil ?_
  refine cx_keep rfl rfl ?_
  refine cx_cond rfl (fun h0 => ?_) (fun h0 => ?_)
  · have h0 := dT h0
    refine cx_seq ?_
    refine cx_ops ?_
    first | refine ax_q (q_fadr_ptr rfl) ?_ | refine ax_q (q_fadr_rptr rfl) ?_ | refine ax_q (q_fadr_ip rfl) ?_
    first | refine ax_q (q_load1_ptr rfl rfl rfl) ?_ | refine ax_q (q_load1_ip rfl) ?_ | refine ax_q (q_load1_rptr rfl rfl rfl rfl) ?_ | refine ax_q (q_load1_rptr rfl rfl (by assumption) rfl) ?_ | refine ax_q (q_load1_rptr rfl rfl (mapAt (by first | assumption | omega)) rfl) ?_
    refine ax_q (q_ibin rfl rfl rfl) ?_
    first | refine ax_call rfl (vc_pure0 (c_truth  ) hP rfl rfl ?_) | refine ax_call rfl (vc_lend0 (c_truth  ) hP (by repeat (first | exact lal_id _ rfl | exact LAL.nil | refine LAL.cons ?_ ?_ | exact la_id _ rfl | exact LA.lend (lend_whole rfl (by first | (simp; done) | (rw [List.length_map]; rfl))) | refine LA.agg ?_ | refine LA.fn ?_ | refine LA.lend ?_ | exact Lend.d _ | exact Lend.zs _ | exact lend_whole rfl (by first | (simp; done) | (rw [List.length_map]; rfl)) | refine Lend.ptr rfl ?_ | refine Lend.fn ?_ | exact LendL.nil | refine LendL.cons ?_ ?_)) rfl rfl ?_)
    refine ax_e (e_st rfl rfl rfl rfl rfl rfl rfl) ?_
    refine ax_q (q_mov rfl) ?_
    refine ax_nil ?_
    refine cx_keep rfl rfl ?_
    refine cx_ret (ret0 rfl rfl ?_)
    have e : unF op a = (vB (decide (a.Kind = 0)), 0) := by unfold unF; rw [if_pos (by omega)]
    exact ⟨by rw [e]; rfl, rfl⟩
  · have h0 := dF h0
    refine cx_seq ?_
    refine cx_ops ?_
    first | refine ax_q (q_fadr_ptr rfl) ?_ | refine ax_q (q_fadr_rptr rfl) ?_ | refine ax_q (q_fadr_ip rfl) ?_
    first | refine ax_q (q_load1_ptr rfl rfl rfl) ?_ | refine ax_q (q_load1_ip rfl) ?_ | refine ax_q (q_load1_rptr rfl rfl rfl rfl) ?_ | refine ax_q (q_load1_rptr rfl rfl (by assumption) rfl) ?_ | refine ax_q (q_load1_rptr rfl rfl (mapAt (by first | assumption | omega)) rfl) ?_
    refine ax_q (q_ibin rfl rfl rfl) ?_
    refine ax_q (q_mov rfl) ?_
    refine ax_nil ?_
    refine cx_keep rfl rfl ?_
    refine cx_cond rfl (fun h1 => ?_) (fun h1 => ?_)
    · have h1 := dT h1
      refine cx_seq ?_
      refine cx_ops ?_
      refine ax_q (q_build rfl) ?_
      refine ax_e (e_st rfl rfl rfl rfl rfl rfl rfl) ?_
      refine ax_q (q_mov rfl) ?_
      refine ax_nil ?_
      refine cx_keep rfl rfl ?_
      refine cx_ret (ret0 rfl rfl ?_)
      have e : unF op a = (.zero, 10) := by unfold unF; rw [if_neg (by omega), if_pos (by omega)]
      exact ⟨by rw [e]; rfl, rfl⟩
    · have h1 := dF h1
      refine cx_seq ?_
      refine cx_ops ?_
      first | refine ax_q (q_fadr_ptr rfl) ?_ | refine ax_q (q_fadr_rptr rfl) ?_ | refine ax_q (q_fadr_ip rfl) ?_
      first | refine ax_q (q_load1_ptr rfl rfl rfl) ?_ | refine ax_q (q_load1_ip rfl) ?_ | refine ax_q (q_load1_rptr rfl rfl rfl rfl) ?_ | refine ax_q (q_load1_rptr rfl rfl (by assumption) rfl) ?_ | refine ax_q (q_load1_rptr rfl rfl (mapAt (by first | assumption | omega)) rfl) ?_
      refine ax_q (q_ibin rfl rfl rfl) ?_
      refine ax_q (q_mov rfl) ?_
      refine ax_nil ?_
      refine cx_keep rfl rfl ?_
      refine cx_cond rfl (fun h2 => ?_) (fun h2 => ?_)
      · have h2 := dT h2
        refine cx_seq ?_
        refine cx_ops ?_
        refine ax_q (q_build rfl) ?_
        refine ax_e (e_st rfl rfl rfl rfl rfl rfl rfl) ?_
        refine ax_q (q_mov rfl) ?_
        refine ax_nil ?_
        refine cx_keep rfl rfl ?_
        refine cx_ret (ret0 rfl rfl ?_)
        have e : unF op a = (.zero, 0) := by unfold unF; rw [if_neg (by omega), if_neg (by omega), if_pos (by omega)]
        exact ⟨by rw [e]; rfl, rfl⟩
      · have h2 := dF h2
        refine cx_seq ?_
        refine cx_ops ?_
        refine ax_q (q_mov rfl) ?_
        refine ax_q (q_ibin rfl rfl rfl) ?_
        refine ax_q (q_mov rfl) ?_
        refine ax_nil ?_
        refine cx_keep rfl rfl ?_
        refine cx_cond rfl (fun h3 => ?_) (fun h3 => ?_)
        · have h3 := dT h3
          refine cx_seq ?_
          refine cx_ops ?_
          first | refine ax_q (q_fadr_ptr rfl) ?_ | refine ax_q (q_fadr_rptr rfl) ?_ | refine ax_q (q_fadr_ip rfl) ?_
          first | refine ax_q (q_load1_ptr rfl rfl rfl) ?_ | refine ax_q (q_load1_ip rfl) ?_ | refine ax_q (q_load1_rptr rfl rfl rfl rfl) ?_ | refine ax_q (q_load1_rptr rfl rfl (by assumption) rfl) ?_ | refine ax_q (q_load1_rptr rfl rfl (mapAt (by first | assumption | omega)) rfl) ?_
          refine ax_q (q_ibin rfl rfl rfl) ?_
          first | refine ax_call rfl (vc_pure0 (c_truth  ) hP rfl rfl ?_) | refine ax_call rfl (vc_lend0 (c_truth  ) hP (by repeat (first | exact lal_id _ rfl | exact LAL.nil | refine LAL.cons ?_ ?_ | exact la_id _ rfl | exact LA.lend (lend_whole rfl (by first | (simp; done) | (rw [List.length_map]; rfl))) | refine LA.agg ?_ | refine LA.fn ?_ | refine LA.lend ?_ | exact Lend.d _ | exact Lend.zs _ | exact lend_whole rfl (by first | (simp; done) | (rw [List.length_map]; rfl)) | refine Lend.ptr rfl ?_ | refine Lend.fn ?_ | exact LendL.nil | refine LendL.cons ?_ ?_)) rfl rfl ?_)
          refine ax_e (e_st rfl rfl rfl rfl rfl rfl rfl) ?_
          refine ax_q (q_mov rfl) ?_
          refine ax_nil ?_
          refine cx_keep rfl rfl ?_
          refine cx_ret (ret0 rfl rfl ?_)
          have e : unF op a = (vB (decide (a.N = 0)), 0) := by unfold unF; rw [if_neg (by omega), if_neg (by omega), if_neg (by omega), if_pos (by omega)]
          exact ⟨by rw [e]; rfl, rfl⟩
        · have h3 := dF h3
          refine cx_skip ?_
          refine cx_keep rfl rfl ?_
          refine cx_seq ?_
          refine cx_ops ?_
          first | refine ax_q (q_fadr_ptr rfl) ?_ | refine ax_q (q_fadr_rptr rfl) ?_ | refine ax_q (q_fadr_ip rfl) ?_
          first | refine ax_q (q_load1_ptr rfl rfl rfl) ?_ | refine ax_q (q_load1_ip rfl) ?_ | refine ax_q (q_load1_rptr rfl rfl rfl rfl) ?_ | refine ax_q (q_load1_rptr rfl rfl (by assumption) rfl) ?_ | refine ax_q (q_load1_rptr rfl rfl (mapAt (by first | assumption | omega)) rfl) ?_
          first | refine ax_q (q_negI rfl (by omega)) ?_ | refine ax_q (q_neg rfl) ?_
          first | refine ax_call rfl (vc_pure0 (c_numberValue  ) hP rfl rfl ?_) | refine ax_call rfl (vc_lend0 (c_numberValue  ) hP (by repeat (first | exact lal_id _ rfl | exact LAL.nil | refine LAL.cons ?_ ?_ | exact la_id _ rfl | exact LA.lend (lend_whole rfl (by first | (simp; done) | (rw [List.length_map]; rfl))) | refine LA.agg ?_ | refine LA.fn ?_ | refine LA.lend ?_ | exact Lend.d _ | exact Lend.zs _ | exact lend_whole rfl (by first | (simp; done) | (rw [List.length_map]; rfl)) | refine Lend.ptr rfl ?_ | refine Lend.fn ?_ | exact LendL.nil | refine LendL.cons ?_ ?_)) rfl rfl ?_)
          refine ax_e (e_st rfl rfl rfl rfl rfl rfl rfl) ?_
          refine ax_q (q_mov rfl) ?_
          refine ax_nil ?_
          refine cx_keep rfl rfl ?_
          refine cx_ret (ret0 rfl rfl ?_)
          have e : unF op a = (vI (-a.N), 0) := by unfold unF; rw [if_neg (by omega), if_neg (by omega), if_neg (by omega), if_neg (by omega)]
          exact ⟨by rw [e]; rfl, rfl⟩


/- loop.example/g00332/impl.isZero -/
def k_c_isZero : XCode :=
  .seq (.ops [.op (some 1) (.box (.t 0)),
     .op (some 2) (.mov (.k (.bool false)))])
  (.keep [1] (.seq (.ops [.op (some 3) (.loadN 3 (.t 1)),
     .op (some 4) (.build [.int .i64 0, .int .i64 0, .str []] [(0, 1, .k (.int .i64 1))]),
     .op (some 5) (.eqs false [0, 0, 2] (.t 3) (.t 4)),
     .op (some 2) (.mov (.t 5))])
  (.keep [2] (.ret))))
theorem k_c_isZero_fits : fitsF Try.prog 92 ⟨6, k_c_isZero, [.t 2]⟩ = true := by kernel_rfl
theorem c_isZero {v : GValue} (hv : RV v) : Con Try.prog noMv 92 [v.av] [] (fun r h => r = bool (isZ v) ∧ h = []) := by
  refine con_of2 k_c_isZero_fits rfl fun C hP hmv => ?_
  unfold k_c_isZero
  refine cx_seq ?_
  refine cx_ops ?_
  refine ax_e (e_box rfl rfl (by decide) rfl rfl rfl) ?_
  refine ax_q (q_mov rfl) ?_
  refine ax_nil ?_
  refine cx_keep rfl rfl ?_
  refine cx_seq ?_
  refine cx_ops ?_
  first | refine ax_q (q_ldN rfl rfl rfl) ?_ | refine ax_q (q_loadN_ip rfl (Nat.le_refl _)) ?_ | refine ax_q (q_loadN_ip rfl (by decide)) ?_ | refine ax_q (q_loadN_rptr rfl rfl (by assumption) (by decide)) ?_ | refine ax_q (q_loadN_rptr rfl rfl (mapAt (by first | assumption | omega)) (by decide)) ?_
  refine ax_q (q_build rfl) ?_
  first | refine ax_q (GValue.q_eqs rfl rfl) ?_ | refine ax_q (q_eqs rfl rfl rfl) ?_
  refine ax_q (q_mov rfl) ?_
  refine ax_nil ?_
  refine cx_keep rfl rfl ?_
  refine cx_ret (ret0 rfl rfl ?_)
  exact ⟨by rw [← RV.eqZ hv, eqV_eq]; rfl, rfl⟩


/- loop.example/g00332/impl.isOther -/
def k_c_isOther : XCode :=
  .seq (.ops [.op (some 1) (.box (.t 0)),
     .op (some 2) (.mov (.k (.bool false)))])
  (.keep [1] (.seq (.ops [.op (some 3) (.fadr (.t 1) 0),
     .op (some 4) (.load1 (.t 3)),
     .op (some 5) (.bin .eql (.t 4) (.k (.int .i64 1))),
     .op (some 6) (.mov (.t 5)),
     .andor 10 true 3 6 [.op (some 7) (.fadr (.t 1) 1), .op (some 8) (.load1 (.t 7)), .op (some 9) (.bin .neq (.t 8) (.k (.int .i64 0)))] (.t 9),
     .op (some 2) (.mov (.t 10))])
  (.keep [2] (.ret))))
theorem k_c_isOther_fits : fitsF Try.prog 93 ⟨11, k_c_isOther, [.t 2]⟩ = true := by kernel_rfl
theorem c_isOther {v : GValue} : Con Try.prog noMv 93 [v.av] [] (fun r h => r = bool (isO v) ∧ h = []) := by
  refine con_of2 k_c_isOther_fits rfl fun C hP hmv => ?_
  unfold k_c_isOther
  refine cx_seq ?_
  refine cx_ops ?_
  refine ax_e (e_box rfl rfl (by decide) rfl rfl rfl) ?_
  refine ax_q (q_mov rfl) ?_
  refine ax_nil ?_
  refine cx_keep rfl rfl ?_
  refine cx_seq ?_
  refine cx_ops ?_
  first | refine ax_q (q_fadr_ptr rfl) ?_ | refine ax_q (q_fadr_rptr rfl) ?_ | refine ax_q (q_fadr_ip rfl) ?_
  first | refine ax_q (q_load1_ptr rfl rfl rfl) ?_ | refine ax_q (q_load1_ip rfl) ?_ | refine ax_q (q_load1_rptr rfl rfl rfl rfl) ?_ | refine ax_q (q_load1_rptr rfl rfl (by assumption) rfl) ?_ | refine ax_q (q_load1_rptr rfl rfl (mapAt (by first | assumption | omega)) rfl) ?_
  refine ax_q (q_ibin rfl rfl rfl) ?_
  refine ax_q (q_mov rfl) ?_
  apply ax_and rfl rfl
  · intro g
    have g := dT g
    first | refine ax_q (q_fadr_ptr rfl) ?_ | refine ax_q (q_fadr_rptr rfl) ?_ | refine ax_q (q_fadr_ip rfl) ?_
    first | refine ax_q (q_load1_ptr rfl rfl rfl) ?_ | refine ax_q (q_load1_ip rfl) ?_ | refine ax_q (q_load1_rptr rfl rfl rfl rfl) ?_ | refine ax_q (q_load1_rptr rfl rfl (by assumption) rfl) ?_ | refine ax_q (q_load1_rptr rfl rfl (mapAt (by first | assumption | omega)) rfl) ?_
    refine ax_q (q_ibin rfl rfl rfl) ?_
    exact ax_nil ⟨rfl, by repeat (first | exact trivial | refine ⟨rfl, ?_⟩ | refine ⟨?_, ?_⟩)⟩
  refine ax_q (q_mov rfl) ?_
  refine ax_nil ?_
  refine cx_keep rfl rfl ?_
  refine cx_ret (ret0 rfl rfl ?_)
  exact ⟨rfl, rfl⟩


/- loop.example/g00332/impl.connect -/
def k_c_connect : XCode :=
  .seq (.ops [.op (some 4) (.box (.t 1)),
     .op (some 5) (.box (.t 2)),
     .op (some 6) (.alloc [.int .i64 0, .int .i64 0, .str []]),
     .op (some 7) (.mov (.k (.int .i64 0)))])
  (.keep [0, 4, 5, 6] (.seq (.block 0 (.seq (.ops [.op (some 9) (.fadr (.t 4) 0),
       .op (some 10) (.load1 (.t 9)),
       .op (some 11) (.bin .eql (.t 10) (.k (.int .i64 2))),
       .op (some 12) (.mov (.t 11)),
       .andor 16 false 3 12 [.op (some 13) (.fadr (.t 5) 0), .op (some 14) (.load1 (.t 13)), .op (some 15) (.bin .eql (.t 14) (.k (.int .i64 2)))] (.t 15),
       .op (some 8) (.mov (.t 16))])
    (.keep [0, 4, 5, 6, 8] (.cond (.t 8)
     (.seq (.ops [.op (some 17) (.build [.int .i64 0, .int .i64 0, .str []] []),
         .op none (.store 3 (.t 6) (.t 17)),
         .op (some 7) (.mov (.k (.int .i64 10)))])
      (.keep [6, 7] (.ret)))
     (.seq (.ops [.op (some 19) (.mov (.t 0)),
         .op (some 20) (.bin .eql (.t 19) (.k (.int .i64 12))),
         .op (some 21) (.mov (.t 20)),
         .andor 28 true 2 21 [.op (some 22) (.loadN 3 (.t 4)), .call (some 23) 92 [.t 22], .op (some 24) (.mov (.t 23)), .andor 27 false 5 24 [.op (some 25) (.loadN 3 (.t 5)), .call (some 26) 92 [.t 25]] (.t 26)] (.t 27),
         .op (some 18) (.mov (.t 28))])
      (.keep [0, 4, 5, 6, 18] (.cond (.t 18)
       (.seq (.ops [.call (some 29) 94 [.k (.bool false)],
           .op none (.store 3 (.t 6) (.t 29)),
           .op (some 7) (.mov (.k (.int .i64 0)))])
        (.keep [6, 7] (.ret)))
       (.seq (.ops [.op (some 31) (.mov (.t 0)),
           .op (some 32) (.bin .eql (.t 31) (.k (.int .i64 13))),
           .op (some 33) (.mov (.t 32)),
           .andor 40 true 2 33 [.op (some 34) (.loadN 3 (.t 4)), .call (some 35) 93 [.t 34], .op (some 36) (.mov (.t 35)), .andor 39 false 5 36 [.op (some 37) (.loadN 3 (.t 5)), .call (some 38) 93 [.t 37]] (.t 38)] (.t 39),
           .op (some 30) (.mov (.t 40))])
        (.keep [0, 4, 5, 6, 30] (.cond (.t 30)
         (.seq (.ops [.call (some 41) 94 [.k (.bool true)],
             .op none (.store 3 (.t 6) (.t 41)),
             .op (some 7) (.mov (.k (.int .i64 0)))])
          (.keep [6, 7] (.ret)))
         (.seq (.ops [.op (some 43) (.fadr (.t 4) 0),
             .op (some 44) (.load1 (.t 43)),
             .op (some 45) (.bin .eql (.t 44) (.k (.int .i64 0))),
             .op (some 46) (.mov (.t 45)),
             .andor 50 false 3 46 [.op (some 47) (.fadr (.t 5) 0), .op (some 48) (.load1 (.t 47)), .op (some 49) (.bin .eql (.t 48) (.k (.int .i64 0)))] (.t 49),
             .op (some 42) (.mov (.t 50))])
          (.keep [0, 6, 42] (.cond (.t 42)
           (.seq (.ops [.op (some 51) (.build [.int .i64 0, .int .i64 0, .str []] []),
               .op none (.store 3 (.t 6) (.t 51)),
               .op (some 7) (.mov (.k (.int .i64 0)))])
            (.keep [6, 7] (.ret)))
           (.skip))))))))))))))
  (.keep [0, 6] (.seq (.ops [.op (some 52) (.mov (.t 0)),
     .op (some 53) (.bin .eql (.t 52) (.k (.int .i64 12))),
     .call (some 54) 94 [.t 53],
     .op none (.store 3 (.t 6) (.t 54)),
     .op (some 7) (.mov (.k (.int .i64 0)))])
  (.keep [6, 7] (.ret))))))
theorem k_c_connect_fits : fitsF Try.prog 107 ⟨55, k_c_connect, [.cN 6 3, .t 7]⟩ = true := by kernel_rfl
theorem c_connect {op : Int} {a b : GValue} (ha : RV a) (hb : RV b) : Con Try.prog noMv 107 [int op, a.av, b.av] [] (fun r h => r = .tup [(conF op a b).1.av, int (conF op a b).2] ∧ h = []) := by
  refine con_of2 k_c_connect_fits rfl fun C hP hmv => ?_
  unfold k_c_connect
  refine cx_seq ?_
  refine cx_ops ?_
  refine ax_e (e_box rfl rfl (by decide) rfl rfl rfl) ?_
  refine ax_e (e_box rfl rfl (by decide) rfl rfl rfl) ?_
  refine ax_e (e_alloc (by decide) rfl rfl) ?_
  refine ax_q (q_mov rfl) ?_
  refine ax_nil ?_
  refine cx_keep rfl rfl ?_
  refine cx_seq ?_
  refine cx_block ?_
  refine cx_seq ?_
  refine cx_ops ?_
  first | refine ax_q (q_fadr_ptr rfl) ?_ | refine ax_q (q_fadr_rptr rfl) ?_ | refine ax_q (q_fadr_ip rfl) ?_
  first | refine ax_q (q_load1_ptr rfl rfl rfl) ?_ | refine ax_q (q_load1_ip rfl) ?_ | refine ax_q (q_load1_rptr rfl rfl rfl rfl) ?_ | refine ax_q (q_load1_rptr rfl rfl (by assumption) rfl) ?_ | refine ax_q (q_load1_rptr rfl rfl (mapAt (by first | assumption | omega)) rfl) ?_
  refine ax_q (q_ibin rfl rfl rfl) ?_
  refine ax_q (q_mov rfl) ?_
  apply ax_or rfl rfl
  · intro g
    have g := dF g
    first | refine ax_q (q_fadr_ptr rfl) ?_ | refine ax_q (q_fadr_rptr rfl) ?_ | refine ax_q (q_fadr_ip rfl) ?_
    first | refine ax_q (q_load1_ptr rfl rfl rfl) ?_ | refine ax_q (q_load1_ip rfl) ?_ | refine ax_q (q_load1_rptr rfl rfl rfl rfl) ?_ | refine ax_q (q_load1_rptr rfl rfl (by assumption) rfl) ?_ | refine ax_q (q_load1_rptr rfl rfl (mapAt (by first | assumption | omega)) rfl) ?_
    refine ax_q (q_ibin rfl rfl rfl) ?_
    exact ax_nil ⟨rfl, by repeat (first | exact trivial | refine ⟨rfl, ?_⟩ | refine ⟨?_, ?_⟩)⟩
  refine ax_q (q_mov rfl) ?_
  refine ax_nil ?_
  refine cx_keep rfl rfl ?_
  refine cx_cond rfl (fun h0 => ?_) (fun h0 => ?_)
  · have h0 := (fun h => (or_T h).imp dT dT) h0
    refine cx_seq ?_
    refine cx_ops ?_
    refine ax_q (q_build rfl) ?_
    refine ax_e (e_st rfl rfl rfl rfl rfl rfl rfl) ?_
    refine ax_q (q_mov rfl) ?_
    refine ax_nil ?_
    refine cx_keep rfl rfl ?_
    refine cx_ret (ret0 rfl rfl ?_)
    have e : conF op a b = (.zero, 10) := by unfold conF; rw [if_pos h0]
    exact ⟨by rw [e]; rfl, rfl⟩
  · have h0 := (fun h => And.intro (dF (or_F h).1) (dF (or_F h).2)) h0
    refine cx_seq ?_
    refine cx_ops ?_
    refine ax_q (q_mov rfl) ?_
    refine ax_q (q_ibin rfl rfl rfl) ?_
    refine ax_q (q_mov rfl) ?_
    apply ax_and rfl rfl
    · intro g
      have g := dT g
      first | refine ax_q (q_ldN rfl rfl rfl) ?_ | refine ax_q (q_loadN_ip rfl (Nat.le_refl _)) ?_ | refine ax_q (q_loadN_ip rfl (by decide)) ?_ | refine ax_q (q_loadN_rptr rfl rfl (by assumption) (by decide)) ?_ | refine ax_q (q_loadN_rptr rfl rfl (mapAt (by first | assumption | omega)) (by decide)) ?_
      first | refine ax_call rfl (vc_pure0 (c_isZero (v := a) ?_) hP rfl rfl ?_) | refine ax_call rfl (vc_lend0 (c_isZero (v := a) ?_) hP (by repeat (first | exact lal_id _ rfl | exact LAL.nil | refine LAL.cons ?_ ?_ | exact la_id _ rfl | exact LA.lend (lend_whole rfl (by first | (simp; done) | (rw [List.length_map]; rfl))) | refine LA.agg ?_ | refine LA.fn ?_ | refine LA.lend ?_ | exact Lend.d _ | exact Lend.zs _ | exact lend_whole rfl (by first | (simp; done) | (rw [List.length_map]; rfl)) | refine Lend.ptr rfl ?_ | refine Lend.fn ?_ | exact LendL.nil | refine LendL.cons ?_ ?_)) rfl rfl ?_)
      · first | assumption | omega | (simp; done) | (simp; omega)
      refine ax_q (q_mov rfl) ?_
      apply ax_or rfl rfl
      · intro g
        first | refine ax_q (q_ldN rfl rfl rfl) ?_ | refine ax_q (q_loadN_ip rfl (Nat.le_refl _)) ?_ | refine ax_q (q_loadN_ip rfl (by decide)) ?_ | refine ax_q (q_loadN_rptr rfl rfl (by assumption) (by decide)) ?_ | refine ax_q (q_loadN_rptr rfl rfl (mapAt (by first | assumption | omega)) (by decide)) ?_
        first | refine ax_call rfl (vc_pure0 (c_isZero (v := b) ?_) hP rfl rfl ?_) | refine ax_call rfl (vc_lend0 (c_isZero (v := b) ?_) hP (by repeat (first | exact lal_id _ rfl | exact LAL.nil | refine LAL.cons ?_ ?_ | exact la_id _ rfl | exact LA.lend (lend_whole rfl (by first | (simp; done) | (rw [List.length_map]; rfl))) | refine LA.agg ?_ | refine LA.fn ?_ | refine LA.lend ?_ | exact Lend.d _ | exact Lend.zs _ | exact lend_whole rfl (by first | (simp; done) | (rw [List.length_map]; rfl)) | refine Lend.ptr rfl ?_ | refine Lend.fn ?_ | exact LendL.nil | refine LendL.cons ?_ ?_)) rfl rfl ?_)
        · first | assumption | omega | (simp; done) | (simp; omega)
        exact ax_nil ⟨rfl, by repeat (first | exact trivial | refine ⟨rfl, ?_⟩ | refine ⟨?_, ?_⟩)⟩
      exact ax_nil ⟨rfl, by repeat (first | exact trivial | refine ⟨rfl, ?_⟩ | refine ⟨?_, ?_⟩)⟩
    refine ax_q (q_mov rfl) ?_
    refine ax_nil ?_
    refine cx_keep rfl rfl ?_
    refine cx_cond rfl (fun h1 => ?_) (fun h1 => ?_)
    · have h1 := (fun h => And.intro (dT (and_T h).1) ((fun h => (or_T h).imp id id) (and_T h).2)) h1
      refine cx_seq ?_
      refine cx_ops ?_
      first | refine ax_call rfl (vc_pure0 (c_truth  ) hP rfl rfl ?_) | refine ax_call rfl (vc_lend0 (c_truth  ) hP (by repeat (first | exact lal_id _ rfl | exact LAL.nil | refine LAL.cons ?_ ?_ | exact la_id _ rfl | exact LA.lend (lend_whole rfl (by first | (simp; done) | (rw [List.length_map]; rfl))) | refine LA.agg ?_ | refine LA.fn ?_ | refine LA.lend ?_ | exact Lend.d _ | exact Lend.zs _ | exact lend_whole rfl (by first | (simp; done) | (rw [List.length_map]; rfl)) | refine Lend.ptr rfl ?_ | refine Lend.fn ?_ | exact LendL.nil | refine LendL.cons ?_ ?_)) rfl rfl ?_)
      refine ax_e (e_st rfl rfl rfl rfl rfl rfl rfl) ?_
      refine ax_q (q_mov rfl) ?_
      refine ax_nil ?_
      refine cx_keep rfl rfl ?_
      refine cx_ret (ret0 rfl rfl ?_)
      have e : conF op a b = (vI 0, 0) := by unfold conF; rw [if_neg (by omega), if_pos h1]
      exact ⟨by rw [e]; rfl, rfl⟩
    · have h1 := (fun h => (and_F h).imp dF (fun h => And.intro (id (or_F h).1) (id (or_F h).2))) h1
      refine cx_seq ?_
      refine cx_ops ?_
      refine ax_q (q_mov rfl) ?_
      refine ax_q (q_ibin rfl rfl rfl) ?_
      refine ax_q (q_mov rfl) ?_
      apply ax_and rfl rfl
      · intro g
        have g := dT g
        first | refine ax_q (q_ldN rfl rfl rfl) ?_ | refine ax_q (q_loadN_ip rfl (Nat.le_refl _)) ?_ | refine ax_q (q_loadN_ip rfl (by decide)) ?_ | refine ax_q (q_loadN_rptr rfl rfl (by assumption) (by decide)) ?_ | refine ax_q (q_loadN_rptr rfl rfl (mapAt (by first | assumption | omega)) (by decide)) ?_
        first | refine ax_call rfl (vc_pure0 (c_isOther (v := a) ) hP rfl rfl ?_) | refine ax_call rfl (vc_lend0 (c_isOther (v := a) ) hP (by repeat (first | exact lal_id _ rfl | exact LAL.nil | refine LAL.cons ?_ ?_ | exact la_id _ rfl | exact LA.lend (lend_whole rfl (by first | (simp; done) | (rw [List.length_map]; rfl))) | refine LA.agg ?_ | refine LA.fn ?_ | refine LA.lend ?_ | exact Lend.d _ | exact Lend.zs _ | exact lend_whole rfl (by first | (simp; done) | (rw [List.length_map]; rfl)) | refine Lend.ptr rfl ?_ | refine Lend.fn ?_ | exact LendL.nil | refine LendL.cons ?_ ?_)) rfl rfl ?_)
        refine ax_q (q_mov rfl) ?_
        apply ax_or rfl rfl
        · intro g
          first | refine ax_q (q_ldN rfl rfl rfl) ?_ | refine ax_q (q_loadN_ip rfl (Nat.le_refl _)) ?_ | refine ax_q (q_loadN_ip rfl (by decide)) ?_ | refine ax_q (q_loadN_rptr rfl rfl (by assumption) (by decide)) ?_ | refine ax_q (q_loadN_rptr rfl rfl (mapAt (by first | assumption | omega)) (by decide)) ?_
          first | refine ax_call rfl (vc_pure0 (c_isOther (v := b) ) hP rfl rfl ?_) | refine ax_call rfl (vc_lend0 (c_isOther (v := b) ) hP (by repeat (first | exact lal_id _ rfl | exact LAL.nil | refine LAL.cons ?_ ?_ | exact la_id _ rfl | exact LA.lend (lend_whole rfl (by first | (simp; done) | (rw [List.length_map]; rfl))) | refine LA.agg ?_ | refine LA.fn ?_ | refine LA.lend ?_ | exact Lend.d _ | exact Lend.zs _ | exact lend_whole rfl (by first | (simp; done) | (rw [List.length_map]; rfl)) | refine Lend.ptr rfl ?_ | refine Lend.fn ?_ | exact LendL.nil | refine LendL.cons ?_ ?_)) rfl rfl ?_)
          exact ax_nil ⟨rfl, by repeat (first | exact trivial | refine ⟨rfl, ?_⟩ | refine ⟨?_, ?_⟩)⟩
        exact ax_nil ⟨rfl, by repeat (first | exact trivial | refine ⟨rfl, ?_⟩ | refine ⟨?_, ?_⟩)⟩
      refine ax_q (q_mov rfl) ?_
      refine ax_nil ?_
      refine cx_keep rfl rfl ?_
      refine cx_cond rfl (fun h2 => ?_) (fun h2 => ?_)
      · have h2 := (fun h => And.intro (dT (and_T h).1) ((fun h => (or_T h).imp id id) (and_T h).2)) h2
        refine cx_seq ?_
        refine cx_ops ?_
        first | refine ax_call rfl (vc_pure0 (c_truth  ) hP rfl rfl ?_) | refine ax_call rfl (vc_lend0 (c_truth  ) hP (by repeat (first | exact lal_id _ rfl | exact LAL.nil | refine LAL.cons ?_ ?_ | exact la_id _ rfl | exact LA.lend (lend_whole rfl (by first | (simp; done) | (rw [List.length_map]; rfl))) | refine LA.agg ?_ | refine LA.fn ?_ | refine LA.lend ?_ | exact Lend.d _ | exact Lend.zs _ | exact lend_whole rfl (by first | (simp; done) | (rw [List.length_map]; rfl)) | refine Lend.ptr rfl ?_ | refine Lend.fn ?_ | exact LendL.nil | refine LendL.cons ?_ ?_)) rfl rfl ?_)
        refine ax_e (e_st rfl rfl rfl rfl rfl rfl rfl) ?_
        refine ax_q (q_mov rfl) ?_
        refine ax_nil ?_
        refine cx_keep rfl rfl ?_
        refine cx_ret (ret0 rfl rfl ?_)
        have e : conF op a b = (vI 1, 0) := by unfold conF; rw [if_neg (by omega), if_neg (nAOO h1), if_pos h2]
        exact ⟨by rw [e]; rfl, rfl⟩
      · have h2 := (fun h => (and_F h).imp dF (fun h => And.intro (id (or_F h).1) (id (or_F h).2))) h2
        refine cx_seq ?_
        refine cx_ops ?_
        first | refine ax_q (q_fadr_ptr rfl) ?_ | refine ax_q (q_fadr_rptr rfl) ?_ | refine ax_q (q_fadr_ip rfl) ?_
        first | refine ax_q (q_load1_ptr rfl rfl rfl) ?_ | refine ax_q (q_load1_ip rfl) ?_ | refine ax_q (q_load1_rptr rfl rfl rfl rfl) ?_ | refine ax_q (q_load1_rptr rfl rfl (by assumption) rfl) ?_ | refine ax_q (q_load1_rptr rfl rfl (mapAt (by first | assumption | omega)) rfl) ?_
        refine ax_q (q_ibin rfl rfl rfl) ?_
        refine ax_q (q_mov rfl) ?_
        apply ax_or rfl rfl
        · intro g
          have g := dF g
          first | refine ax_q (q_fadr_ptr rfl) ?_ | refine ax_q (q_fadr_rptr rfl) ?_ | refine ax_q (q_fadr_ip rfl) ?_
          first | refine ax_q (q_load1_ptr rfl rfl rfl) ?_ | refine ax_q (q_load1_ip rfl) ?_ | refine ax_q (q_load1_rptr rfl rfl rfl rfl) ?_ | refine ax_q (q_load1_rptr rfl rfl (by assumption) rfl) ?_ | refine ax_q (q_load1_rptr rfl rfl (mapAt (by first | assumption | omega)) rfl) ?_
          refine ax_q (q_ibin rfl rfl rfl) ?_
          exact ax_nil ⟨rfl, by repeat (first | exact trivial | refine ⟨rfl, ?_⟩ | refine ⟨?_, ?_⟩)⟩
        refine ax_q (q_mov rfl) ?_
        refine ax_nil ?_
        refine cx_keep rfl rfl ?_
        refine cx_cond rfl (fun h3 => ?_) (fun h3 => ?_)
        · have h3 := (fun h => (or_T h).imp dT dT) h3
          refine cx_seq ?_
          refine cx_ops ?_
          refine ax_q (q_build rfl) ?_
          refine ax_e (e_st rfl rfl rfl rfl rfl rfl rfl) ?_
          refine ax_q (q_mov rfl) ?_
          refine ax_nil ?_
          refine cx_keep rfl rfl ?_
          refine cx_ret (ret0 rfl rfl ?_)
          have e : conF op a b = (.zero, 0) := by unfold conF; rw [if_neg (by omega), if_neg (nAOO h1), if_neg (nAOO h2), if_pos h3]
          exact ⟨by rw [e]; rfl, rfl⟩
        · have h3 := (fun h => And.intro (dF (or_F h).1) (dF (or_F h).2)) h3
          refine cx_skip ?_
          refine cx_keep rfl rfl ?_
          refine cx_seq ?_
          refine cx_ops ?_
          refine ax_q (q_mov rfl) ?_
          refine ax_q (q_ibin rfl rfl rfl) ?_
          first | refine ax_call rfl (vc_pure0 (c_truth  ) hP rfl rfl ?_) | refine ax_call rfl (vc_lend0 (c_truth  ) hP (by repeat (first | exact lal_id _ rfl | exact LAL.nil | refine LAL.cons ?_ ?_ | exact la_id _ rfl | exact LA.lend (lend_whole rfl (by first | (simp; done) | (rw [List.length_map]; rfl))) | refine LA.agg ?_ | refine LA.fn ?_ | refine LA.lend ?_ | exact Lend.d _ | exact Lend.zs _ | exact lend_whole rfl (by first | (simp; done) | (rw [List.length_map]; rfl)) | refine Lend.ptr rfl ?_ | refine Lend.fn ?_ | exact LendL.nil | refine LendL.cons ?_ ?_)) rfl rfl ?_)
          refine ax_e (e_st rfl rfl rfl rfl rfl rfl rfl) ?_
          refine ax_q (q_mov rfl) ?_
          refine ax_nil ?_
          refine cx_keep rfl rfl ?_
          refine cx_ret (ret0 rfl rfl ?_)
          have e : conF op a b = (vB (decide (op = 12)), 0) := by unfold conF; rw [if_neg (by omega), if_neg (nAOO h1), if_neg (nAOO h2), if_neg (by omega)]
          exact ⟨by rw [e]; rfl, rfl⟩


/- cmp.Or[int] -/
def k_c_Or : XCode :=
  .seq (.ops [.op (some 2) (.mov (.k (.int .i64 0)))])
  (.keep [0] (.seq (.ops [.op (some 3) (.mov (.k (.int .i64 0)))])
  (.keep [0, 3] (.seq (.seq (.ops [.op (some 6) (.mov (.t 0)),
      .op (some 7) (.lenS (.t 6)),
      .op (some 8) (.mov (.k (.int .i64 0)))])
   (.keep [3, 6, 7, 8] (.block 0 (.loop (.seq (.ops [.op (some 9) (.bin .lss (.t 8) (.t 7))])
     (.keep [3, 6, 7, 8, 9] (.seq (.cond (.t 9)
       (.skip)
       (.exit 0))
     (.keep [3, 6, 7, 8] (.seq (.block 1 (.seq (.ops [.op (some 10) (.iadr 1 (.t 6) (.t 8)),
          .op (some 11) (.load1 (.t 10)),
          .op (some 5) (.mov (.t 11))])
       (.keep [3, 5, 6, 7, 8] (.seq (.ops [.op (some 12) (.mov (.t 5)),
          .op (some 13) (.mov (.t 3)),
          .op (some 14) (.bin .neq (.t 12) (.t 13))])
       (.keep [3, 5, 6, 7, 8, 14] (.cond (.t 14)
        (.seq (.ops [.op (some 15) (.mov (.t 5)),
            .op (some 2) (.mov (.t 15))])
         (.keep [2] (.ret)))
        (.skip)))))))
     (.keep [3, 6, 7, 8] (.ops [.op (some 16) (.bin .add (.t 8) (.k (.int .i64 1))),
       .op (some 8) (.mov (.t 16))])))))))))))
  (.keep [3] (.seq (.ops [.op (some 17) (.mov (.t 3)),
     .op (some 2) (.mov (.t 17))])
  (.keep [2] (.ret))))))))
theorem k_c_Or_fits : fitsF Try.prog 115 ⟨18, k_c_Or, [.t 2]⟩ = true := by kernel_rfl
theorem c_Or {xs : List Int} (hl : xs.length ≤ 1000) : Con Try.prog noMv 115 [.d (.sl 1 (xs.map intRow))] [] (fun r h => r = int (orF xs) ∧ h = []) := by
  refine con_of2 k_c_Or_fits rfl fun C hP hmv => ?_
  unfold k_c_Or
  refine cx_seq ?_
  refine cx_ops ?_
  refine ax_q (q_mov rfl) ?_
  refine ax_nil ?_
  refine cx_keep rfl rfl ?_
  refine cx_seq ?_
  refine cx_ops ?_
  refine ax_q (q_mov rfl) ?_
  refine ax_nil ?_
  refine cx_keep rfl rfl ?_
  refine cx_seq ?_
  refine cx_seq ?_
  refine cx_ops ?_
  refine ax_q (q_mov rfl) ?_
  first | refine ax_q (q_lenS_map rfl) ?_ | refine ax_q (q_lenS_osl rfl) ?_ | refine ax_q (q_lenS_zs rfl) ?_ | refine ax_q (q_lenS rfl) ?_
  refine ax_q (q_mov rfl) ?_
  refine ax_nil ?_
  refine cx_keep rfl rfl ?_
  refine cx_block ?_
  refine cx_loopU (fun n k => k ≤ xs.length ∧ n = xs.length - k ∧ ∀ j, j < k → ∀ x, xs[j]? = some x → x = 0) (fun k : Nat => [(8, int k)]) (fun _ => []) ⟨_, 0, ⟨Nat.zero_le _, rfl, fun j hj => by omega⟩, by repeat (first | exact trivial | refine ⟨rfl, ?_⟩ | refine ⟨?_, ?_⟩)⟩ ?_
  rintro n k ⟨hk, rfl, hb⟩
  refine cx_seq ?_
  refine cx_ops ?_
  refine ax_q (q_ibin rfl rfl rfl) ?_
  refine ax_nil ?_
  refine cx_keep rfl rfl ?_
  refine cx_seq ?_
  refine cx_cond rfl (fun h0 => ?_) (fun h0 => ?_)
  · have h0 := dT h0
    have h0x : k < xs.length := by omega
    refine cx_skip ?_
    refine cx_keep rfl rfl ?_
    refine cx_seq ?_
    refine cx_block ?_
    refine cx_seq ?_
    refine cx_ops ?_
    first | refine ax_q (q_ix rfl rfl (by assumption)) ?_ | refine ax_q (q_ix rfl rfl (mapAt (by first | assumption | omega))) ?_ | refine ax_q (q_ixo rfl rfl (by first | assumption | omega)) ?_ | refine ax_q (q_ixI rfl rfl (by omega) (mapAt (by first | assumption | omega))) ?_ | refine ax_q (q_ixoI rfl rfl (by omega) (by omega)) ?_
    first | refine ax_q (q_load1_ptr rfl rfl rfl) ?_ | refine ax_q (q_load1_ip rfl) ?_ | refine ax_q (q_load1_rptr rfl rfl rfl rfl) ?_ | refine ax_q (q_load1_rptr rfl rfl (by assumption) rfl) ?_ | refine ax_q (q_load1_rptr rfl rfl (mapAt (by first | assumption | omega)) rfl) ?_
    refine ax_q (q_mov rfl) ?_
    refine ax_nil ?_
    refine cx_keep rfl rfl ?_
    refine cx_seq ?_
    refine cx_ops ?_
    refine ax_q (q_mov rfl) ?_
    refine ax_q (q_mov rfl) ?_
    refine ax_q (q_ibin rfl rfl rfl) ?_
    refine ax_nil ?_
    refine cx_keep rfl rfl ?_
    refine cx_cond rfl (fun h1 => ?_) (fun h1 => ?_)
    · have h1 := nT h1
      refine cx_seq ?_
      refine cx_ops ?_
      refine ax_q (q_mov rfl) ?_
      refine ax_q (q_mov rfl) ?_
      refine ax_nil ?_
      refine cx_keep rfl rfl ?_
      refine cx_ret (ret0 rfl rfl ?_)
      exact ⟨by rw [orF_hit h0x hb h1]; rfl, rfl⟩
    · have h1 := nF h1
      refine cx_skip ?_
      refine cx_keep rfl rfl ?_
      refine cx_ops ?_
      refine ax_qe (r' := int ((k + 1 : Nat) : Int)) (q_ibin rfl rfl rfl) (by rw [wi (by omega) (by omega)]; rfl) ?_
      refine ax_q (q_mov rfl) ?_
      refine ax_nil ?_
      exact ⟨_, k + 1, by omega, ⟨by omega, rfl, fun j hj x hx => by
        rcases Nat.lt_succ_iff_lt_or_eq.1 hj with h | rfl
        · exact hb j h x hx
        · rw [List.getElem?_eq_getElem h0x] at hx; cases hx; exact h1⟩, by repeat (first | exact trivial | refine ⟨rfl, ?_⟩ | refine ⟨?_, ?_⟩)⟩
  · have h0 := dF h0
    have h0x : k = xs.length := by omega
    refine cx_exit rfl ?_
    refine cx_keep rfl rfl ?_
    refine cx_seq ?_
    refine cx_ops ?_
    refine ax_q (q_mov rfl) ?_
    refine ax_q (q_mov rfl) ?_
    refine ax_nil ?_
    refine cx_keep rfl rfl ?_
    refine cx_ret (ret0 rfl rfl ?_)
    exact ⟨by rw [orF_none (fun j hj => hb j (by omega))]; rfl, rfl⟩


/- cmp.isNaN[int] -/
def k_c_isNaN_int : XCode :=
  .seq (.ops [.op (some 2) (.mov (.k (.bool false)))])
  (.keep [0] (.seq (.ops [.op (some 3) (.mov (.t 0)),
     .op (some 4) (.mov (.t 0)),
     .op (some 5) (.bin .neq (.t 3) (.t 4)),
     .op (some 2) (.mov (.t 5))])
  (.keep [2] (.ret))))
theorem k_c_isNaN_int_fits : fitsF Try.prog 118 ⟨6, k_c_isNaN_int, [.t 2]⟩ = true := by kernel_rfl
theorem c_isNaN_int {x : Int} : Con Try.prog noMv 118 [int x] [] (fun r h => r = bool false ∧ h = []) := by
  refine con_of2 k_c_isNaN_int_fits rfl fun C hP hmv => ?_
  unfold k_c_isNaN_int
  refine cx_seq ?_
  refine cx_ops ?_
  refine ax_q (q_mov rfl) ?_
  refine ax_nil ?_
  refine cx_keep rfl rfl ?_
  refine cx_seq ?_
  refine cx_ops ?_
  refine ax_q (q_mov rfl) ?_
  refine ax_q (q_mov rfl) ?_
  refine ax_q (q_ibin rfl rfl rfl) ?_
  refine ax_q (q_mov rfl) ?_
  refine ax_nil ?_
  refine cx_keep rfl rfl ?_
  refine cx_ret (ret0 rfl rfl ?_)
  exact ⟨by simp; rfl, rfl⟩


/- cmp.Compare[int] -/
def k_c_Compare_int : XCode :=
  .seq (.ops [.op (some 4) (.mov (.k (.int .i64 0)))])
  (.keep [0, 1] (.seq (.ops [.op (some 7) (.mov (.t 0)),
     .call (some 8) 118 [.t 7],
     .op (some 5) (.mov (.t 8))])
  (.keep [0, 1, 5] (.seq (.ops [.op (some 9) (.mov (.t 1)),
     .call (some 10) 118 [.t 9],
     .op (some 6) (.mov (.t 10))])
  (.keep [0, 1, 5, 6] (.seq (.seq (.ops [.op (some 11) (.mov (.t 5))])
   (.keep [0, 1, 6, 11] (.cond (.t 11)
    (.seq (.seq (.ops [.op (some 12) (.mov (.t 6))])
      (.keep [12] (.cond (.t 12)
       (.seq (.ops [.op (some 4) (.mov (.k (.int .i64 0)))])
        (.keep [4] (.ret)))
       (.skip))))
     (.keep [] (.seq (.ops [.op (some 4) (.mov (.k (.int .i64 (-1))))])
     (.keep [4] (.ret)))))
    (.skip))))
  (.keep [0, 1, 6] (.seq (.seq (.ops [.op (some 13) (.mov (.t 6))])
   (.keep [0, 1, 13] (.cond (.t 13)
    (.seq (.ops [.op (some 4) (.mov (.k (.int .i64 1)))])
     (.keep [4] (.ret)))
    (.skip))))
  (.keep [0, 1] (.seq (.seq (.ops [.op (some 14) (.mov (.t 0)),
      .op (some 15) (.mov (.t 1)),
      .op (some 16) (.bin .lss (.t 14) (.t 15))])
   (.keep [0, 1, 16] (.cond (.t 16)
    (.seq (.ops [.op (some 4) (.mov (.k (.int .i64 (-1))))])
     (.keep [4] (.ret)))
    (.skip))))
  (.keep [0, 1] (.seq (.seq (.ops [.op (some 17) (.mov (.t 0)),
      .op (some 18) (.mov (.t 1)),
      .op (some 19) (.bin .gtr (.t 17) (.t 18))])
   (.keep [19] (.cond (.t 19)
    (.seq (.ops [.op (some 4) (.mov (.k (.int .i64 1)))])
     (.keep [4] (.ret)))
    (.skip))))
  (.keep [] (.seq (.ops [.op (some 4) (.mov (.k (.int .i64 0)))])
  (.keep [4] (.ret))))))))))))))))
theorem k_c_Compare_int_fits : fitsF Try.prog 116 ⟨20, k_c_Compare_int, [.t 4]⟩ = true := by kernel_rfl
theorem c_Compare_int {a b : Int} : Con Try.prog noMv 116 [int a, int b] [] (fun r h => r = int (cmpI a b) ∧ h = []) := by
  refine con_of2 k_c_Compare_int_fits rfl fun C hP hmv => ?_
  unfold k_c_Compare_int
  refine cx_seq ?_
  refine cx_ops ?_
  refine ax_q (q_mov rfl) ?_
  refine ax_nil ?_
  refine cx_keep rfl rfl ?_
  refine cx_seq ?_
  refine cx_ops ?_
  refine ax_q (q_mov rfl) ?_
  first | refine ax_call rfl (vc_pure0 (c_isNaN_int  ) hP rfl rfl ?_) | refine ax_call rfl (vc_lend0 (c_isNaN_int  ) hP (by repeat (first | exact lal_id _ rfl | exact LAL.nil | refine LAL.cons ?_ ?_ | exact la_id _ rfl | exact LA.lend (lend_whole rfl (by first | (simp; done) | (rw [List.length_map]; rfl))) | refine LA.agg ?_ | refine LA.fn ?_ | refine LA.lend ?_ | exact Lend.d _ | exact Lend.zs _ | exact lend_whole rfl (by first | (simp; done) | (rw [List.length_map]; rfl)) | refine Lend.ptr rfl ?_ | refine Lend.fn ?_ | exact LendL.nil | refine LendL.cons ?_ ?_)) rfl rfl ?_)
  refine ax_q (q_mov rfl) ?_
  refine ax_nil ?_
  refine cx_keep rfl rfl ?_
  refine cx_seq ?_
  refine cx_ops ?_
  refine ax_q (q_mov rfl) ?_
  first | refine ax_call rfl (vc_pure0 (c_isNaN_int  ) hP rfl rfl ?_) | refine ax_call rfl (vc_lend0 (c_isNaN_int  ) hP (by repeat (first | exact lal_id _ rfl | exact LAL.nil | refine LAL.cons ?_ ?_ | exact la_id _ rfl | exact LA.lend (lend_whole rfl (by first | (simp; done) | (rw [List.length_map]; rfl))) | refine LA.agg ?_ | refine LA.fn ?_ | refine LA.lend ?_ | exact Lend.d _ | exact Lend.zs _ | exact lend_whole rfl (by first | (simp; done) | (rw [List.length_map]; rfl)) | refine Lend.ptr rfl ?_ | refine Lend.fn ?_ | exact LendL.nil | refine LendL.cons ?_ ?_)) rfl rfl ?_)
  refine ax_q (q_mov rfl) ?_
  refine ax_nil ?_
  refine cx_keep rfl rfl ?_
  refine cx_seq ?_
  refine cx_seq ?_
  refine cx_ops ?_
  refine ax_q (q_mov rfl) ?_
  refine ax_nil ?_
  refine cx_keep rfl rfl ?_
  refine cx_cond rfl (fun h0 => ?_) (fun h0 => ?_)
  · skip
    exact absurd h0 Bool.false_ne_true
  · skip
    refine cx_skip ?_
    refine cx_keep rfl rfl ?_
    refine cx_seq ?_
    refine cx_seq ?_
    refine cx_ops ?_
    refine ax_q (q_mov rfl) ?_
    refine ax_nil ?_
    refine cx_keep rfl rfl ?_
    refine cx_cond rfl (fun h2 => ?_) (fun h2 => ?_)
    · skip
      exact absurd h2 Bool.false_ne_true
    · skip
      refine cx_skip ?_
      refine cx_keep rfl rfl ?_
      refine cx_seq ?_
      refine cx_seq ?_
      refine cx_ops ?_
      refine ax_q (q_mov rfl) ?_
      refine ax_q (q_mov rfl) ?_
      refine ax_q (q_ibin rfl rfl rfl) ?_
      refine ax_nil ?_
      refine cx_keep rfl rfl ?_
      refine cx_cond rfl (fun h3 => ?_) (fun h3 => ?_)
      · have h3 := dT h3
        refine cx_seq ?_
        refine cx_ops ?_
        refine ax_q (q_mov rfl) ?_
        refine ax_nil ?_
        refine cx_keep rfl rfl ?_
        refine cx_ret (ret0 rfl rfl ?_)
        exact ⟨by rw [show cmpI a b = -1 from by unfold cmpI; rw [if_neg (by omega), if_pos h3]]; rfl, rfl⟩
      · have h3 := dF h3
        refine cx_skip ?_
        refine cx_keep rfl rfl ?_
        refine cx_seq ?_
        refine cx_seq ?_
        refine cx_ops ?_
        refine ax_q (q_mov rfl) ?_
        refine ax_q (q_mov rfl) ?_
        refine ax_q (q_ibin rfl rfl rfl) ?_
        refine ax_nil ?_
        refine cx_keep rfl rfl ?_
        refine cx_cond rfl (fun h4 => ?_) (fun h4 => ?_)
        · have h4 := dT h4
          refine cx_seq ?_
          refine cx_ops ?_
          refine ax_q (q_mov rfl) ?_
          refine ax_nil ?_
          refine cx_keep rfl rfl ?_
          refine cx_ret (ret0 rfl rfl ?_)
          exact ⟨by rw [show cmpI a b = 1 from by unfold cmpI; rw [if_neg (by omega), if_neg h3]]; rfl, rfl⟩
        · have h4 := dF h4
          refine cx_skip ?_
          refine cx_keep rfl rfl ?_
          refine cx_seq ?_
          refine cx_ops ?_
          refine ax_q (q_mov rfl) ?_
          refine ax_nil ?_
          refine cx_keep rfl rfl ?_
          refine cx_ret (ret0 rfl rfl ?_)
          exact ⟨by rw [show cmpI a b = 0 from by unfold cmpI; rw [if_pos (by omega)]]; rfl, rfl⟩


/- cmp.isNaN[string] -/
def k_c_isNaN_string : XCode :=
  .seq (.ops [.op (some 2) (.mov (.k (.bool false)))])
  (.keep [0] (.seq (.ops [.op (some 3) (.mov (.t 0)),
     .op (some 4) (.mov (.t 0)),
     .op (some 5) (.bin .neq (.t 3) (.t 4)),
     .op (some 2) (.mov (.t 5))])
  (.keep [2] (.ret))))
theorem k_c_isNaN_string_fits : fitsF Try.prog 119 ⟨6, k_c_isNaN_string, [.t 2]⟩ = true := by kernel_rfl
theorem c_isNaN_string {x : Str} : Con Try.prog noMv 119 [str x] [] (fun r h => r = bool false ∧ h = []) := by
  refine con_of2 k_c_isNaN_string_fits rfl fun C hP hmv => ?_
  unfold k_c_isNaN_string
  refine cx_seq ?_
  refine cx_ops ?_
  refine ax_q (q_mov rfl) ?_
  refine ax_nil ?_
  refine cx_keep rfl rfl ?_
  refine cx_seq ?_
  refine cx_ops ?_
  refine ax_q (q_mov rfl) ?_
  refine ax_q (q_mov rfl) ?_
  refine ax_q (q_sbin rfl rfl rfl) ?_
  refine ax_q (q_mov rfl) ?_
  refine ax_nil ?_
  refine cx_keep rfl rfl ?_
  refine cx_ret (ret0 rfl rfl ?_)
  exact ⟨by simp; rfl, rfl⟩


/- cmp.Compare[string] -/
def k_c_Compare_string : XCode :=
  .seq (.ops [.op (some 4) (.mov (.k (.int .i64 0)))])
  (.keep [0, 1] (.seq (.ops [.op (some 7) (.mov (.t 0)),
     .call (some 8) 119 [.t 7],
     .op (some 5) (.mov (.t 8))])
  (.keep [0, 1, 5] (.seq (.ops [.op (some 9) (.mov (.t 1)),
     .call (some 10) 119 [.t 9],
     .op (some 6) (.mov (.t 10))])
  (.keep [0, 1, 5, 6] (.seq (.seq (.ops [.op (some 11) (.mov (.t 5))])
   (.keep [0, 1, 6, 11] (.cond (.t 11)
    (.seq (.seq (.ops [.op (some 12) (.mov (.t 6))])
      (.keep [12] (.cond (.t 12)
       (.seq (.ops [.op (some 4) (.mov (.k (.int .i64 0)))])
        (.keep [4] (.ret)))
       (.skip))))
     (.keep [] (.seq (.ops [.op (some 4) (.mov (.k (.int .i64 (-1))))])
     (.keep [4] (.ret)))))
    (.skip))))
  (.keep [0, 1, 6] (.seq (.seq (.ops [.op (some 13) (.mov (.t 6))])
   (.keep [0, 1, 13] (.cond (.t 13)
    (.seq (.ops [.op (some 4) (.mov (.k (.int .i64 1)))])
     (.keep [4] (.ret)))
    (.skip))))
  (.keep [0, 1] (.seq (.seq (.ops [.op (some 14) (.mov (.t 0)),
      .op (some 15) (.mov (.t 1)),
      .op (some 16) (.bin .lss (.t 14) (.t 15))])
   (.keep [0, 1, 16] (.cond (.t 16)
    (.seq (.ops [.op (some 4) (.mov (.k (.int .i64 (-1))))])
     (.keep [4] (.ret)))
    (.skip))))
  (.keep [0, 1] (.seq (.seq (.ops [.op (some 17) (.mov (.t 0)),
      .op (some 18) (.mov (.t 1)),
      .op (some 19) (.bin .gtr (.t 17) (.t 18))])
   (.keep [19] (.cond (.t 19)
    (.seq (.ops [.op (some 4) (.mov (.k (.int .i64 1)))])
     (.keep [4] (.ret)))
    (.skip))))
  (.keep [] (.seq (.ops [.op (some 4) (.mov (.k (.int .i64 0)))])
  (.keep [4] (.ret))))))))))))))))
theorem k_c_Compare_string_fits : fitsF Try.prog 117 ⟨20, k_c_Compare_string, [.t 4]⟩ = true := by kernel_rfl
theorem c_Compare_string {a b : Str} : Con Try.prog noMv 117 [str a, str b] [] (fun r h => r = int (cmpS a b) ∧ h = []) := by
  refine con_of2 k_c_Compare_string_fits rfl fun C hP hmv => ?_
  unfold k_c_Compare_string
  refine cx_seq ?_
  refine cx_ops ?_
  refine ax_q (q_mov rfl) ?_
  refine ax_nil ?_
  refine cx_keep rfl rfl ?_
  refine cx_seq ?_
  refine cx_ops ?_
  refine ax_q (q_mov rfl) ?_
  first | refine ax_call rfl (vc_pure0 (c_isNaN_string  ) hP rfl rfl ?_) | refine ax_call rfl (vc_lend0 (c_isNaN_string  ) hP (by repeat (first | exact lal_id _ rfl | exact LAL.nil | refine LAL.cons ?_ ?_ | exact la_id _ rfl | exact LA.lend (lend_whole rfl (by first | (simp; done) | (rw [List.length_map]; rfl))) | refine LA.agg ?_ | refine LA.fn ?_ | refine LA.lend ?_ | exact Lend.d _ | exact Lend.zs _ | exact lend_whole rfl (by first | (simp; done) | (rw [List.length_map]; rfl)) | refine Lend.ptr rfl ?_ | refine Lend.fn ?_ | exact LendL.nil | refine LendL.cons ?_ ?_)) rfl rfl ?_)
  refine ax_q (q_mov rfl) ?_
  refine ax_nil ?_
  refine cx_keep rfl rfl ?_
  refine cx_seq ?_
  refine cx_ops ?_
  refine ax_q (q_mov rfl) ?_
  first | refine ax_call rfl (vc_pure0 (c_isNaN_string  ) hP rfl rfl ?_) | refine ax_call rfl (vc_lend0 (c_isNaN_string  ) hP (by repeat (first | exact lal_id _ rfl | exact LAL.nil | refine LAL.cons ?_ ?_ | exact la_id _ rfl | exact LA.lend (lend_whole rfl (by first | (simp; done) | (rw [List.length_map]; rfl))) | refine LA.agg ?_ | refine LA.fn ?_ | refine LA.lend ?_ | exact Lend.d _ | exact Lend.zs _ | exact lend_whole rfl (by first | (simp; done) | (rw [List.length_map]; rfl)) | refine Lend.ptr rfl ?_ | refine Lend.fn ?_ | exact LendL.nil | refine LendL.cons ?_ ?_)) rfl rfl ?_)
  refine ax_q (q_mov rfl) ?_
  refine ax_nil ?_
  refine cx_keep rfl rfl ?_
  refine cx_seq ?_
  refine cx_seq ?_
  refine cx_ops ?_
  refine ax_q (q_mov rfl) ?_
  refine ax_nil ?_
  refine cx_keep rfl rfl ?_
  refine cx_cond rfl (fun h0 => ?_) (fun h0 => ?_)
  · skip
    exact absurd h0 Bool.false_ne_true
  · skip
    refine cx_skip ?_
    refine cx_keep rfl rfl ?_
    refine cx_seq ?_
    refine cx_seq ?_
    refine cx_ops ?_
    refine ax_q (q_mov rfl) ?_
    refine ax_nil ?_
    refine cx_keep rfl rfl ?_
    refine cx_cond rfl (fun h2 => ?_) (fun h2 => ?_)
    · skip
      exact absurd h2 Bool.false_ne_true
    · skip
      refine cx_skip ?_
      refine cx_keep rfl rfl ?_
      refine cx_seq ?_
      refine cx_seq ?_
      refine cx_ops ?_
      refine ax_q (q_mov rfl) ?_
      refine ax_q (q_mov rfl) ?_
      refine ax_q (q_sbin rfl rfl rfl) ?_
      refine ax_nil ?_
      refine cx_keep rfl rfl ?_
      refine cx_cond rfl (fun h3 => ?_) (fun h3 => ?_)
      · skip
        refine cx_seq ?_
        refine cx_ops ?_
        refine ax_q (q_mov rfl) ?_
        refine ax_nil ?_
        refine cx_keep rfl rfl ?_
        refine cx_ret (ret0 rfl rfl ?_)
        exact ⟨by rw [cmpS_lt h3]; rfl, rfl⟩
      · skip
        refine cx_skip ?_
        refine cx_keep rfl rfl ?_
        refine cx_seq ?_
        refine cx_seq ?_
        refine cx_ops ?_
        refine ax_q (q_mov rfl) ?_
        refine ax_q (q_mov rfl) ?_
        refine ax_q (q_sbin rfl rfl rfl) ?_
        refine ax_nil ?_
        refine cx_keep rfl rfl ?_
        refine cx_cond rfl (fun h4 => ?_) (fun h4 => ?_)
        · skip
          refine cx_seq ?_
          refine cx_ops ?_
          refine ax_q (q_mov rfl) ?_
          refine ax_nil ?_
          refine cx_keep rfl rfl ?_
          refine cx_ret (ret0 rfl rfl ?_)
          exact ⟨by rw [cmpS_gt h4]; rfl, rfl⟩
        · skip
          refine cx_skip ?_
          refine cx_keep rfl rfl ?_
          refine cx_seq ?_
          refine cx_ops ?_
          refine ax_q (q_mov rfl) ?_
          refine ax_nil ?_
          refine cx_keep rfl rfl ?_
          refine cx_ret (ret0 rfl rfl ?_)
          exact ⟨by rw [cmpS_eq h3 h4]; rfl, rfl⟩


/- loop.example/g00332/impl.compareValues -/
def k_c_compareValues : XCode :=
  .seq (.ops [.op (some 2) (.box (.t 0)),
     .op (some 3) (.box (.t 1)),
     .op (some 4) (.mov (.k (.int .i64 0)))])
  (.keep [2, 3] (.seq (.drawE [[], [0], [], [2], [0, 1, 2, 3], [], [5], [], [7], [0, 1, 2, 3, 4, 5, 6, 7, 8], [], [10], [], [12], [0, 1, 2, 3, 4, 5, 6, 7, 8, 9, 10, 11, 12, 13], [0, 1, 2, 3, 4, 5, 6, 7, 8, 9, 10, 11, 12, 13, 14], [0, 1, 2, 3, 4, 5, 6, 7, 8, 9, 10, 11, 12, 13, 14, 15], [0, 1, 2, 3, 4, 5, 6, 7, 8, 9, 10, 11, 12, 13, 14, 15, 16]] [.op (some 5) (.fadr (.t 2) 0),
     .op (some 6) (.load1 (.t 5)),
     .op (some 7) (.fadr (.t 3) 0),
     .op (some 8) (.load1 (.t 7)),
     .call (some 9) 116 [.t 6, .t 8],
     .op (some 10) (.fadr (.t 2) 1),
     .op (some 11) (.load1 (.t 10)),
     .op (some 12) (.fadr (.t 3) 1),
     .op (some 13) (.load1 (.t 12)),
     .call (some 14) 116 [.t 11, .t 13],
     .op (some 15) (.fadr (.t 2) 2),
     .op (some 16) (.load1 (.t 15)),
     .op (some 17) (.fadr (.t 3) 2),
     .op (some 18) (.load1 (.t 17))]
    [.call (some 19) 117 [.t 16, .t 18],
     .op (some 20) (.bslice 1 [.t 9, .t 14, .t 19]),
     .call (some 21) 115 [.t 20],
     .op (some 4) (.mov (.t 21))])
  (.keep [4] (.ret))))
theorem k_c_compareValues_fits : fitsF Try.prog 108 ⟨22, k_c_compareValues, [.t 4]⟩ = true := by kernel_rfl
set_option maxHeartbeats 2000000 in
theorem c_compareValues {a b : GValue} : Con Try.prog noMv 108 [a.av, b.av] [] (fun r h => r = int (cmpV a b) ∧ h = []) := by
  refine con_of2 k_c_compareValues_fits rfl fun C hP hmv => ?_
  unfold k_c_compareValues
  refine cx_seq ?_
  refine cx_ops ?_
  refine ax_e (e_box rfl rfl (by decide) rfl rfl rfl) ?_
  refine ax_e (e_box rfl rfl (by decide) rfl rfl rfl) ?_
  refine ax_q (q_mov rfl) ?_
  refine ax_nil ?_
  refine cx_keep rfl rfl ?_
  refine cx_seq ?_
  refine cx_drawL 0 5 (fun _ => false) (fun _ => true) [] ([]) [[2], [5], [3], [7], [6, 8], [2], [10], [3], [12], [11, 13], [2], [15], [3], [17]] [[], [], [], [], [], [], [], [], [], [], [], [], [], []] rfl ?_
  first | refine ⟨⟨5, _, []⟩, .inl ⟨rfl, rfl, rfl, locl_of (loc_q (q_fadr_ptr rfl))⟩, ?_⟩ | refine ⟨⟨5, _, []⟩, .inl ⟨rfl, rfl, rfl, locl_of (loc_q (q_fadr_rptr rfl))⟩, ?_⟩ | refine ⟨⟨5, _, []⟩, .inl ⟨rfl, rfl, rfl, locl_of (loc_q (q_fadr_ip rfl))⟩, ?_⟩
  first | refine ⟨_, .inr ⟨rfl, _, rfl, .inr ⟨rfl, rfl, .inl rfl, rfl, rfl⟩, loc_q (q_load1_ptr rfl rfl rfl)⟩, ?_⟩ | refine ⟨_, .inr ⟨rfl, _, rfl, .inr ⟨rfl, rfl, .inl rfl, rfl, rfl⟩, loc_q (q_load1_ip rfl)⟩, ?_⟩ | refine ⟨_, .inr ⟨rfl, _, rfl, .inr ⟨rfl, rfl, .inl rfl, rfl, rfl⟩, loc_q (q_load1_rptr rfl rfl rfl rfl)⟩, ?_⟩ | refine ⟨_, .inr ⟨rfl, _, rfl, .inr ⟨rfl, rfl, .inl rfl, rfl, rfl⟩, loc_q (q_load1_rptr rfl rfl (by assumption) rfl)⟩, ?_⟩ | refine ⟨_, .inr ⟨rfl, _, rfl, .inr ⟨rfl, rfl, .inl rfl, rfl, rfl⟩, loc_q (q_load1_rptr rfl rfl (mapAt (by first | assumption | omega)) rfl)⟩, ?_⟩
  first | refine ⟨_, .inr ⟨rfl, _, rfl, .inr ⟨rfl, rfl, .inr rfl, rfl, rfl⟩, loc_q (q_fadr_ptr rfl)⟩, ?_⟩ | refine ⟨_, .inr ⟨rfl, _, rfl, .inr ⟨rfl, rfl, .inr rfl, rfl, rfl⟩, loc_q (q_fadr_rptr rfl)⟩, ?_⟩ | refine ⟨_, .inr ⟨rfl, _, rfl, .inr ⟨rfl, rfl, .inr rfl, rfl, rfl⟩, loc_q (q_fadr_ip rfl)⟩, ?_⟩
  first | refine ⟨_, .inr ⟨rfl, _, rfl, .inr ⟨rfl, rfl, .inr rfl, rfl, rfl⟩, loc_q (q_load1_ptr rfl rfl rfl)⟩, ?_⟩ | refine ⟨_, .inr ⟨rfl, _, rfl, .inr ⟨rfl, rfl, .inr rfl, rfl, rfl⟩, loc_q (q_load1_ip rfl)⟩, ?_⟩ | refine ⟨_, .inr ⟨rfl, _, rfl, .inr ⟨rfl, rfl, .inr rfl, rfl, rfl⟩, loc_q (q_load1_rptr rfl rfl rfl rfl)⟩, ?_⟩ | refine ⟨_, .inr ⟨rfl, _, rfl, .inr ⟨rfl, rfl, .inr rfl, rfl, rfl⟩, loc_q (q_load1_rptr rfl rfl (by assumption) rfl)⟩, ?_⟩ | refine ⟨_, .inr ⟨rfl, _, rfl, .inr ⟨rfl, rfl, .inr rfl, rfl, rfl⟩, loc_q (q_load1_rptr rfl rfl (mapAt (by first | assumption | omega)) rfl)⟩, ?_⟩
  first | refine ⟨_, .inr ⟨rfl, _, rfl, .inr ⟨rfl, rfl, .inl rfl, rfl, rfl⟩, loc_call (fun i => 9 + 200 * i) false rfl (c_Compare_int  ) hP (.inr ⟨rfl, rfl, rfl⟩) rfl rfl (fun h => by cases h)⟩, ?_⟩ | refine ⟨_, .inr ⟨rfl, _, rfl, .inr ⟨rfl, rfl, .inl rfl, rfl, rfl⟩, loc_call (fun i => 9 + 200 * i) true rfl (c_Compare_int  ) hP (.inl ⟨rfl, (by repeat (first | exact lal_id _ rfl | exact LAL.nil | refine LAL.cons ?_ ?_ | exact la_id _ rfl | exact LA.lend (lend_whole rfl (by first | (simp; done) | (rw [List.length_map]; rfl))) | refine LA.agg ?_ | refine LA.fn ?_ | refine LA.lend ?_ | exact Lend.d _ | exact Lend.zs _ | exact lend_whole rfl (by first | (simp; done) | (rw [List.length_map]; rfl)) | refine Lend.ptr rfl ?_ | refine Lend.fn ?_ | exact LendL.nil | refine LendL.cons ?_ ?_))⟩) rfl rfl (fun _ => ⟨rfl, noisl_of (by repeat (first | exact trivial | refine ⟨noisl_map (fun _ => rfl), ?_⟩ | refine ⟨?_, ?_⟩))⟩)⟩, ?_⟩
  first | refine ⟨_, .inr ⟨rfl, _, rfl, .inr ⟨rfl, rfl, .inr rfl, rfl, rfl⟩, loc_q (q_fadr_ptr rfl)⟩, ?_⟩ | refine ⟨_, .inr ⟨rfl, _, rfl, .inr ⟨rfl, rfl, .inr rfl, rfl, rfl⟩, loc_q (q_fadr_rptr rfl)⟩, ?_⟩ | refine ⟨_, .inr ⟨rfl, _, rfl, .inr ⟨rfl, rfl, .inr rfl, rfl, rfl⟩, loc_q (q_fadr_ip rfl)⟩, ?_⟩
  first | refine ⟨_, .inr ⟨rfl, _, rfl, .inr ⟨rfl, rfl, .inr rfl, rfl, rfl⟩, loc_q (q_load1_ptr rfl rfl rfl)⟩, ?_⟩ | refine ⟨_, .inr ⟨rfl, _, rfl, .inr ⟨rfl, rfl, .inr rfl, rfl, rfl⟩, loc_q (q_load1_ip rfl)⟩, ?_⟩ | refine ⟨_, .inr ⟨rfl, _, rfl, .inr ⟨rfl, rfl, .inr rfl, rfl, rfl⟩, loc_q (q_load1_rptr rfl rfl rfl rfl)⟩, ?_⟩ | refine ⟨_, .inr ⟨rfl, _, rfl, .inr ⟨rfl, rfl, .inr rfl, rfl, rfl⟩, loc_q (q_load1_rptr rfl rfl (by assumption) rfl)⟩, ?_⟩ | refine ⟨_, .inr ⟨rfl, _, rfl, .inr ⟨rfl, rfl, .inr rfl, rfl, rfl⟩, loc_q (q_load1_rptr rfl rfl (mapAt (by first | assumption | omega)) rfl)⟩, ?_⟩
  first | refine ⟨_, .inr ⟨rfl, _, rfl, .inr ⟨rfl, rfl, .inr rfl, rfl, rfl⟩, loc_q (q_fadr_ptr rfl)⟩, ?_⟩ | refine ⟨_, .inr ⟨rfl, _, rfl, .inr ⟨rfl, rfl, .inr rfl, rfl, rfl⟩, loc_q (q_fadr_rptr rfl)⟩, ?_⟩ | refine ⟨_, .inr ⟨rfl, _, rfl, .inr ⟨rfl, rfl, .inr rfl, rfl, rfl⟩, loc_q (q_fadr_ip rfl)⟩, ?_⟩
  first | refine ⟨_, .inr ⟨rfl, _, rfl, .inr ⟨rfl, rfl, .inr rfl, rfl, rfl⟩, loc_q (q_load1_ptr rfl rfl rfl)⟩, ?_⟩ | refine ⟨_, .inr ⟨rfl, _, rfl, .inr ⟨rfl, rfl, .inr rfl, rfl, rfl⟩, loc_q (q_load1_ip rfl)⟩, ?_⟩ | refine ⟨_, .inr ⟨rfl, _, rfl, .inr ⟨rfl, rfl, .inr rfl, rfl, rfl⟩, loc_q (q_load1_rptr rfl rfl rfl rfl)⟩, ?_⟩ | refine ⟨_, .inr ⟨rfl, _, rfl, .inr ⟨rfl, rfl, .inr rfl, rfl, rfl⟩, loc_q (q_load1_rptr rfl rfl (by assumption) rfl)⟩, ?_⟩ | refine ⟨_, .inr ⟨rfl, _, rfl, .inr ⟨rfl, rfl, .inr rfl, rfl, rfl⟩, loc_q (q_load1_rptr rfl rfl (mapAt (by first | assumption | omega)) rfl)⟩, ?_⟩
  first | refine ⟨_, .inr ⟨rfl, _, rfl, .inr ⟨rfl, rfl, .inl rfl, rfl, rfl⟩, loc_call (fun i => 14 + 200 * i) false rfl (c_Compare_int  ) hP (.inr ⟨rfl, rfl, rfl⟩) rfl rfl (fun h => by cases h)⟩, ?_⟩ | refine ⟨_, .inr ⟨rfl, _, rfl, .inr ⟨rfl, rfl, .inl rfl, rfl, rfl⟩, loc_call (fun i => 14 + 200 * i) true rfl (c_Compare_int  ) hP (.inl ⟨rfl, (by repeat (first | exact lal_id _ rfl | exact LAL.nil | refine LAL.cons ?_ ?_ | exact la_id _ rfl | exact LA.lend (lend_whole rfl (by first | (simp; done) | (rw [List.length_map]; rfl))) | refine LA.agg ?_ | refine LA.fn ?_ | refine LA.lend ?_ | exact Lend.d _ | exact Lend.zs _ | exact lend_whole rfl (by first | (simp; done) | (rw [List.length_map]; rfl)) | refine Lend.ptr rfl ?_ | refine Lend.fn ?_ | exact LendL.nil | refine LendL.cons ?_ ?_))⟩) rfl rfl (fun _ => ⟨rfl, noisl_of (by repeat (first | exact trivial | refine ⟨noisl_map (fun _ => rfl), ?_⟩ | refine ⟨?_, ?_⟩))⟩)⟩, ?_⟩
  first | refine ⟨_, .inr ⟨rfl, _, rfl, .inr ⟨rfl, rfl, .inr rfl, rfl, rfl⟩, loc_q (q_fadr_ptr rfl)⟩, ?_⟩ | refine ⟨_, .inr ⟨rfl, _, rfl, .inr ⟨rfl, rfl, .inr rfl, rfl, rfl⟩, loc_q (q_fadr_rptr rfl)⟩, ?_⟩ | refine ⟨_, .inr ⟨rfl, _, rfl, .inr ⟨rfl, rfl, .inr rfl, rfl, rfl⟩, loc_q (q_fadr_ip rfl)⟩, ?_⟩
  first | refine ⟨_, .inr ⟨rfl, _, rfl, .inr ⟨rfl, rfl, .inr rfl, rfl, rfl⟩, loc_q (q_load1_ptr rfl rfl rfl)⟩, ?_⟩ | refine ⟨_, .inr ⟨rfl, _, rfl, .inr ⟨rfl, rfl, .inr rfl, rfl, rfl⟩, loc_q (q_load1_ip rfl)⟩, ?_⟩ | refine ⟨_, .inr ⟨rfl, _, rfl, .inr ⟨rfl, rfl, .inr rfl, rfl, rfl⟩, loc_q (q_load1_rptr rfl rfl rfl rfl)⟩, ?_⟩ | refine ⟨_, .inr ⟨rfl, _, rfl, .inr ⟨rfl, rfl, .inr rfl, rfl, rfl⟩, loc_q (q_load1_rptr rfl rfl (by assumption) rfl)⟩, ?_⟩ | refine ⟨_, .inr ⟨rfl, _, rfl, .inr ⟨rfl, rfl, .inr rfl, rfl, rfl⟩, loc_q (q_load1_rptr rfl rfl (mapAt (by first | assumption | omega)) rfl)⟩, ?_⟩
  first | refine ⟨_, .inr ⟨rfl, _, rfl, .inr ⟨rfl, rfl, .inr rfl, rfl, rfl⟩, loc_q (q_fadr_ptr rfl)⟩, ?_⟩ | refine ⟨_, .inr ⟨rfl, _, rfl, .inr ⟨rfl, rfl, .inr rfl, rfl, rfl⟩, loc_q (q_fadr_rptr rfl)⟩, ?_⟩ | refine ⟨_, .inr ⟨rfl, _, rfl, .inr ⟨rfl, rfl, .inr rfl, rfl, rfl⟩, loc_q (q_fadr_ip rfl)⟩, ?_⟩
  first | refine ⟨_, .inr ⟨rfl, _, rfl, .inr ⟨rfl, rfl, .inr rfl, rfl, rfl⟩, loc_q (q_load1_ptr rfl rfl rfl)⟩, ?_⟩ | refine ⟨_, .inr ⟨rfl, _, rfl, .inr ⟨rfl, rfl, .inr rfl, rfl, rfl⟩, loc_q (q_load1_ip rfl)⟩, ?_⟩ | refine ⟨_, .inr ⟨rfl, _, rfl, .inr ⟨rfl, rfl, .inr rfl, rfl, rfl⟩, loc_q (q_load1_rptr rfl rfl rfl rfl)⟩, ?_⟩ | refine ⟨_, .inr ⟨rfl, _, rfl, .inr ⟨rfl, rfl, .inr rfl, rfl, rfl⟩, loc_q (q_load1_rptr rfl rfl (by assumption) rfl)⟩, ?_⟩ | refine ⟨_, .inr ⟨rfl, _, rfl, .inr ⟨rfl, rfl, .inr rfl, rfl, rfl⟩, loc_q (q_load1_rptr rfl rfl (mapAt (by first | assumption | omega)) rfl)⟩, ?_⟩
  refine ⟨rfl, ?_⟩
  first | refine ax_call rfl (vc_pure0 (c_Compare_string  ) hP rfl rfl ?_) | refine ax_call rfl (vc_lend0 (c_Compare_string  ) hP (by repeat (first | exact lal_id _ rfl | exact LAL.nil | refine LAL.cons ?_ ?_ | exact la_id _ rfl | exact LA.lend (lend_whole rfl (by first | (simp; done) | (rw [List.length_map]; rfl))) | refine LA.agg ?_ | refine LA.fn ?_ | refine LA.lend ?_ | exact Lend.d _ | exact Lend.zs _ | exact lend_whole rfl (by first | (simp; done) | (rw [List.length_map]; rfl)) | refine Lend.ptr rfl ?_ | refine Lend.fn ?_ | exact LendL.nil | refine LendL.cons ?_ ?_)) rfl rfl ?_)
  refine ax_e (e_bslice rfl (by decide) rfl rfl) ?_
  first | refine ax_call rfl (vc_pure0 (c_Or (xs := [cmpI a.Kind b.Kind, cmpI a.N b.N, cmpS a.T b.T]) ?_) hP rfl rfl ?_) | refine ax_call rfl (vc_lend0 (c_Or (xs := [cmpI a.Kind b.Kind, cmpI a.N b.N, cmpS a.T b.T]) ?_) hP (by repeat (first | exact lal_id _ rfl | exact LAL.nil | refine LAL.cons ?_ ?_ | exact la_id _ rfl | exact LA.lend (lend_whole rfl (by first | (simp; done) | (rw [List.length_map]; rfl))) | refine LA.agg ?_ | refine LA.fn ?_ | refine LA.lend ?_ | exact Lend.d _ | exact Lend.zs _ | exact lend_whole rfl (by first | (simp; done) | (rw [List.length_map]; rfl)) | refine Lend.ptr rfl ?_ | refine Lend.fn ?_ | exact LendL.nil | refine LendL.cons ?_ ?_)) rfl rfl ?_)
  · first | assumption | omega | (simp; done) | (simp; omega)
  refine ax_q (q_mov rfl) ?_
  refine ax_nil ?_
  refine cx_keep rfl rfl ?_
  refine cx_ret (ret0 rfl rfl ?_)
  exact ⟨by rw [cmpV_or]; rfl, rfl⟩

end Go.Proofs.Ytalnddcijlkklaa
