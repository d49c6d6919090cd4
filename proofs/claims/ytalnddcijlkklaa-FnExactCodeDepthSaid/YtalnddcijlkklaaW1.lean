/- The walks: what each function computes, as a contract without a world (part 1). -/
import Derived.Test.YtalnddcijlkklaaProg
import Derived.Test.YtalnddcijlkklaaW0
namespace Go.Proofs.Ytalnddcijlkklaa
open Go Go.AM
set_option maxRecDepth 10000
set_option linter.unusedVariables false
/- loop.example/g00332/impl.heights -/
def k_c_heights : XCode :=
  .seq (.ops [.op (some 2) (.mov (.k (.nils 1))),
     .op (some 3) (.mov (.k (.bool false)))])
  (.keep [0] (.seq (.seq (.ops [.op (some 12) (.mov (.t 0)),
      .op (some 13) (.lenS (.t 12)),
      .op (some 14) (.bin .gtr (.t 13) (.k (.int .i64 80)))])
   (.keep [0, 14] (.cond (.t 14)
    (.seq (.ops [.op (some 2) (.mov (.k (.nils 1))),
        .op (some 3) (.mov (.k (.bool false)))])
     (.keep [2, 3] (.ret)))
    (.skip))))
  (.keep [0] (.seq (.ops [.op (some 15) (.bslice 1 [.k (.int .i64 (-1))]),
     .op (some 16) (.mov (.t 0)),
     .op (some 17) (.lenS (.t 16)),
     .op (some 18) (.bin .add (.t 17) (.k (.int .i64 1))),
     .call (some 19) 73 [.t 15, .t 18],
     .op (some 4) (.mov (.t 19))])
  (.keep [0, 4] (.seq (.ops [.op (some 20) (.mov (.t 4)),
     .op (some 21) (.iadr 1 (.t 20) (.k (.int .i64 0))),
     .op none (.store 1 (.t 21) (.k (.int .i64 0)))])
  (.keep [0, 4] (.seq (.seq (.ops [.op (some 22) (.mov (.t 0)),
      .op (some 23) (.lenS (.t 22)),
      .op (some 24) (.mov (.k (.int .i64 0)))])
   (.keep [0, 4, 22, 23, 24] (.block 0 (.loop (.seq (.ops [.op (some 25) (.bin .lss (.t 24) (.t 23))])
     (.keep [0, 4, 22, 23, 24, 25] (.seq (.cond (.t 25)
       (.skip)
       (.exit 0))
     (.keep [0, 4, 22, 23, 24] (.seq (.block 1 (.seq (.ops [.op (some 26) (.mov (.t 24)),
          .op (some 27) (.iadr 5 (.t 22) (.t 24)),
          .op (some 28) (.loadN 5 (.t 27)),
          .op (some 6) (.alloc [.int .i64 0, .int .i64 0, .int .i64 0, .int .i64 0, .str []]),
          .op (some 5) (.mov (.t 26)),
          .op none (.store 5 (.t 6) (.t 28))])
       (.keep [0, 4, 5, 6, 22, 23, 24] (.seq (.seq (.ops [.op (some 29) (.mov (.t 4)),
           .op (some 30) (.mov (.t 5)),
           .op (some 31) (.iadr 1 (.t 29) (.t 30)),
           .op (some 32) (.load1 (.t 31)),
           .op (some 33) (.bin .lss (.t 32) (.k (.int .i64 0))),
           .op (some 34) (.mov (.t 33)),
           .andor 41 false 5 34 [.op (some 35) (.loadN 5 (.t 6)), .op (some 36) (.mov (.t 5)), .op (some 37) (.mov (.t 0)), .op (some 38) (.lenS (.t 37)), .call (some 39) 74 [.t 35, .t 36, .t 38], .op (some 40) (.not (.t 39))] (.t 40)])
        (.keep [0, 4, 5, 6, 22, 23, 24, 41] (.cond (.t 41)
         (.seq (.ops [.op (some 2) (.mov (.k (.nils 1))),
             .op (some 3) (.mov (.k (.bool false)))])
          (.keep [2, 3] (.ret)))
         (.skip))))
       (.keep [0, 4, 5, 6, 22, 23, 24] (.seq (.ops [.op (some 42) (.mov (.t 4)),
          .op (some 43) (.mov (.t 5)),
          .op (some 44) (.iadr 1 (.t 42) (.t 43)),
          .op (some 45) (.load1 (.t 44)),
          .op (some 7) (.mov (.t 45)),
          .op (some 8) (.mov (.k (.int .i64 1)))])
       (.keep [0, 4, 5, 6, 7, 8, 22, 23, 24] (.seq (.ops [.op (some 46) (.mov (.t 5)),
          .op (some 47) (.bin .add (.t 46) (.k (.int .i64 1))),
          .op (some 48) (.bslice 1 [.t 47]),
          .op (some 9) (.mov (.t 48))])
       (.keep [0, 4, 5, 6, 7, 8, 9, 22, 23, 24] (.seq (.seq (.ops [.op (some 49) (.fadr (.t 6) 0),
           .op (some 50) (.load1 (.t 49))])
        (.keep [0, 4, 5, 6, 7, 8, 9, 22, 23, 24, 50] (.block 2 (.seq (.seq (.ops [.op (some 52) (.bin .eql (.t 50) (.k (.int .i64 1))),
             .op (some 51) (.mov (.t 52))])
          (.keep [0, 4, 5, 6, 7, 8, 9, 22, 23, 24, 50, 51] (.cond (.t 51)
           (.skip)
           (.ops [.op (some 53) (.bin .eql (.t 50) (.k (.int .i64 2))),
              .op (some 51) (.mov (.t 53))]))))
         (.keep [0, 4, 5, 6, 7, 8, 9, 22, 23, 24, 50, 51] (.cond (.t 51)
          (.ops [.op (some 54) (.mov (.t 7)),
             .op (some 55) (.bin .add (.t 54) (.k (.int .i64 1))),
             .op (some 7) (.mov (.t 55)),
             .op (some 8) (.mov (.k (.int .i64 0)))])
          (.seq (.ops [.op (some 57) (.bin .eql (.t 50) (.k (.int .i64 4))),
              .op (some 56) (.mov (.t 57))])
           (.keep [0, 4, 5, 6, 7, 8, 9, 22, 23, 24, 50, 56] (.cond (.t 56)
            (.ops [.op (some 58) (.mov (.t 7)),
               .op (some 59) (.bin .sub (.t 58) (.k (.int .i64 1))),
               .op (some 7) (.mov (.t 59)),
               .op (some 8) (.mov (.k (.int .i64 2)))])
            (.seq (.seq (.ops [.op (some 61) (.bin .eql (.t 50) (.k (.int .i64 5))),
                 .op (some 60) (.mov (.t 61))])
              (.keep [0, 4, 5, 6, 7, 8, 9, 22, 23, 24, 50, 60] (.cond (.t 60)
               (.skip)
               (.ops [.op (some 62) (.bin .eql (.t 50) (.k (.int .i64 6))),
                  .op (some 60) (.mov (.t 62))]))))
             (.keep [0, 4, 5, 6, 7, 8, 9, 22, 23, 24, 60] (.cond (.t 60)
              (.ops [.op (some 63) (.mov (.t 9)),
                 .op (some 64) (.fadr (.t 6) 1),
                 .op (some 65) (.load1 (.t 64)),
                 .op (some 66) (.bslice 1 [.t 65]),
                 .op (some 67) (.app 1 8 [.int .i64 0] (.t 63) (.t 66)),
                 .op (some 9) (.mov (.t 67))])
              (.skip)))))))))))))
       (.keep [0, 4, 5, 7, 8, 9, 22, 23, 24] (.seq (.seq (.ops [.op (some 68) (.mov (.t 4)),
           .op (some 69) (.mov (.t 5)),
           .op (some 70) (.iadr 1 (.t 68) (.t 69)),
           .op (some 71) (.load1 (.t 70)),
           .op (some 72) (.mov (.t 8)),
           .op (some 73) (.bin .lss (.t 71) (.t 72)),
           .op (some 74) (.mov (.t 73)),
           .andor 77 false 6 74 [.op (some 75) (.mov (.t 7)), .op (some 76) (.bin .gtr (.t 75) (.k (.int .i64 60)))] (.t 76)])
        (.keep [0, 4, 7, 9, 22, 23, 24, 77] (.cond (.t 77)
         (.seq (.ops [.op (some 2) (.mov (.k (.nils 1))),
             .op (some 3) (.mov (.k (.bool false)))])
          (.keep [2, 3] (.ret)))
         (.skip))))
       (.keep [0, 4, 7, 9, 22, 23, 24] (.seq (.ops [.op (some 78) (.mov (.t 9)),
          .op (some 79) (.lenS (.t 78)),
          .op (some 80) (.mov (.k (.int .i64 0)))])
       (.keep [0, 4, 7, 22, 23, 24, 78, 79, 80] (.block 3 (.loop (.seq (.ops [.op (some 81) (.bin .lss (.t 80) (.t 79))])
         (.keep [0, 4, 7, 22, 23, 24, 78, 79, 80, 81] (.seq (.cond (.t 81)
           (.skip)
           (.exit 3))
         (.keep [0, 4, 7, 22, 23, 24, 78, 79, 80] (.seq (.block 4 (.seq (.ops [.op (some 82) (.iadr 1 (.t 78) (.t 80)),
              .op (some 83) (.load1 (.t 82)),
              .op (some 11) (.mov (.t 83))])
           (.keep [0, 4, 7, 11, 22, 23, 24, 78, 79, 80] (.seq (.seq (.ops [.op (some 84) (.mov (.t 4)),
               .op (some 85) (.mov (.t 11)),
               .op (some 86) (.iadr 1 (.t 84) (.t 85)),
               .op (some 87) (.load1 (.t 86)),
               .op (some 88) (.bin .geq (.t 87) (.k (.int .i64 0))),
               .op (some 89) (.mov (.t 88)),
               .andor 96 true 5 89 [.op (some 90) (.mov (.t 4)), .op (some 91) (.mov (.t 11)), .op (some 92) (.iadr 1 (.t 90) (.t 91)), .op (some 93) (.load1 (.t 92)), .op (some 94) (.mov (.t 7)), .op (some 95) (.bin .neq (.t 93) (.t 94))] (.t 95)])
            (.keep [0, 4, 7, 11, 22, 23, 24, 78, 79, 80, 96] (.cond (.t 96)
             (.seq (.ops [.op (some 2) (.mov (.k (.nils 1))),
                 .op (some 3) (.mov (.k (.bool false)))])
              (.keep [2, 3] (.ret)))
             (.skip))))
           (.keep [0, 4, 7, 11, 22, 23, 24, 78, 79, 80] (.ops [.op (some 97) (.mov (.t 4)),
             .op (some 98) (.mov (.t 11)),
             .op (some 99) (.mov (.t 7)),
             .op (some 100) (.iadr 1 (.t 97) (.t 98)),
             .op none (.store 1 (.t 100) (.t 99))]))))))
         (.keep [0, 4, 7, 22, 23, 24, 78, 79, 80] (.ops [.op (some 101) (.bin .add (.t 80) (.k (.int .i64 1))),
           .op (some 80) (.mov (.t 101))]))))))))))))))))))))))))
     (.keep [0, 4, 22, 23, 24] (.ops [.op (some 102) (.bin .add (.t 24) (.k (.int .i64 1))),
       .op (some 24) (.mov (.t 102))])))))))))))
  (.keep [0, 4] (.seq (.draw [.op (some 103) (.mov (.t 4)),
     .op (some 104) (.mov (.t 4)),
     .op (some 105) (.mov (.t 0)),
     .op (some 106) (.lenS (.t 105)),
     .op (some 107) (.iadr 1 (.t 104) (.t 106)),
     .op (some 108) (.load1 (.t 107)),
     .op (some 109) (.bin .eql (.t 108) (.k (.int .i64 1))),
     .op (some 2) (.mov (.t 103)),
     .op (some 3) (.mov (.t 109))])
  (.keep [2, 3] (.ret))))))))))))
theorem k_c_heights_fits : fitsF Try.prog 42 ⟨110, k_c_heights, [.t 2, .t 3]⟩ = true := by kernel_rfl
set_option maxHeartbeats 8000000 in
theorem c_heights {l : List GIns} (hw : l.length ≤ 1048576) (hv : ∀ x ∈ l, x.V.T.length ≤ 1048576) : Con Try.prog noMv 42 [.d (.sl 5 (l.map GIns.row))] [] (fun r h => ∃ ds : List Int, r = .tup [.osl 0 1 0 ds.length, bool (codeOK l)] ∧ h = [(0, .rows 1 (ds.map intRow))] ∧ (codeOK l = true → runH l l.length = some ds)) := by
  refine con_of2 k_c_heights_fits rfl fun C hP hmv => ?_
  unfold k_c_heights
  refine cx_seq ?_
  refine cx_ops ?_
  refine ax_q (q_mov rfl) ?_
  refine ax_q (q_mov rfl) ?_
  refine ax_nil ?_
  refine cx_keep rfl rfl ?_
  refine cx_seq ?_
  refine cx_seq ?_
  refine cx_ops ?_
  refine ax_q (q_mov rfl) ?_
  first | refine ax_q (q_lenS_map rfl) ?_ | refine ax_q (q_lenS_osl rfl) ?_ | refine ax_q (q_lenS_zs rfl) ?_ | refine ax_q (q_lenS rfl) ?_
  refine ax_q (q_ibin rfl rfl rfl) ?_
  refine ax_nil ?_
  refine cx_keep rfl rfl ?_
  refine cx_cond rfl (fun h0 => ?_) (fun h0 => ?_)
  · have h0 := dT h0
    refine cx_seq ?_
    refine cx_ops ?_
    refine ax_q (q_mov rfl) ?_
    refine ax_q (q_mov rfl) ?_
    refine ax_nil ?_
    refine cx_keep rfl rfl ?_
    have hc : codeOK l = false := codeOK_0 (by omega)
    refine cx_wk (wk_virt 901 1 rfl rfl rfl) ?_
    refine cx_wk (wk_zs 2 901 [] rfl rfl) ?_
    refine cx_ret (retN (fun _ => 0) [901] rfl rfl rfl rfl rfl ?_)
    exact ⟨[], by rw [hc]; rfl, rfl, fun h => by rw [hc] at h; cases h⟩
  · have h0 := dF h0
    have h0 : l.length ≤ 80 := by omega
    refine cx_skip ?_
    refine cx_keep rfl rfl ?_
    refine cx_seq ?_
    refine cx_ops ?_
    refine ax_e (e_bslice rfl (by decide) rfl rfl) ?_
    refine ax_q (q_mov rfl) ?_
    first | refine ax_q (q_lenS_map rfl) ?_ | refine ax_q (q_lenS_osl rfl) ?_ | refine ax_q (q_lenS_zs rfl) ?_ | refine ax_q (q_lenS rfl) ?_
    refine ax_qe (r' := int ((l.length + 1 : Nat) : Int)) (q_ibin rfl rfl rfl) (by rw [wi (by omega) (by omega)]; rfl) ?_
    first | refine ax_call rfl (vc_pure (c_Repeat (q := -1) (m := l.length + 1) ?_) hP rfl ?_) | refine ax_call rfl (vc_lend (c_Repeat (q := -1) (m := l.length + 1) ?_) hP (by repeat (first | exact lal_id _ rfl | exact LAL.nil | refine LAL.cons ?_ ?_ | exact la_id _ rfl | exact LA.lend (lend_whole rfl (by first | (simp; done) | (rw [List.length_map]; rfl))) | refine LA.agg ?_ | refine LA.fn ?_ | refine LA.lend ?_ | exact Lend.d _ | exact Lend.zs _ | exact lend_whole rfl (by first | (simp; done) | (rw [List.length_map]; rfl)) | refine Lend.ptr rfl ?_ | refine Lend.fn ?_ | exact LendL.nil | refine LendL.cons ?_ ?_)) ?_)
    · first | assumption | omega | (simp; done) | (simp; omega)
    rintro r h ⟨rfl, rfl⟩
    refine ⟨fun i => 19 + 200 * i, [0], ⟨rfl, rfl, rfl, rfl, rfl, (by first | exact (fun h => absurd h Bool.false_ne_true) | exact (fun _ => ⟨rfl, (noisl_of ⟨noisl_rep, trivial⟩)⟩))⟩, ?_⟩
    skip
    refine ax_q (q_mov rfl) ?_
    refine ax_nil ?_
    refine cx_keep rfl rfl ?_
    refine cx_seq ?_
    refine cx_ops ?_
    refine ax_q (q_mov rfl) ?_
    refine ax_q (q_ixoI rfl rfl (by omega) (by omega)) ?_
    refine ax_e (e_str (q := intRow 0) (row := intRow (-1)) (rs' := (0 :: List.replicate l.length (-1)).map intRow) rfl rfl rfl rfl rfl rfl (rep_get (by omega)) rfl rfl (rep_set rfl)) ?_
    refine ax_nil ?_
    refine cx_keep rfl rfl ?_
    refine cx_seq ?_
    refine cx_seq ?_
    refine cx_ops ?_
    refine ax_q (q_mov rfl) ?_
    first | refine ax_q (q_lenS_map rfl) ?_ | refine ax_q (q_lenS_osl rfl) ?_ | refine ax_q (q_lenS_zs rfl) ?_ | refine ax_q (q_lenS rfl) ?_
    refine ax_q (q_mov rfl) ?_
    refine ax_nil ?_
    refine cx_keep rfl rfl ?_
    refine cx_block ?_
    refine cx_loopU (fun n (p : Nat × List Int) => p.1 ≤ l.length ∧ n = l.length - p.1 ∧ runH l p.1 = some p.2) (fun p => [(24, int p.1)]) (fun p => [(19, .rows 1 (p.2.map intRow))]) ⟨_, (0, _), ⟨Nat.zero_le _, rfl, rfl⟩, by repeat (first | exact trivial | refine ⟨rfl, ?_⟩ | refine ⟨?_, ?_⟩)⟩ ?_
    rintro n ⟨k, ds⟩ ⟨hk, rfl, hr⟩
    simp only at hk hr ⊢
    have hdl := runH_len hr
    have hg := runH_good hk hr
    refine cx_seq ?_
    refine cx_ops ?_
    refine ax_q (q_ibin rfl rfl rfl) ?_
    refine ax_nil ?_
    refine cx_keep rfl rfl ?_
    refine cx_seq ?_
    refine cx_cond rfl (fun h1 => ?_) (fun h1 => ?_)
    · have h1 := dT h1
      have h1x : k < l.length := by omega
      have hxv := hv _ (List.getElem_mem h1x)
      have hd := dB hg (k := k) (by omega)
      refine cx_skip ?_
      refine cx_keep rfl rfl ?_
      refine cx_seq ?_
      refine cx_block ?_
      refine cx_seq ?_
      refine cx_ops ?_
      refine ax_q (q_mov rfl) ?_
      first | refine ax_q (q_ix rfl rfl (by assumption)) ?_ | refine ax_q (q_ix rfl rfl (mapAt (by first | assumption | omega))) ?_ | refine ax_q (q_ixo rfl rfl (by first | assumption | omega)) ?_ | refine ax_q (q_ixI rfl rfl (by omega) (mapAt (by first | assumption | omega))) ?_ | refine ax_q (q_ixoI rfl rfl (by omega) (by omega)) ?_
      first | refine ax_q (q_ldN rfl rfl rfl) ?_ | refine ax_q (q_loadN_ip rfl (Nat.le_refl _)) ?_ | refine ax_q (q_loadN_ip rfl (by decide)) ?_ | refine ax_q (q_loadN_rptr rfl rfl (by assumption) (by decide)) ?_ | refine ax_q (q_loadN_rptr rfl rfl (mapAt (by first | assumption | omega)) (by decide)) ?_
      refine ax_e (e_alloc (by decide) rfl rfl) ?_
      refine ax_q (q_mov rfl) ?_
      refine ax_e (e_st rfl rfl rfl rfl rfl rfl rfl) ?_
      refine ax_nil ?_
      refine cx_keep rfl rfl ?_
      refine cx_seq ?_
      refine cx_seq ?_
      refine cx_ops ?_
      refine ax_q (q_mov rfl) ?_
      refine ax_q (q_mov rfl) ?_
      refine ax_q (q_ixo rfl rfl (by omega)) ?_
      refine ax_q (q_load1_rptr (r := intRow (ds.getD k 0)) rfl rfl (dAt (by omega)) rfl) ?_
      refine ax_q (q_ibin rfl rfl rfl) ?_
      refine ax_q (q_mov rfl) ?_
      apply ax_or rfl rfl
      · intro g
        have g := dF g
        first | refine ax_q (q_ldN rfl rfl rfl) ?_ | refine ax_q (q_loadN_ip rfl (Nat.le_refl _)) ?_ | refine ax_q (q_loadN_ip rfl (by decide)) ?_ | refine ax_q (q_loadN_rptr rfl rfl (by assumption) (by decide)) ?_ | refine ax_q (q_loadN_rptr rfl rfl (mapAt (by first | assumption | omega)) (by decide)) ?_
        refine ax_q (q_mov rfl) ?_
        refine ax_q (q_mov rfl) ?_
        first | refine ax_q (q_lenS_map rfl) ?_ | refine ax_q (q_lenS_osl rfl) ?_ | refine ax_q (q_lenS_zs rfl) ?_ | refine ax_q (q_lenS rfl) ?_
        first | refine ax_call rfl (vc_pure0 (c_insOK (x := l[k]) (i := k) ?_ ?_) hP rfl rfl ?_) | refine ax_call rfl (vc_lend0 (c_insOK (x := l[k]) (i := k) ?_ ?_) hP (by repeat (first | exact lal_id _ rfl | exact LAL.nil | refine LAL.cons ?_ ?_ | exact la_id _ rfl | exact LA.lend (lend_whole rfl (by first | (simp; done) | (rw [List.length_map]; rfl))) | refine LA.agg ?_ | refine LA.fn ?_ | refine LA.lend ?_ | exact Lend.d _ | exact Lend.zs _ | exact lend_whole rfl (by first | (simp; done) | (rw [List.length_map]; rfl)) | refine Lend.ptr rfl ?_ | refine Lend.fn ?_ | exact LendL.nil | refine LendL.cons ?_ ?_)) rfl rfl ?_)
        · first | assumption | omega | (simp; done) | (simp; omega)
        · first | assumption | omega | (simp; done) | (simp; omega)
        refine ax_q (q_not rfl) ?_
        exact ax_nil ⟨rfl, by repeat (first | exact trivial | refine ⟨rfl, ?_⟩ | refine ⟨?_, ?_⟩)⟩
      refine ax_nil ?_
      refine cx_keep rfl rfl ?_
      refine cx_cond rfl (fun h2 => ?_) (fun h2 => ?_)
      · have h2 := (fun h => (or_T h).imp dT bT) h2
        refine cx_seq ?_
        refine cx_ops ?_
        refine ax_q (q_mov rfl) ?_
        refine ax_q (q_mov rfl) ?_
        refine ax_nil ?_
        refine cx_keep rfl rfl ?_
        have hc : codeOK l = false := codeOK_no h0 hr h1x (h2.elim (fun h => stepK_1 h) (fun h => stepK_2 h))
        refine cx_wk (wk_virt 901 1 rfl rfl rfl) ?_
        refine cx_wk (wk_zs 2 901 [] rfl rfl) ?_
        refine cx_ret (retN (fun _ => 0) [901] rfl rfl rfl rfl rfl ?_)
        exact ⟨[], by rw [hc]; rfl, rfl, fun h => by rw [hc] at h; cases h⟩
      · have h2 := (fun h => And.intro (dF (or_F h).1) (bF (or_F h).2)) h2
        refine cx_skip ?_
        refine cx_keep rfl rfl ?_
        refine cx_seq ?_
        refine cx_ops ?_
        refine ax_q (q_mov rfl) ?_
        refine ax_q (q_mov rfl) ?_
        refine ax_q (q_ixo rfl rfl (by omega)) ?_
        refine ax_q (q_load1_rptr (r := intRow (ds.getD k 0)) rfl rfl (dAt (by omega)) rfl) ?_
        refine ax_q (q_mov rfl) ?_
        refine ax_q (q_mov rfl) ?_
        refine ax_nil ?_
        refine cx_keep rfl rfl ?_
        refine cx_seq ?_
        refine cx_ops ?_
        refine ax_q (q_mov rfl) ?_
        refine ax_q (q_add rfl rfl (by omega)) ?_
        refine ax_e (e_bslice rfl (by decide) rfl rfl) ?_
        refine ax_q (q_mov rfl) ?_
        refine ax_nil ?_
        refine cx_keep rfl rfl ?_
        refine cx_seq ?_
        refine cx_seq ?_
        refine cx_ops ?_
        first | refine ax_q (q_fadr_ptr rfl) ?_ | refine ax_q (q_fadr_rptr rfl) ?_ | refine ax_q (q_fadr_ip rfl) ?_
        first | refine ax_q (q_load1_ptr rfl rfl rfl) ?_ | refine ax_q (q_load1_ip rfl) ?_ | refine ax_q (q_load1_rptr rfl rfl rfl rfl) ?_ | refine ax_q (q_load1_rptr rfl rfl (by assumption) rfl) ?_ | refine ax_q (q_load1_rptr rfl rfl (mapAt (by first | assumption | omega)) rfl) ?_
        refine ax_nil ?_
        refine cx_keep rfl rfl ?_
        refine cx_block ?_
        refine cx_seq ?_
        refine cx_seq ?_
        refine cx_ops ?_
        refine ax_q (q_ibin rfl rfl rfl) ?_
        refine ax_q (q_mov rfl) ?_
        refine ax_nil ?_
        refine cx_keep rfl rfl ?_
        refine cx_cond rfl (fun h3 => ?_) (fun h3 => ?_)
        · have h3 := dT h3
          refine cx_skip ?_
          refine cx_keep rfl rfl ?_
          refine cx_cond rfl (fun h4 => ?_) (fun h4 => ?_)
          · have h4 := dT h4
            have hb : behI l[k] (ds.getD k 0) = (ds.getD k 0) + 1 := by unfold behI; rw [if_pos (by omega)]
            have hlw : lowI l[k] = 0 := by unfold lowI; rw [if_pos (by omega)]
            have ht : tosI l[k] (k : Int) = [(k : Int) + 1] := by unfold tosI; rw [if_neg (by omega)]
            have htl : (tosI l[k] (k : Int)).length = 1 := by rw [ht]; rfl
            refine cx_ops ?_
            refine ax_q (q_mov rfl) ?_
            refine ax_q (q_add rfl rfl (by omega)) ?_
            refine ax_q (q_mov rfl) ?_
            refine ax_q (q_mov rfl) ?_
            refine ax_nil ?_
            refine cx_keep rfl rfl ?_
            refine cx_seq ?_
            refine cx_seq ?_
            refine cx_ops ?_
            refine ax_q (q_mov rfl) ?_
            refine ax_q (q_mov rfl) ?_
            refine ax_q (q_ixo rfl rfl (by omega)) ?_
            refine ax_q (q_load1_rptr (r := intRow (ds.getD k 0)) rfl rfl (dAt (by omega)) rfl) ?_
            refine ax_q (q_mov rfl) ?_
            refine ax_q (q_ibin rfl rfl rfl) ?_
            refine ax_q (q_mov rfl) ?_
            apply ax_or rfl rfl
            · intro g
              have g := dF g
              refine ax_q (q_mov rfl) ?_
              refine ax_q (q_ibin rfl rfl rfl) ?_
              exact ax_nil ⟨rfl, by repeat (first | exact trivial | refine ⟨rfl, ?_⟩ | refine ⟨?_, ?_⟩)⟩
            refine ax_nil ?_
            refine cx_keep rfl rfl ?_
            refine cx_cond rfl (fun h8 => ?_) (fun h8 => ?_)
            · have h8 := (fun h => (or_T h).imp dT dT) h8
              refine cx_seq ?_
              refine cx_ops ?_
              refine ax_q (q_mov rfl) ?_
              refine ax_q (q_mov rfl) ?_
              refine ax_nil ?_
              refine cx_keep rfl rfl ?_
              have hc : codeOK l = false := codeOK_no h0 hr h1x (stepK_3 (by rw [hlw, hb]; exact h8))
              refine cx_wk (wk_virt 901 1 rfl rfl rfl) ?_
              refine cx_wk (wk_zs 2 901 [] rfl rfl) ?_
              refine cx_ret (retN (fun _ => 0) [901] rfl rfl rfl rfl rfl ?_)
              exact ⟨[], by rw [hc]; rfl, rfl, fun h => by rw [hc] at h; cases h⟩
            · have h8 := (fun h => And.intro (dF (or_F h).1) (dF (or_F h).2)) h8
              have hst := stepK_4 (x := l[k]) (ds := ds) (n := (l.length : Int)) h2.1 h2.2 (by rw [hlw]; exact h8.1) (by rw [hb]; exact h8.2)
              have htb := tosI_b (x := l[k]) (i := (k : Int)) (n := (l.length : Int)) (by omega) (by omega) h2.2
              refine cx_skip ?_
              refine cx_keep rfl rfl ?_
              refine cx_seq ?_
              refine cx_ops ?_
              refine ax_q (q_mov rfl) ?_
              first | refine ax_q (q_lenS_map rfl) ?_ | refine ax_q (q_lenS_osl rfl) ?_ | refine ax_q (q_lenS_zs rfl) ?_ | refine ax_q (q_lenS rfl) ?_
              refine ax_q (q_mov rfl) ?_
              refine ax_nil ?_
              refine cx_keep rfl rfl ?_
              refine cx_block ?_
              refine cx_loopU (fun n (p : Nat × List Int) => p.1 ≤ (tosI l[k] (k : Int)).length ∧ n = (tosI l[k] (k : Int)).length - p.1 ∧ p.2.length = l.length + 1 ∧ putL (behI l[k] (ds.getD k 0)) ds ((tosI l[k] (k : Int)).take p.1) = some p.2) (fun p => [(80, int p.1)]) (fun p => [(19, .rows 1 (p.2.map intRow)), (48, .rows 1 (([(k : Int) + 1] : List Int).map intRow))]) ⟨_, (0, ds), ⟨Nat.zero_le _, rfl, hdl, rfl⟩, by repeat (first | exact trivial | refine ⟨rfl, ?_⟩ | refine ⟨?_, ?_⟩)⟩ ?_
              rintro n ⟨j, p⟩ ⟨hj, rfl, hpl, hp⟩
              simp only at hj hpl hp ⊢
              refine cx_seq ?_
              refine cx_ops ?_
              refine ax_q (q_ibin rfl rfl rfl) ?_
              refine ax_nil ?_
              refine cx_keep rfl rfl ?_
              refine cx_seq ?_
              refine cx_cond rfl (fun h9 => ?_) (fun h9 => ?_)
              · have h9 := dT h9
                try simp only [List.length_cons, List.length_nil] at h9
                have h9x : j < (tosI l[k] (k : Int)).length := by omega
                have htj := htb _ (List.getElem_mem h9x)
                have hte : ([(k : Int) + 1] : List Int)[j]? = some (tosI l[k] (k : Int))[j] := by rw [← List.getElem?_eq_getElem h9x, ht]
                refine cx_skip ?_
                refine cx_keep rfl rfl ?_
                refine cx_seq ?_
                refine cx_block ?_
                refine cx_seq ?_
                refine cx_ops ?_
                refine ax_q (q_ixo rfl rfl (by first | omega | (simp only [List.length_cons, List.length_nil]; omega))) ?_
                refine ax_q (q_load1_rptr (r := intRow ((tosI l[k] (k : Int))[j])) rfl rfl (tosAt hte) rfl) ?_
                refine ax_q (q_mov rfl) ?_
                refine ax_nil ?_
                refine cx_keep rfl rfl ?_
                refine cx_seq ?_
                refine cx_seq ?_
                refine cx_ops ?_
                refine ax_q (q_mov rfl) ?_
                refine ax_q (q_mov rfl) ?_
                refine ax_q (q_ixoI rfl rfl (by omega) (by omega)) ?_
                refine ax_q (q_load1_rptr (r := intRow (p.getD (tosI l[k] (k : Int))[j].toNat 0)) rfl rfl (dAt (by omega)) rfl) ?_
                refine ax_q (q_ibin rfl rfl rfl) ?_
                refine ax_q (q_mov rfl) ?_
                apply ax_and rfl rfl
                · intro g
                  have g := dT g
                  refine ax_q (q_mov rfl) ?_
                  refine ax_q (q_mov rfl) ?_
                  refine ax_q (q_ixoI rfl rfl (by omega) (by omega)) ?_
                  refine ax_q (q_load1_rptr (r := intRow (p.getD (tosI l[k] (k : Int))[j].toNat 0)) rfl rfl (dAt (by omega)) rfl) ?_
                  refine ax_q (q_mov rfl) ?_
                  refine ax_q (q_ibin rfl rfl rfl) ?_
                  exact ax_nil ⟨rfl, by repeat (first | exact trivial | refine ⟨rfl, ?_⟩ | refine ⟨?_, ?_⟩)⟩
                refine ax_nil ?_
                refine cx_keep rfl rfl ?_
                refine cx_cond rfl (fun h10 => ?_) (fun h10 => ?_)
                · have h10 := (fun h => And.intro (dT (and_T h).1) (nT (and_T h).2)) h10
                  refine cx_seq ?_
                  refine cx_ops ?_
                  refine ax_q (q_mov rfl) ?_
                  refine ax_q (q_mov rfl) ?_
                  refine ax_nil ?_
                  refine cx_keep rfl rfl ?_
                  have hc : codeOK l = false := codeOK_no h0 hr h1x (hst.trans (putL_none (j := j + 1) (by rw [putL_step h9x hp]; exact put1_no (by rw [hb]; exact h10))))
                  refine cx_wk (wk_virt 901 1 rfl rfl rfl) ?_
                  refine cx_wk (wk_zs 2 901 [] rfl rfl) ?_
                  refine cx_ret (retN (fun _ => 0) [901] rfl rfl rfl rfl rfl ?_)
                  exact ⟨[], by rw [hc]; rfl, rfl, fun h => by rw [hc] at h; cases h⟩
                · have h10 := (fun h => (and_F h).imp dF nF) h10
                  refine cx_skip ?_
                  refine cx_keep rfl rfl ?_
                  refine cx_ops ?_
                  refine ax_q (q_mov rfl) ?_
                  refine ax_q (q_mov rfl) ?_
                  refine ax_q (q_mov rfl) ?_
                  refine ax_q (q_ixoI rfl rfl (by omega) (by omega)) ?_
                  refine ax_e (e_str (q := intRow _) (row := intRow _) (rs' := (p.set (tosI l[k] (k : Int))[j].toNat _).map intRow) rfl rfl rfl rfl rfl rfl (dAt (by omega)) rfl rfl setI) ?_
                  refine ax_nil ?_
                  refine cx_keep rfl rfl ?_
                  refine cx_ops ?_
                  refine ax_qe (r' := int ((j + 1 : Nat) : Int)) (q_ibin rfl rfl rfl) (by rw [wi (by omega) (by omega)]; rfl) ?_
                  refine ax_q (q_mov rfl) ?_
                  refine ax_nil ?_
                  exact ⟨_, (j + 1, p.set (tosI l[k] (k : Int))[j].toNat ((ds.getD k 0) + 1)), by simp only; omega, ⟨by simp only; omega, rfl, by simp only [List.length_set]; exact hpl, by simp only; rw [putL_step h9x hp, hb]; exact put1_ok h10⟩, by repeat (first | exact trivial | refine ⟨rfl, ?_⟩ | refine ⟨?_, ?_⟩)⟩
              · have h9 := dF h9
                try simp only [List.length_cons, List.length_nil] at h9
                have h9x : j = (tosI l[k] (k : Int)).length := by omega
                refine cx_exit rfl ?_
                refine cx_keep rfl rfl ?_
                refine cx_ops ?_
                refine ax_qe (r' := int ((k + 1 : Nat) : Int)) (q_ibin rfl rfl rfl) (by rw [wi (by omega) (by omega)]; rfl) ?_
                refine ax_q (q_mov rfl) ?_
                refine ax_nil ?_
                exact ⟨_, (k + 1, p), by simp only; omega, ⟨by simp only; omega, rfl, by simp only; rw [runH_next hr h1x]; exact hst.trans (by have hq := hp; rw [h9x, List.take_length] at hq; exact hq)⟩, by repeat (first | exact trivial | refine ⟨rfl, ?_⟩ | refine ⟨?_, ?_⟩)⟩
          · have h4 := dF h4
            exfalso; omega
        · have h3 := dF h3
          refine cx_ops ?_
          refine ax_q (q_ibin rfl rfl rfl) ?_
          refine ax_q (q_mov rfl) ?_
          refine ax_nil ?_
          refine cx_keep rfl rfl ?_
          refine cx_cond rfl (fun h4 => ?_) (fun h4 => ?_)
          · have h4 := dT h4
            have hb : behI l[k] (ds.getD k 0) = (ds.getD k 0) + 1 := by unfold behI; rw [if_pos (by omega)]
            have hlw : lowI l[k] = 0 := by unfold lowI; rw [if_pos (by omega)]
            have ht : tosI l[k] (k : Int) = [(k : Int) + 1] := by unfold tosI; rw [if_neg (by omega)]
            have htl : (tosI l[k] (k : Int)).length = 1 := by rw [ht]; rfl
            refine cx_ops ?_
            refine ax_q (q_mov rfl) ?_
            refine ax_q (q_add rfl rfl (by omega)) ?_
            refine ax_q (q_mov rfl) ?_
            refine ax_q (q_mov rfl) ?_
            refine ax_nil ?_
            refine cx_keep rfl rfl ?_
            refine cx_seq ?_
            refine cx_seq ?_
            refine cx_ops ?_
            refine ax_q (q_mov rfl) ?_
            refine ax_q (q_mov rfl) ?_
            refine ax_q (q_ixo rfl rfl (by omega)) ?_
            refine ax_q (q_load1_rptr (r := intRow (ds.getD k 0)) rfl rfl (dAt (by omega)) rfl) ?_
            refine ax_q (q_mov rfl) ?_
            refine ax_q (q_ibin rfl rfl rfl) ?_
            refine ax_q (q_mov rfl) ?_
            apply ax_or rfl rfl
            · intro g
              have g := dF g
              refine ax_q (q_mov rfl) ?_
              refine ax_q (q_ibin rfl rfl rfl) ?_
              exact ax_nil ⟨rfl, by repeat (first | exact trivial | refine ⟨rfl, ?_⟩ | refine ⟨?_, ?_⟩)⟩
            refine ax_nil ?_
            refine cx_keep rfl rfl ?_
            refine cx_cond rfl (fun h8 => ?_) (fun h8 => ?_)
            · have h8 := (fun h => (or_T h).imp dT dT) h8
              refine cx_seq ?_
              refine cx_ops ?_
              refine ax_q (q_mov rfl) ?_
              refine ax_q (q_mov rfl) ?_
              refine ax_nil ?_
              refine cx_keep rfl rfl ?_
              have hc : codeOK l = false := codeOK_no h0 hr h1x (stepK_3 (by rw [hlw, hb]; exact h8))
              refine cx_wk (wk_virt 901 1 rfl rfl rfl) ?_
              refine cx_wk (wk_zs 2 901 [] rfl rfl) ?_
              refine cx_ret (retN (fun _ => 0) [901] rfl rfl rfl rfl rfl ?_)
              exact ⟨[], by rw [hc]; rfl, rfl, fun h => by rw [hc] at h; cases h⟩
            · have h8 := (fun h => And.intro (dF (or_F h).1) (dF (or_F h).2)) h8
              have hst := stepK_4 (x := l[k]) (ds := ds) (n := (l.length : Int)) h2.1 h2.2 (by rw [hlw]; exact h8.1) (by rw [hb]; exact h8.2)
              have htb := tosI_b (x := l[k]) (i := (k : Int)) (n := (l.length : Int)) (by omega) (by omega) h2.2
              refine cx_skip ?_
              refine cx_keep rfl rfl ?_
              refine cx_seq ?_
              refine cx_ops ?_
              refine ax_q (q_mov rfl) ?_
              first | refine ax_q (q_lenS_map rfl) ?_ | refine ax_q (q_lenS_osl rfl) ?_ | refine ax_q (q_lenS_zs rfl) ?_ | refine ax_q (q_lenS rfl) ?_
              refine ax_q (q_mov rfl) ?_
              refine ax_nil ?_
              refine cx_keep rfl rfl ?_
              refine cx_block ?_
              refine cx_loopU (fun n (p : Nat × List Int) => p.1 ≤ (tosI l[k] (k : Int)).length ∧ n = (tosI l[k] (k : Int)).length - p.1 ∧ p.2.length = l.length + 1 ∧ putL (behI l[k] (ds.getD k 0)) ds ((tosI l[k] (k : Int)).take p.1) = some p.2) (fun p => [(80, int p.1)]) (fun p => [(19, .rows 1 (p.2.map intRow)), (48, .rows 1 (([(k : Int) + 1] : List Int).map intRow))]) ⟨_, (0, ds), ⟨Nat.zero_le _, rfl, hdl, rfl⟩, by repeat (first | exact trivial | refine ⟨rfl, ?_⟩ | refine ⟨?_, ?_⟩)⟩ ?_
              rintro n ⟨j, p⟩ ⟨hj, rfl, hpl, hp⟩
              simp only at hj hpl hp ⊢
              refine cx_seq ?_
              refine cx_ops ?_
              refine ax_q (q_ibin rfl rfl rfl) ?_
              refine ax_nil ?_
              refine cx_keep rfl rfl ?_
              refine cx_seq ?_
              refine cx_cond rfl (fun h9 => ?_) (fun h9 => ?_)
              · have h9 := dT h9
                try simp only [List.length_cons, List.length_nil] at h9
                have h9x : j < (tosI l[k] (k : Int)).length := by omega
                have htj := htb _ (List.getElem_mem h9x)
                have hte : ([(k : Int) + 1] : List Int)[j]? = some (tosI l[k] (k : Int))[j] := by rw [← List.getElem?_eq_getElem h9x, ht]
                refine cx_skip ?_
                refine cx_keep rfl rfl ?_
                refine cx_seq ?_
                refine cx_block ?_
                refine cx_seq ?_
                refine cx_ops ?_
                refine ax_q (q_ixo rfl rfl (by first | omega | (simp only [List.length_cons, List.length_nil]; omega))) ?_
                refine ax_q (q_load1_rptr (r := intRow ((tosI l[k] (k : Int))[j])) rfl rfl (tosAt hte) rfl) ?_
                refine ax_q (q_mov rfl) ?_
                refine ax_nil ?_
                refine cx_keep rfl rfl ?_
                refine cx_seq ?_
                refine cx_seq ?_
                refine cx_ops ?_
                refine ax_q (q_mov rfl) ?_
                refine ax_q (q_mov rfl) ?_
                refine ax_q (q_ixoI rfl rfl (by omega) (by omega)) ?_
                refine ax_q (q_load1_rptr (r := intRow (p.getD (tosI l[k] (k : Int))[j].toNat 0)) rfl rfl (dAt (by omega)) rfl) ?_
                refine ax_q (q_ibin rfl rfl rfl) ?_
                refine ax_q (q_mov rfl) ?_
                apply ax_and rfl rfl
                · intro g
                  have g := dT g
                  refine ax_q (q_mov rfl) ?_
                  refine ax_q (q_mov rfl) ?_
                  refine ax_q (q_ixoI rfl rfl (by omega) (by omega)) ?_
                  refine ax_q (q_load1_rptr (r := intRow (p.getD (tosI l[k] (k : Int))[j].toNat 0)) rfl rfl (dAt (by omega)) rfl) ?_
                  refine ax_q (q_mov rfl) ?_
                  refine ax_q (q_ibin rfl rfl rfl) ?_
                  exact ax_nil ⟨rfl, by repeat (first | exact trivial | refine ⟨rfl, ?_⟩ | refine ⟨?_, ?_⟩)⟩
                refine ax_nil ?_
                refine cx_keep rfl rfl ?_
                refine cx_cond rfl (fun h10 => ?_) (fun h10 => ?_)
                · have h10 := (fun h => And.intro (dT (and_T h).1) (nT (and_T h).2)) h10
                  refine cx_seq ?_
                  refine cx_ops ?_
                  refine ax_q (q_mov rfl) ?_
                  refine ax_q (q_mov rfl) ?_
                  refine ax_nil ?_
                  refine cx_keep rfl rfl ?_
                  have hc : codeOK l = false := codeOK_no h0 hr h1x (hst.trans (putL_none (j := j + 1) (by rw [putL_step h9x hp]; exact put1_no (by rw [hb]; exact h10))))
                  refine cx_wk (wk_virt 901 1 rfl rfl rfl) ?_
                  refine cx_wk (wk_zs 2 901 [] rfl rfl) ?_
                  refine cx_ret (retN (fun _ => 0) [901] rfl rfl rfl rfl rfl ?_)
                  exact ⟨[], by rw [hc]; rfl, rfl, fun h => by rw [hc] at h; cases h⟩
                · have h10 := (fun h => (and_F h).imp dF nF) h10
                  refine cx_skip ?_
                  refine cx_keep rfl rfl ?_
                  refine cx_ops ?_
                  refine ax_q (q_mov rfl) ?_
                  refine ax_q (q_mov rfl) ?_
                  refine ax_q (q_mov rfl) ?_
                  refine ax_q (q_ixoI rfl rfl (by omega) (by omega)) ?_
                  refine ax_e (e_str (q := intRow _) (row := intRow _) (rs' := (p.set (tosI l[k] (k : Int))[j].toNat _).map intRow) rfl rfl rfl rfl rfl rfl (dAt (by omega)) rfl rfl setI) ?_
                  refine ax_nil ?_
                  refine cx_keep rfl rfl ?_
                  refine cx_ops ?_
                  refine ax_qe (r' := int ((j + 1 : Nat) : Int)) (q_ibin rfl rfl rfl) (by rw [wi (by omega) (by omega)]; rfl) ?_
                  refine ax_q (q_mov rfl) ?_
                  refine ax_nil ?_
                  exact ⟨_, (j + 1, p.set (tosI l[k] (k : Int))[j].toNat ((ds.getD k 0) + 1)), by simp only; omega, ⟨by simp only; omega, rfl, by simp only [List.length_set]; exact hpl, by simp only; rw [putL_step h9x hp, hb]; exact put1_ok h10⟩, by repeat (first | exact trivial | refine ⟨rfl, ?_⟩ | refine ⟨?_, ?_⟩)⟩
              · have h9 := dF h9
                try simp only [List.length_cons, List.length_nil] at h9
                have h9x : j = (tosI l[k] (k : Int)).length := by omega
                refine cx_exit rfl ?_
                refine cx_keep rfl rfl ?_
                refine cx_ops ?_
                refine ax_qe (r' := int ((k + 1 : Nat) : Int)) (q_ibin rfl rfl rfl) (by rw [wi (by omega) (by omega)]; rfl) ?_
                refine ax_q (q_mov rfl) ?_
                refine ax_nil ?_
                exact ⟨_, (k + 1, p), by simp only; omega, ⟨by simp only; omega, rfl, by simp only; rw [runH_next hr h1x]; exact hst.trans (by have hq := hp; rw [h9x, List.take_length] at hq; exact hq)⟩, by repeat (first | exact trivial | refine ⟨rfl, ?_⟩ | refine ⟨?_, ?_⟩)⟩
          · have h4 := dF h4
            refine cx_seq ?_
            refine cx_ops ?_
            refine ax_q (q_ibin rfl rfl rfl) ?_
            refine ax_q (q_mov rfl) ?_
            refine ax_nil ?_
            refine cx_keep rfl rfl ?_
            refine cx_cond rfl (fun h5 => ?_) (fun h5 => ?_)
            · have h5 := dT h5
              have hb : behI l[k] (ds.getD k 0) = (ds.getD k 0) - 1 := by unfold behI; rw [if_neg (by omega), if_pos (by omega)]
              have hlw : lowI l[k] = 2 := by unfold lowI; rw [if_neg (by omega), if_pos (by omega)]
              have ht : tosI l[k] (k : Int) = [(k : Int) + 1] := by unfold tosI; rw [if_neg (by omega)]
              have htl : (tosI l[k] (k : Int)).length = 1 := by rw [ht]; rfl
              refine cx_ops ?_
              refine ax_q (q_mov rfl) ?_
              refine ax_q (q_sub rfl rfl (by omega)) ?_
              refine ax_q (q_mov rfl) ?_
              refine ax_q (q_mov rfl) ?_
              refine ax_nil ?_
              refine cx_keep rfl rfl ?_
              refine cx_seq ?_
              refine cx_seq ?_
              refine cx_ops ?_
              refine ax_q (q_mov rfl) ?_
              refine ax_q (q_mov rfl) ?_
              refine ax_q (q_ixo rfl rfl (by omega)) ?_
              refine ax_q (q_load1_rptr (r := intRow (ds.getD k 0)) rfl rfl (dAt (by omega)) rfl) ?_
              refine ax_q (q_mov rfl) ?_
              refine ax_q (q_ibin rfl rfl rfl) ?_
              refine ax_q (q_mov rfl) ?_
              apply ax_or rfl rfl
              · intro g
                have g := dF g
                refine ax_q (q_mov rfl) ?_
                refine ax_q (q_ibin rfl rfl rfl) ?_
                exact ax_nil ⟨rfl, by repeat (first | exact trivial | refine ⟨rfl, ?_⟩ | refine ⟨?_, ?_⟩)⟩
              refine ax_nil ?_
              refine cx_keep rfl rfl ?_
              refine cx_cond rfl (fun h8 => ?_) (fun h8 => ?_)
              · have h8 := (fun h => (or_T h).imp dT dT) h8
                refine cx_seq ?_
                refine cx_ops ?_
                refine ax_q (q_mov rfl) ?_
                refine ax_q (q_mov rfl) ?_
                refine ax_nil ?_
                refine cx_keep rfl rfl ?_
                have hc : codeOK l = false := codeOK_no h0 hr h1x (stepK_3 (by rw [hlw, hb]; exact h8))
                refine cx_wk (wk_virt 901 1 rfl rfl rfl) ?_
                refine cx_wk (wk_zs 2 901 [] rfl rfl) ?_
                refine cx_ret (retN (fun _ => 0) [901] rfl rfl rfl rfl rfl ?_)
                exact ⟨[], by rw [hc]; rfl, rfl, fun h => by rw [hc] at h; cases h⟩
              · have h8 := (fun h => And.intro (dF (or_F h).1) (dF (or_F h).2)) h8
                have hst := stepK_4 (x := l[k]) (ds := ds) (n := (l.length : Int)) h2.1 h2.2 (by rw [hlw]; exact h8.1) (by rw [hb]; exact h8.2)
                have htb := tosI_b (x := l[k]) (i := (k : Int)) (n := (l.length : Int)) (by omega) (by omega) h2.2
                refine cx_skip ?_
                refine cx_keep rfl rfl ?_
                refine cx_seq ?_
                refine cx_ops ?_
                refine ax_q (q_mov rfl) ?_
                first | refine ax_q (q_lenS_map rfl) ?_ | refine ax_q (q_lenS_osl rfl) ?_ | refine ax_q (q_lenS_zs rfl) ?_ | refine ax_q (q_lenS rfl) ?_
                refine ax_q (q_mov rfl) ?_
                refine ax_nil ?_
                refine cx_keep rfl rfl ?_
                refine cx_block ?_
                refine cx_loopU (fun n (p : Nat × List Int) => p.1 ≤ (tosI l[k] (k : Int)).length ∧ n = (tosI l[k] (k : Int)).length - p.1 ∧ p.2.length = l.length + 1 ∧ putL (behI l[k] (ds.getD k 0)) ds ((tosI l[k] (k : Int)).take p.1) = some p.2) (fun p => [(80, int p.1)]) (fun p => [(19, .rows 1 (p.2.map intRow)), (48, .rows 1 (([(k : Int) + 1] : List Int).map intRow))]) ⟨_, (0, ds), ⟨Nat.zero_le _, rfl, hdl, rfl⟩, by repeat (first | exact trivial | refine ⟨rfl, ?_⟩ | refine ⟨?_, ?_⟩)⟩ ?_
                rintro n ⟨j, p⟩ ⟨hj, rfl, hpl, hp⟩
                simp only at hj hpl hp ⊢
                refine cx_seq ?_
                refine cx_ops ?_
                refine ax_q (q_ibin rfl rfl rfl) ?_
                refine ax_nil ?_
                refine cx_keep rfl rfl ?_
                refine cx_seq ?_
                refine cx_cond rfl (fun h9 => ?_) (fun h9 => ?_)
                · have h9 := dT h9
                  try simp only [List.length_cons, List.length_nil] at h9
                  have h9x : j < (tosI l[k] (k : Int)).length := by omega
                  have htj := htb _ (List.getElem_mem h9x)
                  have hte : ([(k : Int) + 1] : List Int)[j]? = some (tosI l[k] (k : Int))[j] := by rw [← List.getElem?_eq_getElem h9x, ht]
                  refine cx_skip ?_
                  refine cx_keep rfl rfl ?_
                  refine cx_seq ?_
                  refine cx_block ?_
                  refine cx_seq ?_
                  refine cx_ops ?_
                  refine ax_q (q_ixo rfl rfl (by first | omega | (simp only [List.length_cons, List.length_nil]; omega))) ?_
                  refine ax_q (q_load1_rptr (r := intRow ((tosI l[k] (k : Int))[j])) rfl rfl (tosAt hte) rfl) ?_
                  refine ax_q (q_mov rfl) ?_
                  refine ax_nil ?_
                  refine cx_keep rfl rfl ?_
                  refine cx_seq ?_
                  refine cx_seq ?_
                  refine cx_ops ?_
                  refine ax_q (q_mov rfl) ?_
                  refine ax_q (q_mov rfl) ?_
                  refine ax_q (q_ixoI rfl rfl (by omega) (by omega)) ?_
                  refine ax_q (q_load1_rptr (r := intRow (p.getD (tosI l[k] (k : Int))[j].toNat 0)) rfl rfl (dAt (by omega)) rfl) ?_
                  refine ax_q (q_ibin rfl rfl rfl) ?_
                  refine ax_q (q_mov rfl) ?_
                  apply ax_and rfl rfl
                  · intro g
                    have g := dT g
                    refine ax_q (q_mov rfl) ?_
                    refine ax_q (q_mov rfl) ?_
                    refine ax_q (q_ixoI rfl rfl (by omega) (by omega)) ?_
                    refine ax_q (q_load1_rptr (r := intRow (p.getD (tosI l[k] (k : Int))[j].toNat 0)) rfl rfl (dAt (by omega)) rfl) ?_
                    refine ax_q (q_mov rfl) ?_
                    refine ax_q (q_ibin rfl rfl rfl) ?_
                    exact ax_nil ⟨rfl, by repeat (first | exact trivial | refine ⟨rfl, ?_⟩ | refine ⟨?_, ?_⟩)⟩
                  refine ax_nil ?_
                  refine cx_keep rfl rfl ?_
                  refine cx_cond rfl (fun h10 => ?_) (fun h10 => ?_)
                  · have h10 := (fun h => And.intro (dT (and_T h).1) (nT (and_T h).2)) h10
                    refine cx_seq ?_
                    refine cx_ops ?_
                    refine ax_q (q_mov rfl) ?_
                    refine ax_q (q_mov rfl) ?_
                    refine ax_nil ?_
                    refine cx_keep rfl rfl ?_
                    have hc : codeOK l = false := codeOK_no h0 hr h1x (hst.trans (putL_none (j := j + 1) (by rw [putL_step h9x hp]; exact put1_no (by rw [hb]; exact h10))))
                    refine cx_wk (wk_virt 901 1 rfl rfl rfl) ?_
                    refine cx_wk (wk_zs 2 901 [] rfl rfl) ?_
                    refine cx_ret (retN (fun _ => 0) [901] rfl rfl rfl rfl rfl ?_)
                    exact ⟨[], by rw [hc]; rfl, rfl, fun h => by rw [hc] at h; cases h⟩
                  · have h10 := (fun h => (and_F h).imp dF nF) h10
                    refine cx_skip ?_
                    refine cx_keep rfl rfl ?_
                    refine cx_ops ?_
                    refine ax_q (q_mov rfl) ?_
                    refine ax_q (q_mov rfl) ?_
                    refine ax_q (q_mov rfl) ?_
                    refine ax_q (q_ixoI rfl rfl (by omega) (by omega)) ?_
                    refine ax_e (e_str (q := intRow _) (row := intRow _) (rs' := (p.set (tosI l[k] (k : Int))[j].toNat _).map intRow) rfl rfl rfl rfl rfl rfl (dAt (by omega)) rfl rfl setI) ?_
                    refine ax_nil ?_
                    refine cx_keep rfl rfl ?_
                    refine cx_ops ?_
                    refine ax_qe (r' := int ((j + 1 : Nat) : Int)) (q_ibin rfl rfl rfl) (by rw [wi (by omega) (by omega)]; rfl) ?_
                    refine ax_q (q_mov rfl) ?_
                    refine ax_nil ?_
                    exact ⟨_, (j + 1, p.set (tosI l[k] (k : Int))[j].toNat ((ds.getD k 0) - 1)), by simp only; omega, ⟨by simp only; omega, rfl, by simp only [List.length_set]; exact hpl, by simp only; rw [putL_step h9x hp, hb]; exact put1_ok h10⟩, by repeat (first | exact trivial | refine ⟨rfl, ?_⟩ | refine ⟨?_, ?_⟩)⟩
                · have h9 := dF h9
                  try simp only [List.length_cons, List.length_nil] at h9
                  have h9x : j = (tosI l[k] (k : Int)).length := by omega
                  refine cx_exit rfl ?_
                  refine cx_keep rfl rfl ?_
                  refine cx_ops ?_
                  refine ax_qe (r' := int ((k + 1 : Nat) : Int)) (q_ibin rfl rfl rfl) (by rw [wi (by omega) (by omega)]; rfl) ?_
                  refine ax_q (q_mov rfl) ?_
                  refine ax_nil ?_
                  exact ⟨_, (k + 1, p), by simp only; omega, ⟨by simp only; omega, rfl, by simp only; rw [runH_next hr h1x]; exact hst.trans (by have hq := hp; rw [h9x, List.take_length] at hq; exact hq)⟩, by repeat (first | exact trivial | refine ⟨rfl, ?_⟩ | refine ⟨?_, ?_⟩)⟩
            · have h5 := dF h5
              refine cx_seq ?_
              refine cx_seq ?_
              refine cx_ops ?_
              refine ax_q (q_ibin rfl rfl rfl) ?_
              refine ax_q (q_mov rfl) ?_
              refine ax_nil ?_
              refine cx_keep rfl rfl ?_
              refine cx_cond rfl (fun h6 => ?_) (fun h6 => ?_)
              · have h6 := dT h6
                refine cx_skip ?_
                refine cx_keep rfl rfl ?_
                refine cx_cond rfl (fun h7 => ?_) (fun h7 => ?_)
                · have h7 := dT h7
                  have hb : behI l[k] (ds.getD k 0) = (ds.getD k 0) := by unfold behI; rw [if_neg (by omega), if_neg (by omega)]
                  have hlw : lowI l[k] = 1 := by unfold lowI; rw [if_neg (by omega), if_neg (by omega)]
                  have ht : tosI l[k] (k : Int) = [(k : Int) + 1, l[k].N] := by unfold tosI; rw [if_pos (by omega)]
                  have htl : (tosI l[k] (k : Int)).length = 2 := by rw [ht]; rfl
                  refine cx_ops ?_
                  refine ax_q (q_mov rfl) ?_
                  first | refine ax_q (q_fadr_ptr rfl) ?_ | refine ax_q (q_fadr_rptr rfl) ?_ | refine ax_q (q_fadr_ip rfl) ?_
                  first | refine ax_q (q_load1_ptr rfl rfl rfl) ?_ | refine ax_q (q_load1_ip rfl) ?_ | refine ax_q (q_load1_rptr rfl rfl rfl rfl) ?_ | refine ax_q (q_load1_rptr rfl rfl (by assumption) rfl) ?_ | refine ax_q (q_load1_rptr rfl rfl (mapAt (by first | assumption | omega)) rfl) ?_
                  refine ax_e (e_bslice rfl (by decide) rfl rfl) ?_
                  refine ax_e (e_appn (n' := 2) (rs' := ([(k : Int) + 1, l[k].N] : List Int).map intRow) rfl rfl (by simp) rfl (src_osl rfl (by simp)) (.inl (by decide)) (hbnd (by simp) (by simp) (by decide)) rfl rfl) ?_
                  refine ax_q (q_mov rfl) ?_
                  refine ax_nil ?_
                  refine cx_keep rfl rfl ?_
                  refine cx_seq ?_
                  refine cx_seq ?_
                  refine cx_ops ?_
                  refine ax_q (q_mov rfl) ?_
                  refine ax_q (q_mov rfl) ?_
                  refine ax_q (q_ixo rfl rfl (by omega)) ?_
                  refine ax_q (q_load1_rptr (r := intRow (ds.getD k 0)) rfl rfl (dAt (by omega)) rfl) ?_
                  refine ax_q (q_mov rfl) ?_
                  refine ax_q (q_ibin rfl rfl rfl) ?_
                  refine ax_q (q_mov rfl) ?_
                  apply ax_or rfl rfl
                  · intro g
                    have g := dF g
                    refine ax_q (q_mov rfl) ?_
                    refine ax_q (q_ibin rfl rfl rfl) ?_
                    exact ax_nil ⟨rfl, by repeat (first | exact trivial | refine ⟨rfl, ?_⟩ | refine ⟨?_, ?_⟩)⟩
                  refine ax_nil ?_
                  refine cx_keep rfl rfl ?_
                  refine cx_cond rfl (fun h8 => ?_) (fun h8 => ?_)
                  · have h8 := (fun h => (or_T h).imp dT dT) h8
                    refine cx_seq ?_
                    refine cx_ops ?_
                    refine ax_q (q_mov rfl) ?_
                    refine ax_q (q_mov rfl) ?_
                    refine ax_nil ?_
                    refine cx_keep rfl rfl ?_
                    have hc : codeOK l = false := codeOK_no h0 hr h1x (stepK_3 (by rw [hlw, hb]; exact h8))
                    refine cx_wk (wk_virt 901 1 rfl rfl rfl) ?_
                    refine cx_wk (wk_zs 2 901 [] rfl rfl) ?_
                    refine cx_ret (retN (fun _ => 0) [901] rfl rfl rfl rfl rfl ?_)
                    exact ⟨[], by rw [hc]; rfl, rfl, fun h => by rw [hc] at h; cases h⟩
                  · have h8 := (fun h => And.intro (dF (or_F h).1) (dF (or_F h).2)) h8
                    have hst := stepK_4 (x := l[k]) (ds := ds) (n := (l.length : Int)) h2.1 h2.2 (by rw [hlw]; exact h8.1) (by rw [hb]; exact h8.2)
                    have htb := tosI_b (x := l[k]) (i := (k : Int)) (n := (l.length : Int)) (by omega) (by omega) h2.2
                    refine cx_skip ?_
                    refine cx_keep rfl rfl ?_
                    refine cx_seq ?_
                    refine cx_ops ?_
                    refine ax_q (q_mov rfl) ?_
                    first | refine ax_q (q_lenS_map rfl) ?_ | refine ax_q (q_lenS_osl rfl) ?_ | refine ax_q (q_lenS_zs rfl) ?_ | refine ax_q (q_lenS rfl) ?_
                    refine ax_q (q_mov rfl) ?_
                    refine ax_nil ?_
                    refine cx_keep rfl rfl ?_
                    refine cx_block ?_
                    refine cx_loopU (fun n (p : Nat × List Int) => p.1 ≤ (tosI l[k] (k : Int)).length ∧ n = (tosI l[k] (k : Int)).length - p.1 ∧ p.2.length = l.length + 1 ∧ putL (behI l[k] (ds.getD k 0)) ds ((tosI l[k] (k : Int)).take p.1) = some p.2) (fun p => [(80, int p.1)]) (fun p => [(19, .rows 1 (p.2.map intRow)), (48, .rows 1 (([(k : Int) + 1, l[k].N] : List Int).map intRow))]) ⟨_, (0, ds), ⟨Nat.zero_le _, rfl, hdl, rfl⟩, by repeat (first | exact trivial | refine ⟨rfl, ?_⟩ | refine ⟨?_, ?_⟩)⟩ ?_
                    rintro n ⟨j, p⟩ ⟨hj, rfl, hpl, hp⟩
                    simp only at hj hpl hp ⊢
                    refine cx_seq ?_
                    refine cx_ops ?_
                    refine ax_q (q_ibin rfl rfl rfl) ?_
                    refine ax_nil ?_
                    refine cx_keep rfl rfl ?_
                    refine cx_seq ?_
                    refine cx_cond rfl (fun h9 => ?_) (fun h9 => ?_)
                    · have h9 := dT h9
                      try simp only [List.length_cons, List.length_nil] at h9
                      have h9x : j < (tosI l[k] (k : Int)).length := by omega
                      have htj := htb _ (List.getElem_mem h9x)
                      have hte : ([(k : Int) + 1, l[k].N] : List Int)[j]? = some (tosI l[k] (k : Int))[j] := by rw [← List.getElem?_eq_getElem h9x, ht]
                      refine cx_skip ?_
                      refine cx_keep rfl rfl ?_
                      refine cx_seq ?_
                      refine cx_block ?_
                      refine cx_seq ?_
                      refine cx_ops ?_
                      refine ax_q (q_ixo rfl rfl (by first | omega | (simp only [List.length_cons, List.length_nil]; omega))) ?_
                      refine ax_q (q_load1_rptr (r := intRow ((tosI l[k] (k : Int))[j])) rfl rfl (tosAt hte) rfl) ?_
                      refine ax_q (q_mov rfl) ?_
                      refine ax_nil ?_
                      refine cx_keep rfl rfl ?_
                      refine cx_seq ?_
                      refine cx_seq ?_
                      refine cx_ops ?_
                      refine ax_q (q_mov rfl) ?_
                      refine ax_q (q_mov rfl) ?_
                      refine ax_q (q_ixoI rfl rfl (by omega) (by omega)) ?_
                      refine ax_q (q_load1_rptr (r := intRow (p.getD (tosI l[k] (k : Int))[j].toNat 0)) rfl rfl (dAt (by omega)) rfl) ?_
                      refine ax_q (q_ibin rfl rfl rfl) ?_
                      refine ax_q (q_mov rfl) ?_
                      apply ax_and rfl rfl
                      · intro g
                        have g := dT g
                        refine ax_q (q_mov rfl) ?_
                        refine ax_q (q_mov rfl) ?_
                        refine ax_q (q_ixoI rfl rfl (by omega) (by omega)) ?_
                        refine ax_q (q_load1_rptr (r := intRow (p.getD (tosI l[k] (k : Int))[j].toNat 0)) rfl rfl (dAt (by omega)) rfl) ?_
                        refine ax_q (q_mov rfl) ?_
                        refine ax_q (q_ibin rfl rfl rfl) ?_
                        exact ax_nil ⟨rfl, by repeat (first | exact trivial | refine ⟨rfl, ?_⟩ | refine ⟨?_, ?_⟩)⟩
                      refine ax_nil ?_
                      refine cx_keep rfl rfl ?_
                      refine cx_cond rfl (fun h10 => ?_) (fun h10 => ?_)
                      · have h10 := (fun h => And.intro (dT (and_T h).1) (nT (and_T h).2)) h10
                        refine cx_seq ?_
                        refine cx_ops ?_
                        refine ax_q (q_mov rfl) ?_
                        refine ax_q (q_mov rfl) ?_
                        refine ax_nil ?_
                        refine cx_keep rfl rfl ?_
                        have hc : codeOK l = false := codeOK_no h0 hr h1x (hst.trans (putL_none (j := j + 1) (by rw [putL_step h9x hp]; exact put1_no (by rw [hb]; exact h10))))
                        refine cx_wk (wk_virt 901 1 rfl rfl rfl) ?_
                        refine cx_wk (wk_zs 2 901 [] rfl rfl) ?_
                        refine cx_ret (retN (fun _ => 0) [901] rfl rfl rfl rfl rfl ?_)
                        exact ⟨[], by rw [hc]; rfl, rfl, fun h => by rw [hc] at h; cases h⟩
                      · have h10 := (fun h => (and_F h).imp dF nF) h10
                        refine cx_skip ?_
                        refine cx_keep rfl rfl ?_
                        refine cx_ops ?_
                        refine ax_q (q_mov rfl) ?_
                        refine ax_q (q_mov rfl) ?_
                        refine ax_q (q_mov rfl) ?_
                        refine ax_q (q_ixoI rfl rfl (by omega) (by omega)) ?_
                        refine ax_e (e_str (q := intRow _) (row := intRow _) (rs' := (p.set (tosI l[k] (k : Int))[j].toNat _).map intRow) rfl rfl rfl rfl rfl rfl (dAt (by omega)) rfl rfl setI) ?_
                        refine ax_nil ?_
                        refine cx_keep rfl rfl ?_
                        refine cx_ops ?_
                        refine ax_qe (r' := int ((j + 1 : Nat) : Int)) (q_ibin rfl rfl rfl) (by rw [wi (by omega) (by omega)]; rfl) ?_
                        refine ax_q (q_mov rfl) ?_
                        refine ax_nil ?_
                        exact ⟨_, (j + 1, p.set (tosI l[k] (k : Int))[j].toNat ((ds.getD k 0))), by simp only; omega, ⟨by simp only; omega, rfl, by simp only [List.length_set]; exact hpl, by simp only; rw [putL_step h9x hp, hb]; exact put1_ok h10⟩, by repeat (first | exact trivial | refine ⟨rfl, ?_⟩ | refine ⟨?_, ?_⟩)⟩
                    · have h9 := dF h9
                      try simp only [List.length_cons, List.length_nil] at h9
                      have h9x : j = (tosI l[k] (k : Int)).length := by omega
                      refine cx_exit rfl ?_
                      refine cx_keep rfl rfl ?_
                      refine cx_ops ?_
                      refine ax_qe (r' := int ((k + 1 : Nat) : Int)) (q_ibin rfl rfl rfl) (by rw [wi (by omega) (by omega)]; rfl) ?_
                      refine ax_q (q_mov rfl) ?_
                      refine ax_nil ?_
                      exact ⟨_, (k + 1, p), by simp only; omega, ⟨by simp only; omega, rfl, by simp only; rw [runH_next hr h1x]; exact hst.trans (by have hq := hp; rw [h9x, List.take_length] at hq; exact hq)⟩, by repeat (first | exact trivial | refine ⟨rfl, ?_⟩ | refine ⟨?_, ?_⟩)⟩
                · have h7 := dF h7
                  exfalso; omega
              · have h6 := dF h6
                refine cx_ops ?_
                refine ax_q (q_ibin rfl rfl rfl) ?_
                refine ax_q (q_mov rfl) ?_
                refine ax_nil ?_
                refine cx_keep rfl rfl ?_
                refine cx_cond rfl (fun h7 => ?_) (fun h7 => ?_)
                · have h7 := dT h7
                  have hb : behI l[k] (ds.getD k 0) = (ds.getD k 0) := by unfold behI; rw [if_neg (by omega), if_neg (by omega)]
                  have hlw : lowI l[k] = 1 := by unfold lowI; rw [if_neg (by omega), if_neg (by omega)]
                  have ht : tosI l[k] (k : Int) = [(k : Int) + 1, l[k].N] := by unfold tosI; rw [if_pos (by omega)]
                  have htl : (tosI l[k] (k : Int)).length = 2 := by rw [ht]; rfl
                  refine cx_ops ?_
                  refine ax_q (q_mov rfl) ?_
                  first | refine ax_q (q_fadr_ptr rfl) ?_ | refine ax_q (q_fadr_rptr rfl) ?_ | refine ax_q (q_fadr_ip rfl) ?_
                  first | refine ax_q (q_load1_ptr rfl rfl rfl) ?_ | refine ax_q (q_load1_ip rfl) ?_ | refine ax_q (q_load1_rptr rfl rfl rfl rfl) ?_ | refine ax_q (q_load1_rptr rfl rfl (by assumption) rfl) ?_ | refine ax_q (q_load1_rptr rfl rfl (mapAt (by first | assumption | omega)) rfl) ?_
                  refine ax_e (e_bslice rfl (by decide) rfl rfl) ?_
                  refine ax_e (e_appn (n' := 2) (rs' := ([(k : Int) + 1, l[k].N] : List Int).map intRow) rfl rfl (by simp) rfl (src_osl rfl (by simp)) (.inl (by decide)) (hbnd (by simp) (by simp) (by decide)) rfl rfl) ?_
                  refine ax_q (q_mov rfl) ?_
                  refine ax_nil ?_
                  refine cx_keep rfl rfl ?_
                  refine cx_seq ?_
                  refine cx_seq ?_
                  refine cx_ops ?_
                  refine ax_q (q_mov rfl) ?_
                  refine ax_q (q_mov rfl) ?_
                  refine ax_q (q_ixo rfl rfl (by omega)) ?_
                  refine ax_q (q_load1_rptr (r := intRow (ds.getD k 0)) rfl rfl (dAt (by omega)) rfl) ?_
                  refine ax_q (q_mov rfl) ?_
                  refine ax_q (q_ibin rfl rfl rfl) ?_
                  refine ax_q (q_mov rfl) ?_
                  apply ax_or rfl rfl
                  · intro g
                    have g := dF g
                    refine ax_q (q_mov rfl) ?_
                    refine ax_q (q_ibin rfl rfl rfl) ?_
                    exact ax_nil ⟨rfl, by repeat (first | exact trivial | refine ⟨rfl, ?_⟩ | refine ⟨?_, ?_⟩)⟩
                  refine ax_nil ?_
                  refine cx_keep rfl rfl ?_
                  refine cx_cond rfl (fun h8 => ?_) (fun h8 => ?_)
                  · have h8 := (fun h => (or_T h).imp dT dT) h8
                    refine cx_seq ?_
                    refine cx_ops ?_
                    refine ax_q (q_mov rfl) ?_
                    refine ax_q (q_mov rfl) ?_
                    refine ax_nil ?_
                    refine cx_keep rfl rfl ?_
                    have hc : codeOK l = false := codeOK_no h0 hr h1x (stepK_3 (by rw [hlw, hb]; exact h8))
                    refine cx_wk (wk_virt 901 1 rfl rfl rfl) ?_
                    refine cx_wk (wk_zs 2 901 [] rfl rfl) ?_
                    refine cx_ret (retN (fun _ => 0) [901] rfl rfl rfl rfl rfl ?_)
                    exact ⟨[], by rw [hc]; rfl, rfl, fun h => by rw [hc] at h; cases h⟩
                  · have h8 := (fun h => And.intro (dF (or_F h).1) (dF (or_F h).2)) h8
                    have hst := stepK_4 (x := l[k]) (ds := ds) (n := (l.length : Int)) h2.1 h2.2 (by rw [hlw]; exact h8.1) (by rw [hb]; exact h8.2)
                    have htb := tosI_b (x := l[k]) (i := (k : Int)) (n := (l.length : Int)) (by omega) (by omega) h2.2
                    refine cx_skip ?_
                    refine cx_keep rfl rfl ?_
                    refine cx_seq ?_
                    refine cx_ops ?_
                    refine ax_q (q_mov rfl) ?_
                    first | refine ax_q (q_lenS_map rfl) ?_ | refine ax_q (q_lenS_osl rfl) ?_ | refine ax_q (q_lenS_zs rfl) ?_ | refine ax_q (q_lenS rfl) ?_
                    refine ax_q (q_mov rfl) ?_
                    refine ax_nil ?_
                    refine cx_keep rfl rfl ?_
                    refine cx_block ?_
                    refine cx_loopU (fun n (p : Nat × List Int) => p.1 ≤ (tosI l[k] (k : Int)).length ∧ n = (tosI l[k] (k : Int)).length - p.1 ∧ p.2.length = l.length + 1 ∧ putL (behI l[k] (ds.getD k 0)) ds ((tosI l[k] (k : Int)).take p.1) = some p.2) (fun p => [(80, int p.1)]) (fun p => [(19, .rows 1 (p.2.map intRow)), (48, .rows 1 (([(k : Int) + 1, l[k].N] : List Int).map intRow))]) ⟨_, (0, ds), ⟨Nat.zero_le _, rfl, hdl, rfl⟩, by repeat (first | exact trivial | refine ⟨rfl, ?_⟩ | refine ⟨?_, ?_⟩)⟩ ?_
                    rintro n ⟨j, p⟩ ⟨hj, rfl, hpl, hp⟩
                    simp only at hj hpl hp ⊢
                    refine cx_seq ?_
                    refine cx_ops ?_
                    refine ax_q (q_ibin rfl rfl rfl) ?_
                    refine ax_nil ?_
                    refine cx_keep rfl rfl ?_
                    refine cx_seq ?_
                    refine cx_cond rfl (fun h9 => ?_) (fun h9 => ?_)
                    · have h9 := dT h9
                      try simp only [List.length_cons, List.length_nil] at h9
                      have h9x : j < (tosI l[k] (k : Int)).length := by omega
                      have htj := htb _ (List.getElem_mem h9x)
                      have hte : ([(k : Int) + 1, l[k].N] : List Int)[j]? = some (tosI l[k] (k : Int))[j] := by rw [← List.getElem?_eq_getElem h9x, ht]
                      refine cx_skip ?_
                      refine cx_keep rfl rfl ?_
                      refine cx_seq ?_
                      refine cx_block ?_
                      refine cx_seq ?_
                      refine cx_ops ?_
                      refine ax_q (q_ixo rfl rfl (by first | omega | (simp only [List.length_cons, List.length_nil]; omega))) ?_
                      refine ax_q (q_load1_rptr (r := intRow ((tosI l[k] (k : Int))[j])) rfl rfl (tosAt hte) rfl) ?_
                      refine ax_q (q_mov rfl) ?_
                      refine ax_nil ?_
                      refine cx_keep rfl rfl ?_
                      refine cx_seq ?_
                      refine cx_seq ?_
                      refine cx_ops ?_
                      refine ax_q (q_mov rfl) ?_
                      refine ax_q (q_mov rfl) ?_
                      refine ax_q (q_ixoI rfl rfl (by omega) (by omega)) ?_
                      refine ax_q (q_load1_rptr (r := intRow (p.getD (tosI l[k] (k : Int))[j].toNat 0)) rfl rfl (dAt (by omega)) rfl) ?_
                      refine ax_q (q_ibin rfl rfl rfl) ?_
                      refine ax_q (q_mov rfl) ?_
                      apply ax_and rfl rfl
                      · intro g
                        have g := dT g
                        refine ax_q (q_mov rfl) ?_
                        refine ax_q (q_mov rfl) ?_
                        refine ax_q (q_ixoI rfl rfl (by omega) (by omega)) ?_
                        refine ax_q (q_load1_rptr (r := intRow (p.getD (tosI l[k] (k : Int))[j].toNat 0)) rfl rfl (dAt (by omega)) rfl) ?_
                        refine ax_q (q_mov rfl) ?_
                        refine ax_q (q_ibin rfl rfl rfl) ?_
                        exact ax_nil ⟨rfl, by repeat (first | exact trivial | refine ⟨rfl, ?_⟩ | refine ⟨?_, ?_⟩)⟩
                      refine ax_nil ?_
                      refine cx_keep rfl rfl ?_
                      refine cx_cond rfl (fun h10 => ?_) (fun h10 => ?_)
                      · have h10 := (fun h => And.intro (dT (and_T h).1) (nT (and_T h).2)) h10
                        refine cx_seq ?_
                        refine cx_ops ?_
                        refine ax_q (q_mov rfl) ?_
                        refine ax_q (q_mov rfl) ?_
                        refine ax_nil ?_
                        refine cx_keep rfl rfl ?_
                        have hc : codeOK l = false := codeOK_no h0 hr h1x (hst.trans (putL_none (j := j + 1) (by rw [putL_step h9x hp]; exact put1_no (by rw [hb]; exact h10))))
                        refine cx_wk (wk_virt 901 1 rfl rfl rfl) ?_
                        refine cx_wk (wk_zs 2 901 [] rfl rfl) ?_
                        refine cx_ret (retN (fun _ => 0) [901] rfl rfl rfl rfl rfl ?_)
                        exact ⟨[], by rw [hc]; rfl, rfl, fun h => by rw [hc] at h; cases h⟩
                      · have h10 := (fun h => (and_F h).imp dF nF) h10
                        refine cx_skip ?_
                        refine cx_keep rfl rfl ?_
                        refine cx_ops ?_
                        refine ax_q (q_mov rfl) ?_
                        refine ax_q (q_mov rfl) ?_
                        refine ax_q (q_mov rfl) ?_
                        refine ax_q (q_ixoI rfl rfl (by omega) (by omega)) ?_
                        refine ax_e (e_str (q := intRow _) (row := intRow _) (rs' := (p.set (tosI l[k] (k : Int))[j].toNat _).map intRow) rfl rfl rfl rfl rfl rfl (dAt (by omega)) rfl rfl setI) ?_
                        refine ax_nil ?_
                        refine cx_keep rfl rfl ?_
                        refine cx_ops ?_
                        refine ax_qe (r' := int ((j + 1 : Nat) : Int)) (q_ibin rfl rfl rfl) (by rw [wi (by omega) (by omega)]; rfl) ?_
                        refine ax_q (q_mov rfl) ?_
                        refine ax_nil ?_
                        exact ⟨_, (j + 1, p.set (tosI l[k] (k : Int))[j].toNat ((ds.getD k 0))), by simp only; omega, ⟨by simp only; omega, rfl, by simp only [List.length_set]; exact hpl, by simp only; rw [putL_step h9x hp, hb]; exact put1_ok h10⟩, by repeat (first | exact trivial | refine ⟨rfl, ?_⟩ | refine ⟨?_, ?_⟩)⟩
                    · have h9 := dF h9
                      try simp only [List.length_cons, List.length_nil] at h9
                      have h9x : j = (tosI l[k] (k : Int)).length := by omega
                      refine cx_exit rfl ?_
                      refine cx_keep rfl rfl ?_
                      refine cx_ops ?_
                      refine ax_qe (r' := int ((k + 1 : Nat) : Int)) (q_ibin rfl rfl rfl) (by rw [wi (by omega) (by omega)]; rfl) ?_
                      refine ax_q (q_mov rfl) ?_
                      refine ax_nil ?_
                      exact ⟨_, (k + 1, p), by simp only; omega, ⟨by simp only; omega, rfl, by simp only; rw [runH_next hr h1x]; exact hst.trans (by have hq := hp; rw [h9x, List.take_length] at hq; exact hq)⟩, by repeat (first | exact trivial | refine ⟨rfl, ?_⟩ | refine ⟨?_, ?_⟩)⟩
                · have h7 := dF h7
                  have hb : behI l[k] (ds.getD k 0) = (ds.getD k 0) := by unfold behI; rw [if_neg (by omega), if_neg (by omega)]
                  have hlw : lowI l[k] = 1 := by unfold lowI; rw [if_neg (by omega), if_neg (by omega)]
                  have ht : tosI l[k] (k : Int) = [(k : Int) + 1] := by unfold tosI; rw [if_neg (by omega)]
                  have htl : (tosI l[k] (k : Int)).length = 1 := by rw [ht]; rfl
                  refine cx_skip ?_
                  refine cx_keep rfl rfl ?_
                  refine cx_seq ?_
                  refine cx_seq ?_
                  refine cx_ops ?_
                  refine ax_q (q_mov rfl) ?_
                  refine ax_q (q_mov rfl) ?_
                  refine ax_q (q_ixo rfl rfl (by omega)) ?_
                  refine ax_q (q_load1_rptr (r := intRow (ds.getD k 0)) rfl rfl (dAt (by omega)) rfl) ?_
                  refine ax_q (q_mov rfl) ?_
                  refine ax_q (q_ibin rfl rfl rfl) ?_
                  refine ax_q (q_mov rfl) ?_
                  apply ax_or rfl rfl
                  · intro g
                    have g := dF g
                    refine ax_q (q_mov rfl) ?_
                    refine ax_q (q_ibin rfl rfl rfl) ?_
                    exact ax_nil ⟨rfl, by repeat (first | exact trivial | refine ⟨rfl, ?_⟩ | refine ⟨?_, ?_⟩)⟩
                  refine ax_nil ?_
                  refine cx_keep rfl rfl ?_
                  refine cx_cond rfl (fun h8 => ?_) (fun h8 => ?_)
                  · have h8 := (fun h => (or_T h).imp dT dT) h8
                    refine cx_seq ?_
                    refine cx_ops ?_
                    refine ax_q (q_mov rfl) ?_
                    refine ax_q (q_mov rfl) ?_
                    refine ax_nil ?_
                    refine cx_keep rfl rfl ?_
                    have hc : codeOK l = false := codeOK_no h0 hr h1x (stepK_3 (by rw [hlw, hb]; exact h8))
                    refine cx_wk (wk_virt 901 1 rfl rfl rfl) ?_
                    refine cx_wk (wk_zs 2 901 [] rfl rfl) ?_
                    refine cx_ret (retN (fun _ => 0) [901] rfl rfl rfl rfl rfl ?_)
                    exact ⟨[], by rw [hc]; rfl, rfl, fun h => by rw [hc] at h; cases h⟩
                  · have h8 := (fun h => And.intro (dF (or_F h).1) (dF (or_F h).2)) h8
                    have hst := stepK_4 (x := l[k]) (ds := ds) (n := (l.length : Int)) h2.1 h2.2 (by rw [hlw]; exact h8.1) (by rw [hb]; exact h8.2)
                    have htb := tosI_b (x := l[k]) (i := (k : Int)) (n := (l.length : Int)) (by omega) (by omega) h2.2
                    refine cx_skip ?_
                    refine cx_keep rfl rfl ?_
                    refine cx_seq ?_
                    refine cx_ops ?_
                    refine ax_q (q_mov rfl) ?_
                    first | refine ax_q (q_lenS_map rfl) ?_ | refine ax_q (q_lenS_osl rfl) ?_ | refine ax_q (q_lenS_zs rfl) ?_ | refine ax_q (q_lenS rfl) ?_
                    refine ax_q (q_mov rfl) ?_
                    refine ax_nil ?_
                    refine cx_keep rfl rfl ?_
                    refine cx_block ?_
                    refine cx_loopU (fun n (p : Nat × List Int) => p.1 ≤ (tosI l[k] (k : Int)).length ∧ n = (tosI l[k] (k : Int)).length - p.1 ∧ p.2.length = l.length + 1 ∧ putL (behI l[k] (ds.getD k 0)) ds ((tosI l[k] (k : Int)).take p.1) = some p.2) (fun p => [(80, int p.1)]) (fun p => [(19, .rows 1 (p.2.map intRow)), (48, .rows 1 (([(k : Int) + 1] : List Int).map intRow))]) ⟨_, (0, ds), ⟨Nat.zero_le _, rfl, hdl, rfl⟩, by repeat (first | exact trivial | refine ⟨rfl, ?_⟩ | refine ⟨?_, ?_⟩)⟩ ?_
                    rintro n ⟨j, p⟩ ⟨hj, rfl, hpl, hp⟩
                    simp only at hj hpl hp ⊢
                    refine cx_seq ?_
                    refine cx_ops ?_
                    refine ax_q (q_ibin rfl rfl rfl) ?_
                    refine ax_nil ?_
                    refine cx_keep rfl rfl ?_
                    refine cx_seq ?_
                    refine cx_cond rfl (fun h9 => ?_) (fun h9 => ?_)
                    · have h9 := dT h9
                      try simp only [List.length_cons, List.length_nil] at h9
                      have h9x : j < (tosI l[k] (k : Int)).length := by omega
                      have htj := htb _ (List.getElem_mem h9x)
                      have hte : ([(k : Int) + 1] : List Int)[j]? = some (tosI l[k] (k : Int))[j] := by rw [← List.getElem?_eq_getElem h9x, ht]
                      refine cx_skip ?_
                      refine cx_keep rfl rfl ?_
                      refine cx_seq ?_
                      refine cx_block ?_
                      refine cx_seq ?_
                      refine cx_ops ?_
                      refine ax_q (q_ixo rfl rfl (by first | omega | (simp only [List.length_cons, List.length_nil]; omega))) ?_
                      refine ax_q (q_load1_rptr (r := intRow ((tosI l[k] (k : Int))[j])) rfl rfl (tosAt hte) rfl) ?_
                      refine ax_q (q_mov rfl) ?_
                      refine ax_nil ?_
                      refine cx_keep rfl rfl ?_
                      refine cx_seq ?_
                      refine cx_seq ?_
                      refine cx_ops ?_
                      refine ax_q (q_mov rfl) ?_
                      refine ax_q (q_mov rfl) ?_
                      refine ax_q (q_ixoI rfl rfl (by omega) (by omega)) ?_
                      refine ax_q (q_load1_rptr (r := intRow (p.getD (tosI l[k] (k : Int))[j].toNat 0)) rfl rfl (dAt (by omega)) rfl) ?_
                      refine ax_q (q_ibin rfl rfl rfl) ?_
                      refine ax_q (q_mov rfl) ?_
                      apply ax_and rfl rfl
                      · intro g
                        have g := dT g
                        refine ax_q (q_mov rfl) ?_
                        refine ax_q (q_mov rfl) ?_
                        refine ax_q (q_ixoI rfl rfl (by omega) (by omega)) ?_
                        refine ax_q (q_load1_rptr (r := intRow (p.getD (tosI l[k] (k : Int))[j].toNat 0)) rfl rfl (dAt (by omega)) rfl) ?_
                        refine ax_q (q_mov rfl) ?_
                        refine ax_q (q_ibin rfl rfl rfl) ?_
                        exact ax_nil ⟨rfl, by repeat (first | exact trivial | refine ⟨rfl, ?_⟩ | refine ⟨?_, ?_⟩)⟩
                      refine ax_nil ?_
                      refine cx_keep rfl rfl ?_
                      refine cx_cond rfl (fun h10 => ?_) (fun h10 => ?_)
                      · have h10 := (fun h => And.intro (dT (and_T h).1) (nT (and_T h).2)) h10
                        refine cx_seq ?_
                        refine cx_ops ?_
                        refine ax_q (q_mov rfl) ?_
                        refine ax_q (q_mov rfl) ?_
                        refine ax_nil ?_
                        refine cx_keep rfl rfl ?_
                        have hc : codeOK l = false := codeOK_no h0 hr h1x (hst.trans (putL_none (j := j + 1) (by rw [putL_step h9x hp]; exact put1_no (by rw [hb]; exact h10))))
                        refine cx_wk (wk_virt 901 1 rfl rfl rfl) ?_
                        refine cx_wk (wk_zs 2 901 [] rfl rfl) ?_
                        refine cx_ret (retN (fun _ => 0) [901] rfl rfl rfl rfl rfl ?_)
                        exact ⟨[], by rw [hc]; rfl, rfl, fun h => by rw [hc] at h; cases h⟩
                      · have h10 := (fun h => (and_F h).imp dF nF) h10
                        refine cx_skip ?_
                        refine cx_keep rfl rfl ?_
                        refine cx_ops ?_
                        refine ax_q (q_mov rfl) ?_
                        refine ax_q (q_mov rfl) ?_
                        refine ax_q (q_mov rfl) ?_
                        refine ax_q (q_ixoI rfl rfl (by omega) (by omega)) ?_
                        refine ax_e (e_str (q := intRow _) (row := intRow _) (rs' := (p.set (tosI l[k] (k : Int))[j].toNat _).map intRow) rfl rfl rfl rfl rfl rfl (dAt (by omega)) rfl rfl setI) ?_
                        refine ax_nil ?_
                        refine cx_keep rfl rfl ?_
                        refine cx_ops ?_
                        refine ax_qe (r' := int ((j + 1 : Nat) : Int)) (q_ibin rfl rfl rfl) (by rw [wi (by omega) (by omega)]; rfl) ?_
                        refine ax_q (q_mov rfl) ?_
                        refine ax_nil ?_
                        exact ⟨_, (j + 1, p.set (tosI l[k] (k : Int))[j].toNat ((ds.getD k 0))), by simp only; omega, ⟨by simp only; omega, rfl, by simp only [List.length_set]; exact hpl, by simp only; rw [putL_step h9x hp, hb]; exact put1_ok h10⟩, by repeat (first | exact trivial | refine ⟨rfl, ?_⟩ | refine ⟨?_, ?_⟩)⟩
                    · have h9 := dF h9
                      try simp only [List.length_cons, List.length_nil] at h9
                      have h9x : j = (tosI l[k] (k : Int)).length := by omega
                      refine cx_exit rfl ?_
                      refine cx_keep rfl rfl ?_
                      refine cx_ops ?_
                      refine ax_qe (r' := int ((k + 1 : Nat) : Int)) (q_ibin rfl rfl rfl) (by rw [wi (by omega) (by omega)]; rfl) ?_
                      refine ax_q (q_mov rfl) ?_
                      refine ax_nil ?_
                      exact ⟨_, (k + 1, p), by simp only; omega, ⟨by simp only; omega, rfl, by simp only; rw [runH_next hr h1x]; exact hst.trans (by have hq := hp; rw [h9x, List.take_length] at hq; exact hq)⟩, by repeat (first | exact trivial | refine ⟨rfl, ?_⟩ | refine ⟨?_, ?_⟩)⟩
    · have h1 := dF h1
      have h1x : k = l.length := by omega
      subst h1x
      refine cx_exit rfl ?_
      refine cx_keep rfl rfl ?_
      refine cx_seq ?_
      refine cx_draw ?_
      refine ax_q (q_mov rfl) ?_
      refine ax_q (q_mov rfl) ?_
      refine ax_q (q_mov rfl) ?_
      first | refine ax_q (q_lenS_map rfl) ?_ | refine ax_q (q_lenS_osl rfl) ?_ | refine ax_q (q_lenS_zs rfl) ?_ | refine ax_q (q_lenS rfl) ?_
      refine ax_q (q_ixo rfl rfl (by omega)) ?_
      refine ax_q (q_load1_rptr (r := intRow (ds.getD l.length 0)) rfl rfl (dAt (by omega)) rfl) ?_
      refine ax_q (q_ibin rfl rfl rfl) ?_
      refine ax_q (q_mov rfl) ?_
      refine ax_q (q_mov rfl) ?_
      refine ax_nil ?_
      refine cx_keep rfl rfl ?_
      refine cx_ret (retN (fun _ => 0) [19] rfl rfl rfl rfl rfl ?_)
      exact ⟨ds, by rw [codeOK_end h0 hr, hdl]; rfl, rfl, fun _ => hr⟩


/- slices.Max[[]int,int] -/
def k_c_Max : XCode :=
  .seq (.ops [.op (some 2) (.mov (.k (.int .i64 0)))])
  (.keep [0] (.seq (.seq (.ops [.op (some 5) (.mov (.t 0)),
      .op (some 6) (.lenS (.t 5)),
      .op (some 7) (.bin .lss (.t 6) (.k (.int .i64 1)))])
   (.keep [0, 7] (.cond (.t 7)
    (.ops [.op (some 8) (.bad),
       .op none (.bad)])
    (.skip))))
  (.keep [0] (.seq (.ops [.op (some 9) (.mov (.t 0)),
     .op (some 10) (.iadr 1 (.t 9) (.k (.int .i64 0))),
     .op (some 11) (.load1 (.t 10)),
     .op (some 3) (.mov (.t 11))])
  (.keep [0, 3] (.seq (.seq (.ops [.op (some 4) (.mov (.k (.int .i64 1)))])
   (.keep [0, 3, 4] (.block 0 (.loop (.seq (.seq (.ops [.op (some 12) (.mov (.t 4)),
         .op (some 13) (.mov (.t 0)),
         .op (some 14) (.lenS (.t 13)),
         .op (some 15) (.bin .lss (.t 12) (.t 14))])
      (.keep [0, 3, 4, 15] (.cond (.t 15)
       (.skip)
       (.exit 0))))
     (.keep [0, 3, 4] (.seq (.block 1 (.ops [.op (some 18) (.mov (.t 3)),
         .op (some 19) (.mov (.t 0)),
         .op (some 20) (.mov (.t 4)),
         .op (some 21) (.iadr 1 (.t 19) (.t 20)),
         .op (some 22) (.load1 (.t 21)),
         .op (some 23) (.mx true (.t 18) (.t 22)),
         .op (some 3) (.mov (.t 23))]))
     (.keep [0, 3, 4] (.ops [.op (some 16) (.mov (.t 4)),
       .op (some 17) (.bin .add (.t 16) (.k (.int .i64 1))),
       .op (some 4) (.mov (.t 17))])))))))))
  (.keep [3] (.seq (.ops [.op (some 24) (.mov (.t 3)),
     .op (some 2) (.mov (.t 24))])
  (.keep [2] (.ret))))))))))
theorem k_c_Max_fits : fitsF Try.prog 44 ⟨25, k_c_Max, [.t 2]⟩ = true := by kernel_rfl
theorem c_Max {ds : List Int} (hg : goodD ds) (hl : 1 ≤ ds.length ∧ ds.length ≤ 1048576) : Con Try.prog noMv 44 [.d (.sl 1 (ds.map intRow))] [] (fun r h => r = int (maxL ds) ∧ h = []) := by
  refine con_of2 k_c_Max_fits rfl fun C hP hmv => ?_
  unfold k_c_Max
  refine cx_seq ?_
  refine cx_ops ?_
  refine ax_q (q_mov rfl) ?_
  refine ax_nil ?_
  refine cx_keep rfl rfl ?_
  refine cx_seq ?_
  refine cx_seq ?_
  refine cx_ops ?_
  refine ax_q (q_mov rfl) ?_
  first | refine ax_q (q_lenS_map rfl) ?_ | refine ax_q (q_lenS_osl rfl) ?_ | refine ax_q (q_lenS_zs rfl) ?_ | refine ax_q (q_lenS rfl) ?_
  refine ax_q (q_ibin rfl rfl rfl) ?_
  refine ax_nil ?_
  refine cx_keep rfl rfl ?_
  refine cx_cond rfl (fun h0 => ?_) (fun h0 => ?_)
  · have h0 := dT h0
    exfalso; omega
  · have h0 := dF h0
    refine cx_skip ?_
    refine cx_keep rfl rfl ?_
    refine cx_seq ?_
    refine cx_ops ?_
    refine ax_q (q_mov rfl) ?_
    refine ax_q (q_ixI rfl rfl (by omega) (dAt (ds := ds) (k := 0) (by omega))) ?_
    first | refine ax_q (q_load1_ptr rfl rfl rfl) ?_ | refine ax_q (q_load1_ip rfl) ?_ | refine ax_q (q_load1_rptr rfl rfl rfl rfl) ?_ | refine ax_q (q_load1_rptr rfl rfl (by assumption) rfl) ?_ | refine ax_q (q_load1_rptr rfl rfl (mapAt (by first | assumption | omega)) rfl) ?_
    refine ax_q (q_mov rfl) ?_
    refine ax_nil ?_
    refine cx_keep rfl rfl ?_
    refine cx_seq ?_
    refine cx_seq ?_
    refine cx_ops ?_
    refine ax_q (q_mov rfl) ?_
    refine ax_nil ?_
    refine cx_keep rfl rfl ?_
    refine cx_block ?_
    refine cx_loopU (fun n k => 1 ≤ k ∧ k ≤ ds.length ∧ n = ds.length - k) (fun k : Nat => [(4, int k), (3, int (maxK ds k))]) (fun k => []) ⟨_, 1, ⟨Nat.le_refl _, hl.1, rfl⟩, by rw [maxK_one hg hl.1]; exact (by repeat (first | exact trivial | refine ⟨rfl, ?_⟩ | refine ⟨?_, ?_⟩))⟩ ?_
    rintro n k ⟨hk1, hk, rfl⟩
    refine cx_seq ?_
    refine cx_seq ?_
    refine cx_ops ?_
    refine ax_q (q_mov rfl) ?_
    refine ax_q (q_mov rfl) ?_
    first | refine ax_q (q_lenS_map rfl) ?_ | refine ax_q (q_lenS_osl rfl) ?_ | refine ax_q (q_lenS_zs rfl) ?_ | refine ax_q (q_lenS rfl) ?_
    refine ax_q (q_ibin rfl rfl rfl) ?_
    refine ax_nil ?_
    refine cx_keep rfl rfl ?_
    refine cx_cond rfl (fun h1 => ?_) (fun h1 => ?_)
    · have h1 := dT h1
      have h1x : k < ds.length := by omega
      refine cx_skip ?_
      refine cx_keep rfl rfl ?_
      refine cx_seq ?_
      refine cx_block ?_
      refine cx_ops ?_
      refine ax_q (q_mov rfl) ?_
      refine ax_q (q_mov rfl) ?_
      refine ax_q (q_mov rfl) ?_
      first | refine ax_q (q_ix rfl rfl (by assumption)) ?_ | refine ax_q (q_ix rfl rfl (mapAt (by first | assumption | omega))) ?_ | refine ax_q (q_ixo rfl rfl (by first | assumption | omega)) ?_ | refine ax_q (q_ixI rfl rfl (by omega) (mapAt (by first | assumption | omega))) ?_ | refine ax_q (q_ixoI rfl rfl (by omega) (by omega)) ?_
      first | refine ax_q (q_load1_ptr rfl rfl rfl) ?_ | refine ax_q (q_load1_ip rfl) ?_ | refine ax_q (q_load1_rptr rfl rfl rfl rfl) ?_ | refine ax_q (q_load1_rptr rfl rfl (by assumption) rfl) ?_ | refine ax_q (q_load1_rptr rfl rfl (mapAt (by first | assumption | omega)) rfl) ?_
      refine ax_qe (r' := int (mxI (maxK ds k) ds[k])) (q_mx rfl rfl) (rfl) ?_
      refine ax_q (q_mov rfl) ?_
      refine ax_nil ?_
      refine cx_keep rfl rfl ?_
      refine cx_ops ?_
      refine ax_q (q_mov rfl) ?_
      refine ax_qe (r' := int ((k + 1 : Nat) : Int)) (q_ibin rfl rfl rfl) (by rw [wi (by omega) (by omega)]; rfl) ?_
      refine ax_q (q_mov rfl) ?_
      refine ax_nil ?_
      exact ⟨_, k + 1, by omega, ⟨by omega, by omega, rfl⟩, by rw [maxK_succ h1x]; exact (by repeat (first | exact trivial | refine ⟨rfl, ?_⟩ | refine ⟨?_, ?_⟩))⟩
    · have h1 := dF h1
      have h1x : k = ds.length := by omega
      subst h1x
      refine cx_exit rfl ?_
      refine cx_keep rfl rfl ?_
      refine cx_seq ?_
      refine cx_ops ?_
      refine ax_q (q_mov rfl) ?_
      refine ax_q (q_mov rfl) ?_
      refine ax_nil ?_
      refine cx_keep rfl rfl ?_
      refine cx_ret (ret0 rfl rfl ?_)
      exact ⟨by rw [maxK_all]; rfl, rfl⟩


/- loop.example/g00332/impl.CodeDepth -/
def k_c_CodeDepth : XCode :=
  .seq (.ops [.op (some 2) (.mov (.k (.int .i64 0))),
     .op (some 3) (.mov (.k (.int .i64 0)))])
  (.keep [0] (.seq (.seq (.ops [.op (some 6) (.mov (.t 0)),
      .op (some 7) (.lenS (.t 6)),
      .op (some 8) (.bin .gtr (.t 7) (.k (.int .i64 4096)))])
   (.keep [0, 8] (.cond (.t 8)
    (.seq (.ops [.op (some 2) (.mov (.k (.int .i64 0))),
        .op (some 3) (.mov (.k (.int .i64 2)))])
     (.keep [2, 3] (.ret)))
    (.skip))))
  (.keep [0] (.seq (.ops [.op (some 10) (.mov (.t 0)),
     .call (some 11) 42 [.t 10],
     .op (some 9) (.mov (.t 11)),
     .op (some 12) (.ext (.t 9) 0),
     .op (some 13) (.ext (.t 9) 1),
     .op (some 4) (.mov (.t 12)),
     .op (some 5) (.mov (.t 13))])
  (.keep [4, 5] (.seq (.seq (.ops [.op (some 14) (.mov (.t 5)),
      .op (some 15) (.not (.t 14))])
   (.keep [4, 15] (.cond (.t 15)
    (.seq (.ops [.op (some 2) (.mov (.k (.int .i64 0))),
        .op (some 3) (.mov (.k (.int .i64 1)))])
     (.keep [2, 3] (.ret)))
    (.skip))))
  (.keep [4] (.seq (.ops [.op (some 16) (.mov (.t 4)),
     .call (some 17) 44 [.t 16],
     .op (some 2) (.mov (.t 17)),
     .op (some 3) (.mov (.k (.int .i64 0)))])
  (.keep [2, 3] (.ret))))))))))
theorem k_c_CodeDepth_fits : fitsF Try.prog 16 ⟨18, k_c_CodeDepth, [.t 2, .t 3]⟩ = true := by kernel_rfl
theorem c_CodeDepth {l : List GIns} (hw : l.length ≤ 1048576) (hv : ∀ x ∈ l, x.V.T.length ≤ 1048576) : Con Try.prog noMv 16 [.d (.sl 5 (l.map GIns.row))] [] (fun r h => r = .tup [int (depF l).1, int (depF l).2] ∧ h = []) := by
  refine con_of2 k_c_CodeDepth_fits rfl fun C hP hmv => ?_
  unfold k_c_CodeDepth
  refine cx_seq ?_
  refine cx_ops ?_
  refine ax_q (q_mov rfl) ?_
  refine ax_q (q_mov rfl) ?_
  refine ax_nil ?_
  refine cx_keep rfl rfl ?_
  refine cx_seq ?_
  refine cx_seq ?_
  refine cx_ops ?_
  refine ax_q (q_mov rfl) ?_
  first | refine ax_q (q_lenS_map rfl) ?_ | refine ax_q (q_lenS_osl rfl) ?_ | refine ax_q (q_lenS_zs rfl) ?_ | refine ax_q (q_lenS rfl) ?_
  refine ax_q (q_ibin rfl rfl rfl) ?_
  refine ax_nil ?_
  refine cx_keep rfl rfl ?_
  refine cx_cond rfl (fun h0 => ?_) (fun h0 => ?_)
  · have h0 := dT h0
    refine cx_seq ?_
    refine cx_ops ?_
    refine ax_q (q_mov rfl) ?_
    refine ax_q (q_mov rfl) ?_
    refine ax_nil ?_
    refine cx_keep rfl rfl ?_
    refine cx_ret (ret0 rfl rfl ?_)
    exact ⟨by rw [depF_0 (by omega)]; rfl, rfl⟩
  · have h0 := dF h0
    refine cx_skip ?_
    refine cx_keep rfl rfl ?_
    refine cx_seq ?_
    refine cx_ops ?_
    refine ax_q (q_mov rfl) ?_
    first | refine ax_call rfl (vc_pure (c_heights  ?_ ?_) hP rfl ?_) | refine ax_call rfl (vc_lend (c_heights  ?_ ?_) hP (by repeat (first | exact lal_id _ rfl | exact LAL.nil | refine LAL.cons ?_ ?_ | exact la_id _ rfl | exact LA.lend (lend_whole rfl (by first | (simp; done) | (rw [List.length_map]; rfl))) | refine LA.agg ?_ | refine LA.fn ?_ | refine LA.lend ?_ | exact Lend.d _ | exact Lend.zs _ | exact lend_whole rfl (by first | (simp; done) | (rw [List.length_map]; rfl)) | refine Lend.ptr rfl ?_ | refine Lend.fn ?_ | exact LendL.nil | refine LendL.cons ?_ ?_)) ?_)
    · first | assumption | omega | (simp; done) | (simp; omega)
    · first | assumption | omega | (simp; done) | (simp; omega)
    rintro r h ⟨ds, rfl, rfl, hd⟩
    refine ⟨fun i => 11 + 200 * i, [0], ⟨rfl, rfl, rfl, rfl, rfl, (by first | exact (fun h => absurd h Bool.false_ne_true) | exact (fun _ => ⟨rfl, (noisl_of ⟨noisl_map (fun _ => rfl), trivial⟩)⟩))⟩, ?_⟩
    skip
    refine ax_q (q_mov rfl) ?_
    refine ax_q (q_ext rfl rfl) ?_
    refine ax_q (q_ext rfl rfl) ?_
    refine ax_q (q_mov rfl) ?_
    refine ax_q (q_mov rfl) ?_
    refine ax_nil ?_
    refine cx_keep rfl rfl ?_
    refine cx_seq ?_
    refine cx_seq ?_
    refine cx_ops ?_
    refine ax_q (q_mov rfl) ?_
    refine ax_q (q_not rfl) ?_
    refine ax_nil ?_
    refine cx_keep rfl rfl ?_
    refine cx_cond rfl (fun h1 => ?_) (fun h1 => ?_)
    · have h1 := bT h1
      refine cx_seq ?_
      refine cx_ops ?_
      refine ax_q (q_mov rfl) ?_
      refine ax_q (q_mov rfl) ?_
      refine ax_nil ?_
      refine cx_keep rfl rfl ?_
      refine cx_ret (ret0 rfl rfl ?_)
      exact ⟨by rw [depF_1 (by omega) h1]; rfl, rfl⟩
    · have h1 := bF h1
      have hr := hd h1
      have hdl := runH_len hr
      have hle := codeOK_len h1
      have hg := runH_good (Nat.le_refl _) hr
      refine cx_skip ?_
      refine cx_keep rfl rfl ?_
      refine cx_seq ?_
      refine cx_ops ?_
      refine ax_q (q_mov rfl) ?_
      first | refine ax_call rfl (vc_pure0 (c_Max (ds := ds) ?_ ?_) hP rfl rfl ?_) | refine ax_call rfl (vc_lend0 (c_Max (ds := ds) ?_ ?_) hP (by repeat (first | exact lal_id _ rfl | exact LAL.nil | refine LAL.cons ?_ ?_ | exact la_id _ rfl | exact LA.lend (lend_whole rfl (by first | (simp; done) | (rw [List.length_map]; rfl))) | refine LA.agg ?_ | refine LA.fn ?_ | refine LA.lend ?_ | exact Lend.d _ | exact Lend.zs _ | exact lend_whole rfl (by first | (simp; done) | (rw [List.length_map]; rfl)) | refine Lend.ptr rfl ?_ | refine Lend.fn ?_ | exact LendL.nil | refine LendL.cons ?_ ?_)) rfl rfl ?_)
      · first | assumption | omega | (simp; done) | (simp; omega)
      · first | assumption | omega | (simp; done) | (simp; omega)
      refine ax_q (q_mov rfl) ?_
      refine ax_q (q_mov rfl) ?_
      refine ax_nil ?_
      refine cx_keep rfl rfl ?_
      refine cx_ret (ret0 rfl rfl ?_)
      exact ⟨by rw [depF_2 (by omega) h1, depC_of hr]; rfl, rfl⟩

end Go.Proofs.Ytalnddcijlkklaa
