/- The walks: what each function computes, as a contract without a world (part 1). -/
import Derived.Test.YtalnddcijlkklaaProg
import Derived.Test.YtalnddcijlkklaaW0
namespace Go.Proofs.Ytalnddcijlkklaa
open Go Go.AM
set_option maxRecDepth 10000
set_option linter.unusedVariables false
/- loop.example/g00332/impl.CodeOK -/
def k_c_CodeOK : XCode :=
  .seq (.ops [.op (some 2) (.mov (.k (.bool false)))])
  (.keep [0] (.seq (.ops [.op (some 6) (.mov (.t 0)),
     .call (some 7) 42 [.t 6],
     .op (some 5) (.mov (.t 7)),
     .op (some 8) (.ext (.t 5) 0),
     .op (some 9) (.ext (.t 5) 1),
     .op (some 3) (.mov (.t 8)),
     .op (some 4) (.mov (.t 9))])
  (.keep [4] (.seq (.ops [.op (some 10) (.mov (.t 4)),
     .op (some 2) (.mov (.t 10))])
  (.keep [2] (.ret))))))
theorem k_c_CodeOK_fits : fitsF Try.prog 13 ⟨11, k_c_CodeOK, [.t 2]⟩ = true := by kernel_rfl
theorem c_CodeOK {l : List GIns} (hw : l.length ≤ 1048576) (hv : ∀ x ∈ l, x.V.T.length ≤ 1048576) : Con Try.prog noMv 13 [.d (.sl 5 (l.map GIns.row))] [] (fun r h => r = bool (codeOK l) ∧ h = []) := by
  refine con_of2 k_c_CodeOK_fits rfl fun C hP hmv => ?_
  unfold k_c_CodeOK
  refine cx_seq ?_
  refine cx_ops ?_
  refine ax_q (q_mov rfl) ?_
  refine ax_nil ?_
  refine cx_keep rfl rfl ?_
  refine cx_seq ?_
  refine cx_ops ?_
  refine ax_q (q_mov rfl) ?_
  first | refine ax_call rfl (vc_pure (c_heights  ?_ ?_) hP rfl ?_) | refine ax_call rfl (vc_lend (c_heights  ?_ ?_) hP (by repeat (first | exact lal_id _ rfl | exact LAL.nil | refine LAL.cons ?_ ?_ | exact la_id _ rfl | exact LA.lend (lend_whole rfl (by first | (simp; done) | (rw [List.length_map]; rfl))) | refine LA.agg ?_ | refine LA.fn ?_ | refine LA.lend ?_ | exact Lend.d _ | exact Lend.zs _ | exact lend_whole rfl (by first | (simp; done) | (rw [List.length_map]; rfl)) | refine Lend.ptr rfl ?_ | refine Lend.fn ?_ | exact LendL.nil | refine LendL.cons ?_ ?_)) ?_)
  · first | assumption | omega | (simp; done) | (simp; omega)
  · first | assumption | omega | (simp; done) | (simp; omega)
  rintro r h ⟨ds, rfl, rfl, hd⟩
  refine ⟨fun i => 7 + 200 * i, [0], ⟨rfl, rfl, rfl, rfl, rfl, (by first | exact (fun h => absurd h Bool.false_ne_true) | exact (fun _ => ⟨rfl, (noisl_of ⟨noisl_map (fun _ => rfl), trivial⟩)⟩))⟩, ?_⟩
  skip
  refine ax_q (q_mov rfl) ?_
  refine ax_q (q_ext rfl rfl) ?_
  refine ax_q (q_ext rfl rfl) ?_
  refine ax_q (q_mov rfl) ?_
  refine ax_q (q_mov rfl) ?_
  refine ax_nil ?_
  refine cx_keep rfl rfl ?_
  refine cx_seq ?_
  refine cx_ops ?_
  refine ax_q (q_mov rfl) ?_
  refine ax_q (q_mov rfl) ?_
  refine ax_nil ?_
  refine cx_keep rfl rfl ?_
  refine cx_ret (ret0 rfl rfl ?_)
  exact ⟨rfl, rfl⟩


/- loop.example/g00332/laws.eqValue -/
def k_c_eqValue : XCode :=
  .seq (.ops [.op (some 2) (.box (.t 0)),
     .op (some 3) (.box (.t 1)),
     .op (some 4) (.mov (.k (.bool false)))])
  (.keep [2, 3] (.seq (.seq (.ops [.op (some 5) (.fadr (.t 2) 0),
      .op (some 6) (.load1 (.t 5)),
      .op (some 7) (.fadr (.t 3) 0),
      .op (some 8) (.load1 (.t 7)),
      .op (some 9) (.bin .neq (.t 6) (.t 8))])
   (.keep [2, 3, 9] (.cond (.t 9)
    (.seq (.ops [.op (some 4) (.mov (.k (.bool false)))])
     (.keep [4] (.ret)))
    (.skip))))
  (.keep [2, 3] (.seq (.seq (.ops [.op (some 10) (.fadr (.t 2) 1),
      .op (some 11) (.load1 (.t 10)),
      .op (some 12) (.fadr (.t 3) 1),
      .op (some 13) (.load1 (.t 12)),
      .op (some 14) (.bin .neq (.t 11) (.t 13))])
   (.keep [2, 3, 14] (.cond (.t 14)
    (.seq (.ops [.op (some 4) (.mov (.k (.bool false)))])
     (.keep [4] (.ret)))
    (.skip))))
  (.keep [2, 3] (.seq (.seq (.ops [.op (some 15) (.fadr (.t 2) 2),
      .op (some 16) (.load1 (.t 15)),
      .op (some 17) (.fadr (.t 3) 2),
      .op (some 18) (.load1 (.t 17)),
      .op (some 19) (.bin .neq (.t 16) (.t 18))])
   (.keep [19] (.cond (.t 19)
    (.seq (.ops [.op (some 4) (.mov (.k (.bool false)))])
     (.keep [4] (.ret)))
    (.skip))))
  (.keep [] (.seq (.ops [.op (some 4) (.mov (.k (.bool true)))])
  (.keep [4] (.ret))))))))))
theorem k_c_eqValue_fits : fitsF Try.prog 34 ⟨20, k_c_eqValue, [.t 4]⟩ = true := by kernel_rfl
theorem c_eqValue {a b : GValue}  : Con Try.prog noMv 34 [a.av, b.av] [] (fun r h => r = bool (eqb a b) ∧ h = []) := by
  refine con_of2 k_c_eqValue_fits rfl fun C hP hmv => ?_
  unfold k_c_eqValue
  refine cx_seq ?_
  refine cx_ops ?_
  refine ax_e (e_box rfl rfl (by decide) rfl rfl rfl) ?_
  refine ax_e (e_box rfl rfl (by decide) rfl rfl rfl) ?_
  refine ax_q (q_mov rfl) ?_
  refine ax_nil ?_
  refine cx_keep rfl rfl ?_
  refine cx_seq ?_
  refine cx_seq ?_
  refine cx_ops ?_
  first | refine ax_q (q_fadr_ptr rfl) ?_ | refine ax_q (q_fadr_rptr rfl) ?_ | refine ax_q (q_fadr_ip rfl) ?_
  first | refine ax_q (q_load1_ptr rfl rfl rfl) ?_ | refine ax_q (q_load1_ip rfl) ?_ | refine ax_q (q_load1_rptr rfl rfl rfl rfl) ?_ | refine ax_q (q_load1_rptr rfl rfl (by assumption) rfl) ?_ | refine ax_q (q_load1_rptr rfl rfl (mapAt (by first | assumption | omega)) rfl) ?_
  first | refine ax_q (q_fadr_ptr rfl) ?_ | refine ax_q (q_fadr_rptr rfl) ?_ | refine ax_q (q_fadr_ip rfl) ?_
  first | refine ax_q (q_load1_ptr rfl rfl rfl) ?_ | refine ax_q (q_load1_ip rfl) ?_ | refine ax_q (q_load1_rptr rfl rfl rfl rfl) ?_ | refine ax_q (q_load1_rptr rfl rfl (by assumption) rfl) ?_ | refine ax_q (q_load1_rptr rfl rfl (mapAt (by first | assumption | omega)) rfl) ?_
  refine ax_q (q_ibin rfl rfl rfl) ?_
  refine ax_nil ?_
  refine cx_keep rfl rfl ?_
  refine cx_cond rfl (fun h0 => ?_) (fun h0 => ?_)
  · have h0 := nT h0
    refine cx_seq ?_
    refine cx_ops ?_
    refine ax_q (q_mov rfl) ?_
    refine ax_nil ?_
    refine cx_keep rfl rfl ?_
    refine cx_ret (ret0 rfl rfl ?_)
    exact ⟨congrArg AM.bool (eqb_f (fun h => h0 (by rw [h]))).symm, rfl⟩
  · have h0 := nF h0
    refine cx_skip ?_
    refine cx_keep rfl rfl ?_
    refine cx_seq ?_
    refine cx_seq ?_
    refine cx_ops ?_
    first | refine ax_q (q_fadr_ptr rfl) ?_ | refine ax_q (q_fadr_rptr rfl) ?_ | refine ax_q (q_fadr_ip rfl) ?_
    first | refine ax_q (q_load1_ptr rfl rfl rfl) ?_ | refine ax_q (q_load1_ip rfl) ?_ | refine ax_q (q_load1_rptr rfl rfl rfl rfl) ?_ | refine ax_q (q_load1_rptr rfl rfl (by assumption) rfl) ?_ | refine ax_q (q_load1_rptr rfl rfl (mapAt (by first | assumption | omega)) rfl) ?_
    first | refine ax_q (q_fadr_ptr rfl) ?_ | refine ax_q (q_fadr_rptr rfl) ?_ | refine ax_q (q_fadr_ip rfl) ?_
    first | refine ax_q (q_load1_ptr rfl rfl rfl) ?_ | refine ax_q (q_load1_ip rfl) ?_ | refine ax_q (q_load1_rptr rfl rfl rfl rfl) ?_ | refine ax_q (q_load1_rptr rfl rfl (by assumption) rfl) ?_ | refine ax_q (q_load1_rptr rfl rfl (mapAt (by first | assumption | omega)) rfl) ?_
    refine ax_q (q_ibin rfl rfl rfl) ?_
    refine ax_nil ?_
    refine cx_keep rfl rfl ?_
    refine cx_cond rfl (fun h1 => ?_) (fun h1 => ?_)
    · have h1 := nT h1
      refine cx_seq ?_
      refine cx_ops ?_
      refine ax_q (q_mov rfl) ?_
      refine ax_nil ?_
      refine cx_keep rfl rfl ?_
      refine cx_ret (ret0 rfl rfl ?_)
      exact ⟨congrArg AM.bool (eqb_f (fun h => h1 (by rw [h]))).symm, rfl⟩
    · have h1 := nF h1
      refine cx_skip ?_
      refine cx_keep rfl rfl ?_
      refine cx_seq ?_
      refine cx_seq ?_
      refine cx_ops ?_
      first | refine ax_q (q_fadr_ptr rfl) ?_ | refine ax_q (q_fadr_rptr rfl) ?_ | refine ax_q (q_fadr_ip rfl) ?_
      first | refine ax_q (q_load1_ptr rfl rfl rfl) ?_ | refine ax_q (q_load1_ip rfl) ?_ | refine ax_q (q_load1_rptr rfl rfl rfl rfl) ?_ | refine ax_q (q_load1_rptr rfl rfl (by assumption) rfl) ?_ | refine ax_q (q_load1_rptr rfl rfl (mapAt (by first | assumption | omega)) rfl) ?_
      first | refine ax_q (q_fadr_ptr rfl) ?_ | refine ax_q (q_fadr_rptr rfl) ?_ | refine ax_q (q_fadr_ip rfl) ?_
      first | refine ax_q (q_load1_ptr rfl rfl rfl) ?_ | refine ax_q (q_load1_ip rfl) ?_ | refine ax_q (q_load1_rptr rfl rfl rfl rfl) ?_ | refine ax_q (q_load1_rptr rfl rfl (by assumption) rfl) ?_ | refine ax_q (q_load1_rptr rfl rfl (mapAt (by first | assumption | omega)) rfl) ?_
      refine ax_q (q_sbin rfl rfl rfl) ?_
      refine ax_nil ?_
      refine cx_keep rfl rfl ?_
      refine cx_cond rfl (fun h2 => ?_) (fun h2 => ?_)
      · have h2 := nT h2
        refine cx_seq ?_
        refine cx_ops ?_
        refine ax_q (q_mov rfl) ?_
        refine ax_nil ?_
        refine cx_keep rfl rfl ?_
        refine cx_ret (ret0 rfl rfl ?_)
        exact ⟨congrArg AM.bool (eqb_f (fun h => h2 (by rw [h]))).symm, rfl⟩
      · have h2 := nF h2
        refine cx_skip ?_
        refine cx_keep rfl rfl ?_
        refine cx_seq ?_
        refine cx_ops ?_
        refine ax_q (q_mov rfl) ?_
        refine ax_nil ?_
        refine cx_keep rfl rfl ?_
        refine cx_ret (ret0 rfl rfl ?_)
        exact ⟨congrArg AM.bool (eqb_t (GValue.ext1 h0 h1 h2)).symm, rfl⟩


/- loop.example/g00332/laws.eqIns -/
def k_c_eqIns : XCode :=
  .seq (.ops [.op (some 2) (.box (.t 0)),
     .op (some 3) (.box (.t 1)),
     .op (some 4) (.mov (.k (.bool false)))])
  (.keep [2, 3] (.seq (.seq (.ops [.op (some 5) (.fadr (.t 2) 0),
      .op (some 6) (.load1 (.t 5)),
      .op (some 7) (.fadr (.t 3) 0),
      .op (some 8) (.load1 (.t 7)),
      .op (some 9) (.bin .neq (.t 6) (.t 8))])
   (.keep [2, 3, 9] (.cond (.t 9)
    (.seq (.ops [.op (some 4) (.mov (.k (.bool false)))])
     (.keep [4] (.ret)))
    (.skip))))
  (.keep [2, 3] (.seq (.seq (.ops [.op (some 10) (.fadr (.t 2) 1),
      .op (some 11) (.load1 (.t 10)),
      .op (some 12) (.fadr (.t 3) 1),
      .op (some 13) (.load1 (.t 12)),
      .op (some 14) (.bin .neq (.t 11) (.t 13))])
   (.keep [2, 3, 14] (.cond (.t 14)
    (.seq (.ops [.op (some 4) (.mov (.k (.bool false)))])
     (.keep [4] (.ret)))
    (.skip))))
  (.keep [2, 3] (.seq (.seq (.ops [.op (some 15) (.fadr (.t 2) 2),
      .op (some 16) (.loadN 3 (.t 15)),
      .op (some 17) (.fadr (.t 3) 2),
      .op (some 18) (.loadN 3 (.t 17)),
      .call (some 19) 34 [.t 16, .t 18],
      .op (some 20) (.not (.t 19))])
   (.keep [20] (.cond (.t 20)
    (.seq (.ops [.op (some 4) (.mov (.k (.bool false)))])
     (.keep [4] (.ret)))
    (.skip))))
  (.keep [] (.seq (.ops [.op (some 4) (.mov (.k (.bool true)))])
  (.keep [4] (.ret))))))))))
theorem k_c_eqIns_fits : fitsF Try.prog 43 ⟨21, k_c_eqIns, [.t 4]⟩ = true := by kernel_rfl
theorem c_eqIns {a b : GIns}  : Con Try.prog noMv 43 [a.av, b.av] [] (fun r h => r = bool (eqb a b) ∧ h = []) := by
  refine con_of2 k_c_eqIns_fits rfl fun C hP hmv => ?_
  unfold k_c_eqIns
  refine cx_seq ?_
  refine cx_ops ?_
  refine ax_e (e_box rfl rfl (by decide) rfl rfl rfl) ?_
  refine ax_e (e_box rfl rfl (by decide) rfl rfl rfl) ?_
  refine ax_q (q_mov rfl) ?_
  refine ax_nil ?_
  refine cx_keep rfl rfl ?_
  refine cx_seq ?_
  refine cx_seq ?_
  refine cx_ops ?_
  first | refine ax_q (q_fadr_ptr rfl) ?_ | refine ax_q (q_fadr_rptr rfl) ?_ | refine ax_q (q_fadr_ip rfl) ?_
  first | refine ax_q (q_load1_ptr rfl rfl rfl) ?_ | refine ax_q (q_load1_ip rfl) ?_ | refine ax_q (q_load1_rptr rfl rfl rfl rfl) ?_ | refine ax_q (q_load1_rptr rfl rfl (by assumption) rfl) ?_ | refine ax_q (q_load1_rptr rfl rfl (mapAt (by first | assumption | omega)) rfl) ?_
  first | refine ax_q (q_fadr_ptr rfl) ?_ | refine ax_q (q_fadr_rptr rfl) ?_ | refine ax_q (q_fadr_ip rfl) ?_
  first | refine ax_q (q_load1_ptr rfl rfl rfl) ?_ | refine ax_q (q_load1_ip rfl) ?_ | refine ax_q (q_load1_rptr rfl rfl rfl rfl) ?_ | refine ax_q (q_load1_rptr rfl rfl (by assumption) rfl) ?_ | refine ax_q (q_load1_rptr rfl rfl (mapAt (by first | assumption | omega)) rfl) ?_
  refine ax_q (q_ibin rfl rfl rfl) ?_
  refine ax_nil ?_
  refine cx_keep rfl rfl ?_
  refine cx_cond rfl (fun h0 => ?_) (fun h0 => ?_)
  · have h0 := nT h0
    refine cx_seq ?_
    refine cx_ops ?_
    refine ax_q (q_mov rfl) ?_
    refine ax_nil ?_
    refine cx_keep rfl rfl ?_
    refine cx_ret (ret0 rfl rfl ?_)
    exact ⟨congrArg AM.bool (eqb_f (fun h => h0 (by rw [h]))).symm, rfl⟩
  · have h0 := nF h0
    refine cx_skip ?_
    refine cx_keep rfl rfl ?_
    refine cx_seq ?_
    refine cx_seq ?_
    refine cx_ops ?_
    first | refine ax_q (q_fadr_ptr rfl) ?_ | refine ax_q (q_fadr_rptr rfl) ?_ | refine ax_q (q_fadr_ip rfl) ?_
    first | refine ax_q (q_load1_ptr rfl rfl rfl) ?_ | refine ax_q (q_load1_ip rfl) ?_ | refine ax_q (q_load1_rptr rfl rfl rfl rfl) ?_ | refine ax_q (q_load1_rptr rfl rfl (by assumption) rfl) ?_ | refine ax_q (q_load1_rptr rfl rfl (mapAt (by first | assumption | omega)) rfl) ?_
    first | refine ax_q (q_fadr_ptr rfl) ?_ | refine ax_q (q_fadr_rptr rfl) ?_ | refine ax_q (q_fadr_ip rfl) ?_
    first | refine ax_q (q_load1_ptr rfl rfl rfl) ?_ | refine ax_q (q_load1_ip rfl) ?_ | refine ax_q (q_load1_rptr rfl rfl rfl rfl) ?_ | refine ax_q (q_load1_rptr rfl rfl (by assumption) rfl) ?_ | refine ax_q (q_load1_rptr rfl rfl (mapAt (by first | assumption | omega)) rfl) ?_
    refine ax_q (q_ibin rfl rfl rfl) ?_
    refine ax_nil ?_
    refine cx_keep rfl rfl ?_
    refine cx_cond rfl (fun h1 => ?_) (fun h1 => ?_)
    · have h1 := nT h1
      refine cx_seq ?_
      refine cx_ops ?_
      refine ax_q (q_mov rfl) ?_
      refine ax_nil ?_
      refine cx_keep rfl rfl ?_
      refine cx_ret (ret0 rfl rfl ?_)
      exact ⟨congrArg AM.bool (eqb_f (fun h => h1 (by rw [h]))).symm, rfl⟩
    · have h1 := nF h1
      refine cx_skip ?_
      refine cx_keep rfl rfl ?_
      refine cx_seq ?_
      refine cx_seq ?_
      refine cx_ops ?_
      first | refine ax_q (q_fadr_ptr rfl) ?_ | refine ax_q (q_fadr_rptr rfl) ?_ | refine ax_q (q_fadr_ip rfl) ?_
      first | refine ax_q (q_ldN rfl rfl rfl) ?_ | refine ax_q (q_loadN_ip rfl (Nat.le_refl _)) ?_ | refine ax_q (q_loadN_ip rfl (by decide)) ?_ | refine ax_q (q_loadN_rptr rfl rfl (by assumption) (by decide)) ?_ | refine ax_q (q_loadN_rptr rfl rfl (mapAt (by first | assumption | omega)) (by decide)) ?_
      first | refine ax_q (q_fadr_ptr rfl) ?_ | refine ax_q (q_fadr_rptr rfl) ?_ | refine ax_q (q_fadr_ip rfl) ?_
      first | refine ax_q (q_ldN rfl rfl rfl) ?_ | refine ax_q (q_loadN_ip rfl (Nat.le_refl _)) ?_ | refine ax_q (q_loadN_ip rfl (by decide)) ?_ | refine ax_q (q_loadN_rptr rfl rfl (by assumption) (by decide)) ?_ | refine ax_q (q_loadN_rptr rfl rfl (mapAt (by first | assumption | omega)) (by decide)) ?_
      first | refine ax_call rfl (vc_pure0 (c_eqValue  ) hP rfl rfl ?_) | refine ax_call rfl (vc_lend0 (c_eqValue  ) hP (by repeat (first | exact lal_id _ rfl | exact LAL.nil | refine LAL.cons ?_ ?_ | exact la_id _ rfl | exact LA.lend (lend_whole rfl (by first | (simp; done) | (rw [List.length_map]; rfl))) | refine LA.agg ?_ | refine LA.fn ?_ | refine LA.lend ?_ | exact Lend.d _ | exact Lend.zs _ | exact lend_whole rfl (by first | (simp; done) | (rw [List.length_map]; rfl)) | refine Lend.ptr rfl ?_ | refine Lend.fn ?_ | exact LendL.nil | refine LendL.cons ?_ ?_)) rfl rfl ?_)
      refine ax_q (q_not rfl) ?_
      refine ax_nil ?_
      refine cx_keep rfl rfl ?_
      refine cx_cond rfl (fun h2 => ?_) (fun h2 => ?_)
      · have h2 := bT h2
        refine cx_seq ?_
        refine cx_ops ?_
        refine ax_q (q_mov rfl) ?_
        refine ax_nil ?_
        refine cx_keep rfl rfl ?_
        refine cx_ret (ret0 rfl rfl ?_)
        exact ⟨congrArg AM.bool (eqb_f (fun h => by rw [h, eqb_rfl] at h2; cases h2)).symm, rfl⟩
      · have h2 := bF h2
        refine cx_skip ?_
        refine cx_keep rfl rfl ?_
        refine cx_seq ?_
        refine cx_ops ?_
        refine ax_q (q_mov rfl) ?_
        refine ax_nil ?_
        refine cx_keep rfl rfl ?_
        refine cx_ret (ret0 rfl rfl ?_)
        exact ⟨congrArg AM.bool (eqb_t (GIns.ext1 h0 h1 (eqb_iff.1 h2))).symm, rfl⟩


/- loop.example/g00332/laws.eqInsS -/
def k_c_eqInsS : XCode :=
  .seq (.ops [.op (some 4) (.mov (.k (.bool false)))])
  (.keep [0, 1] (.seq (.seq (.ops [.op (some 6) (.mov (.t 0)),
      .op (some 7) (.lenS (.t 6)),
      .op (some 8) (.mov (.t 1)),
      .op (some 9) (.lenS (.t 8)),
      .op (some 10) (.bin .neq (.t 7) (.t 9))])
   (.keep [0, 1, 10] (.cond (.t 10)
    (.seq (.ops [.op (some 4) (.mov (.k (.bool false)))])
     (.keep [4] (.ret)))
    (.skip))))
  (.keep [0, 1] (.seq (.seq (.ops [.op (some 5) (.mov (.k (.int .i64 0)))])
   (.keep [0, 1, 5] (.block 0 (.loop (.seq (.seq (.ops [.op (some 11) (.mov (.t 5)),
         .op (some 12) (.mov (.t 0)),
         .op (some 13) (.lenS (.t 12)),
         .op (some 14) (.bin .lss (.t 11) (.t 13))])
      (.keep [0, 1, 5, 14] (.cond (.t 14)
       (.skip)
       (.exit 0))))
     (.keep [0, 1, 5] (.seq (.block 1 (.seq (.draw [.op (some 17) (.mov (.t 0)),
          .op (some 18) (.mov (.t 5)),
          .op (some 19) (.iadr 5 (.t 17) (.t 18)),
          .op (some 20) (.loadN 5 (.t 19)),
          .op (some 21) (.mov (.t 1)),
          .op (some 22) (.mov (.t 5)),
          .op (some 23) (.iadr 5 (.t 21) (.t 22)),
          .op (some 24) (.loadN 5 (.t 23)),
          .call (some 25) 43 [.t 20, .t 24],
          .op (some 26) (.not (.t 25))])
       (.keep [0, 1, 5, 26] (.cond (.t 26)
        (.seq (.ops [.op (some 4) (.mov (.k (.bool false)))])
         (.keep [4] (.ret)))
        (.skip)))))
     (.keep [0, 1, 5] (.ops [.op (some 15) (.mov (.t 5)),
       .op (some 16) (.bin .add (.t 15) (.k (.int .i64 1))),
       .op (some 5) (.mov (.t 16))])))))))))
  (.keep [] (.seq (.ops [.op (some 4) (.mov (.k (.bool true)))])
  (.keep [4] (.ret))))))))
theorem k_c_eqInsS_fits : fitsF Try.prog 14 ⟨27, k_c_eqInsS, [.t 4]⟩ = true := by kernel_rfl
theorem c_eqInsS {xs ys : List GIns} (hw : xs.length ≤ 9223372036854775807) : Con Try.prog noMv 14 [.d (.sl 5 (xs.map GIns.row)), .d (.sl 5 (ys.map GIns.row))] [] (fun r h => r = bool (eqb xs ys) ∧ h = []) := by
  refine con_of2 k_c_eqInsS_fits rfl fun C hP hmv => ?_
  unfold k_c_eqInsS
  refine cx_seq ?_
  refine cx_ops ?_
  refine ax_q (q_mov rfl) ?_
  refine ax_nil ?_
  refine cx_keep rfl rfl ?_
  refine cx_seq ?_
  refine cx_seq ?_
  refine cx_ops ?_
  refine ax_q (q_mov rfl) ?_
  first | refine ax_q (q_lenS_map rfl) ?_ | refine ax_q (q_lenS_osl rfl) ?_ | refine ax_q (q_lenS_zs rfl) ?_ | refine ax_q (q_lenS rfl) ?_
  refine ax_q (q_mov rfl) ?_
  first | refine ax_q (q_lenS_map rfl) ?_ | refine ax_q (q_lenS_osl rfl) ?_ | refine ax_q (q_lenS_zs rfl) ?_ | refine ax_q (q_lenS rfl) ?_
  refine ax_q (q_ibin rfl rfl rfl) ?_
  refine ax_nil ?_
  refine cx_keep rfl rfl ?_
  refine cx_cond rfl (fun h0 => ?_) (fun h0 => ?_)
  · have h0 := nT h0
    refine cx_seq ?_
    refine cx_ops ?_
    refine ax_q (q_mov rfl) ?_
    refine ax_nil ?_
    refine cx_keep rfl rfl ?_
    refine cx_ret (ret0 rfl rfl ?_)
    exact ⟨congrArg AM.bool (eqb_f (fun h => h0 (by rw [h]))).symm, rfl⟩
  · have h0 := nF h0
    refine cx_skip ?_
    refine cx_keep rfl rfl ?_
    refine cx_seq ?_
    refine cx_seq ?_
    refine cx_ops ?_
    refine ax_q (q_mov rfl) ?_
    refine ax_nil ?_
    refine cx_keep rfl rfl ?_
    refine cx_block ?_
    have hl : xs.length = ys.length := by omega
    refine cx_loopU (fun n k => k ≤ xs.length ∧ n = xs.length - k ∧ xs.take k = ys.take k) (fun k : Nat => [(5, int k)]) (fun _ => []) ⟨_, 0, ⟨Nat.zero_le _, rfl, rfl⟩, by repeat (first | exact trivial | refine ⟨rfl, ?_⟩ | refine ⟨?_, ?_⟩)⟩ ?_
    rintro n k ⟨hk, rfl, ht⟩
    refine cx_seq ?_
    refine cx_seq ?_
    refine cx_ops ?_
    refine ax_q (q_mov rfl) ?_
    refine ax_q (q_mov rfl) ?_
    first | refine ax_q (q_lenS_map rfl) ?_ | refine ax_q (q_lenS_osl rfl) ?_ | refine ax_q (q_lenS_zs rfl) ?_ | refine ax_q (q_lenS rfl) ?_
    refine ax_q (q_ibin rfl rfl rfl) ?_
    refine ax_nil ?_
    refine cx_keep rfl rfl ?_
    refine cx_cond rfl (fun h1 => ?_) (fun h1 => ?_)
    · have h1 := dT h1
      have h1x : k < xs.length := by omega
      have h1y : k < ys.length := by omega
      refine cx_skip ?_
      refine cx_keep rfl rfl ?_
      refine cx_seq ?_
      refine cx_block ?_
      refine cx_seq ?_
      refine cx_draw ?_
      refine ax_q (q_mov rfl) ?_
      refine ax_q (q_mov rfl) ?_
      refine ax_q (q_ix rfl rfl (mapAt h1x)) ?_
      first | refine ax_q (q_ldN rfl rfl rfl) ?_ | refine ax_q (q_loadN_ip rfl (Nat.le_refl _)) ?_ | refine ax_q (q_loadN_ip rfl (by decide)) ?_ | refine ax_q (q_loadN_rptr rfl rfl (by assumption) (by decide)) ?_ | refine ax_q (q_loadN_rptr rfl rfl (mapAt (by first | assumption | omega)) (by decide)) ?_
      refine ax_q (q_mov rfl) ?_
      refine ax_q (q_mov rfl) ?_
      refine ax_q (q_ix rfl rfl (mapAt h1y)) ?_
      first | refine ax_q (q_ldN rfl rfl rfl) ?_ | refine ax_q (q_loadN_ip rfl (Nat.le_refl _)) ?_ | refine ax_q (q_loadN_ip rfl (by decide)) ?_ | refine ax_q (q_loadN_rptr rfl rfl (by assumption) (by decide)) ?_ | refine ax_q (q_loadN_rptr rfl rfl (mapAt (by first | assumption | omega)) (by decide)) ?_
      first | refine ax_callq rfl (c_eqIns) hP (lal_id _ rfl) rfl ?_ | refine ax_call rfl (vc_pure0 (c_eqIns) hP rfl rfl ?_)
      refine ax_q (q_not rfl) ?_
      refine ax_nil ?_
      refine cx_keep rfl rfl ?_
      refine cx_cond rfl (fun h2 => ?_) (fun h2 => ?_)
      · have h2 := bT h2
        refine cx_seq ?_
        refine cx_ops ?_
        refine ax_q (q_mov rfl) ?_
        refine ax_nil ?_
        refine cx_keep rfl rfl ?_
        refine cx_ret (ret0 rfl rfl ?_)
        exact ⟨congrArg AM.bool (eqbL_no h1x h1y h2).symm, rfl⟩
      · have h2 := bF h2
        refine cx_skip ?_
        refine cx_keep rfl rfl ?_
        refine cx_ops ?_
        refine ax_q (q_mov rfl) ?_
        refine ax_q (q_add rfl rfl (by omega)) ?_
        refine ax_q (q_mov rfl) ?_
        refine ax_nil ?_
        exact ⟨_, k + 1, by omega, ⟨by omega, rfl, eqbL_step h1x h1y ht h2⟩, by repeat (first | exact trivial | refine ⟨rfl, ?_⟩ | refine ⟨?_, ?_⟩)⟩
    · have h1 := dF h1
      refine cx_exit rfl ?_
      refine cx_keep rfl rfl ?_
      refine cx_seq ?_
      refine cx_ops ?_
      refine ax_q (q_mov rfl) ?_
      refine ax_nil ?_
      refine cx_keep rfl rfl ?_
      refine cx_ret (ret0 rfl rfl ?_)
      exact ⟨congrArg AM.bool (eqb_t (eq_of_take hl (by rwa [show k = xs.length from by omega] at ht))).symm, rfl⟩

end Go.Proofs.Ytalnddcijlkklaa
