/- The walks: what each function computes, as a contract without a world (part 0). -/
import Derived.Test.YtalnddcijlkklaaProg
import Derived.Test.YtalnddcijlkklaaD
namespace Go.Proofs.Ytalnddcijlkklaa
open Go Go.AM
set_option maxRecDepth 10000
set_option linter.unusedVariables false
/- loop.example/g00332/laws.szValue -/
def k_c_szValue : XCode :=
  .seq (.ops [.op (some 2) (.box (.t 0)),
     .op (some 4) (.mov (.k (.int .i64 0)))])
  (.keep [1, 2] (.seq (.ops [.op (some 5) (.mov (.t 1)),
     .op (some 6) (.fadr (.t 2) 2),
     .op (some 7) (.load1 (.t 6)),
     .op (some 8) (.lenT (.t 7)),
     .op (some 9) (.bin .sub (.t 5) (.t 8)),
     .op (some 1) (.mov (.t 9))])
  (.keep [1] (.seq (.seq (.ops [.op (some 10) (.mov (.t 1)),
      .op (some 11) (.bin .lss (.t 10) (.k (.int .i64 0)))])
   (.keep [1, 11] (.cond (.t 11)
    (.seq (.ops [.op (some 4) (.mov (.k (.int .i64 (-1))))])
     (.keep [4] (.ret)))
    (.skip))))
  (.keep [1] (.seq (.ops [.op (some 12) (.mov (.t 1)),
     .op (some 4) (.mov (.t 12))])
  (.keep [4] (.ret))))))))
theorem k_c_szValue_fits : fitsF Try.prog 63 ⟨13, k_c_szValue, [.t 4]⟩ = true := by kernel_rfl
theorem c_szValue {a : GValue} {left : Int} (h0 : 0 ≤ left) (hl : left ≤ 1048576) (hw : a.wf) : Con Try.prog noMv 63 [a.av, int left] [] (fun r h => r = int (szF left (GValue.sz a)) ∧ h = []) := by
  refine con_of2 k_c_szValue_fits rfl fun C hP hmv => ?_
  unfold k_c_szValue
  have sp := szF_spec left (GValue.sz a)
  have e0 : GValue.sz a = a.T.length := rfl
  rw [e0] at sp ⊢
  obtain ⟨w0, w1, w2⟩ := hw
  have w2x : a.T.length ≤ 9223372036854775807 := w2
  refine cx_seq ?_
  refine cx_ops ?_
  refine ax_e (e_box rfl rfl (by decide) rfl rfl rfl) ?_
  refine ax_q (q_mov rfl) ?_
  refine ax_nil ?_
  refine cx_keep rfl rfl ?_
  refine cx_seq ?_
  refine cx_ops ?_
  refine ax_q (q_mov rfl) ?_
  first | refine ax_q (q_fadr_ptr rfl) ?_ | refine ax_q (q_fadr_rptr rfl) ?_ | refine ax_q (q_fadr_ip rfl) ?_
  first | refine ax_q (q_load1_ptr rfl rfl rfl) ?_ | refine ax_q (q_load1_ip rfl) ?_ | refine ax_q (q_load1_rptr rfl rfl rfl rfl) ?_ | refine ax_q (q_load1_rptr rfl rfl (by assumption) rfl) ?_ | refine ax_q (q_load1_rptr rfl rfl (mapAt (by first | assumption | omega)) rfl) ?_
  refine ax_q (q_lenT rfl) ?_
  refine ax_q (q_sub rfl rfl (by omega)) ?_
  refine ax_q (q_mov rfl) ?_
  refine ax_nil ?_
  refine cx_keep rfl rfl ?_
  refine cx_seq ?_
  refine cx_seq ?_
  refine cx_ops ?_
  refine ax_q (q_mov rfl) ?_
  refine ax_q (q_ibin rfl rfl rfl) ?_
  refine ax_nil ?_
  refine cx_keep rfl rfl ?_
  refine cx_cond rfl (fun h0 => ?_) (fun h0 => ?_)
  · have h0 := dT h0
    refine cx_seq ?_
    refine cx_ops ?_
    refine ax_q (q_mov rfl) ?_
    refine ax_nil ?_
    refine cx_keep rfl rfl ?_
    refine cx_ret (ret0 rfl rfl ?_)
    exact ⟨congrArg int (by omega), rfl⟩
  · have h0 := dF h0
    refine cx_skip ?_
    refine cx_keep rfl rfl ?_
    refine cx_seq ?_
    refine cx_ops ?_
    refine ax_q (q_mov rfl) ?_
    refine ax_q (q_mov rfl) ?_
    refine ax_nil ?_
    refine cx_keep rfl rfl ?_
    refine cx_ret (ret0 rfl rfl ?_)
    exact ⟨congrArg int (by omega), rfl⟩


/- loop.example/g00332/laws.szIns -/
def k_c_szIns : XCode :=
  .seq (.ops [.op (some 2) (.box (.t 0)),
     .op (some 4) (.mov (.k (.int .i64 0)))])
  (.keep [1, 2] (.seq (.ops [.op (some 5) (.fadr (.t 2) 2),
     .op (some 6) (.loadN 3 (.t 5)),
     .op (some 7) (.mov (.t 1)),
     .call (some 8) 63 [.t 6, .t 7],
     .op (some 1) (.mov (.t 8))])
  (.keep [1] (.seq (.seq (.ops [.op (some 9) (.mov (.t 1)),
      .op (some 10) (.bin .lss (.t 9) (.k (.int .i64 0)))])
   (.keep [1, 10] (.cond (.t 10)
    (.seq (.ops [.op (some 4) (.mov (.k (.int .i64 (-1))))])
     (.keep [4] (.ret)))
    (.skip))))
  (.keep [1] (.seq (.ops [.op (some 11) (.mov (.t 1)),
     .op (some 4) (.mov (.t 11))])
  (.keep [4] (.ret))))))))
theorem k_c_szIns_fits : fitsF Try.prog 39 ⟨12, k_c_szIns, [.t 4]⟩ = true := by kernel_rfl
theorem c_szIns {a : GIns} {left : Int} (h0 : 0 ≤ left) (hl : left ≤ 1048576) (hw : a.wf) : Con Try.prog noMv 39 [a.av, int left] [] (fun r h => r = int (szF left (GIns.sz a)) ∧ h = []) := by
  refine con_of2 k_c_szIns_fits rfl fun C hP hmv => ?_
  unfold k_c_szIns
  have sp := szF_spec left (GIns.sz a)
  have e0 : GIns.sz a = GValue.sz a.V := rfl
  rw [e0] at sp ⊢
  obtain ⟨w0, w1, w2⟩ := hw
  refine cx_seq ?_
  refine cx_ops ?_
  refine ax_e (e_box rfl rfl (by decide) rfl rfl rfl) ?_
  refine ax_q (q_mov rfl) ?_
  refine ax_nil ?_
  refine cx_keep rfl rfl ?_
  refine cx_seq ?_
  refine cx_ops ?_
  first | refine ax_q (q_fadr_ptr rfl) ?_ | refine ax_q (q_fadr_rptr rfl) ?_ | refine ax_q (q_fadr_ip rfl) ?_
  first | refine ax_q (q_ldN rfl rfl rfl) ?_ | refine ax_q (q_loadN_ip rfl (Nat.le_refl _)) ?_ | refine ax_q (q_loadN_ip rfl (by decide)) ?_ | refine ax_q (q_loadN_rptr rfl rfl (by assumption) (by decide)) ?_ | refine ax_q (q_loadN_rptr rfl rfl (mapAt (by first | assumption | omega)) (by decide)) ?_
  refine ax_q (q_mov rfl) ?_
  have q0 := szF_spec left (GValue.sz a.V)
  first | refine ax_call rfl (vc_pure0 (c_szValue  ?_ ?_ ?_) hP rfl rfl ?_) | refine ax_call rfl (vc_lend0 (c_szValue  ?_ ?_ ?_) hP (by repeat (first | exact lal_id _ rfl | exact LAL.nil | refine LAL.cons ?_ ?_ | exact la_id _ rfl | exact LA.lend (lend_whole rfl (by first | (simp; done) | (rw [List.length_map]; rfl))) | refine LA.agg ?_ | refine LA.fn ?_ | refine LA.lend ?_ | exact Lend.d _ | exact Lend.zs _ | exact lend_whole rfl (by first | (simp; done) | (rw [List.length_map]; rfl)) | refine Lend.ptr rfl ?_ | refine Lend.fn ?_ | exact LendL.nil | refine LendL.cons ?_ ?_)) rfl rfl ?_)
  · first | assumption | omega | (simp; done) | (simp; omega)
  · first | assumption | omega | (simp; done) | (simp; omega)
  · first | assumption | omega | (simp; done) | (simp; omega)
  refine ax_q (q_mov rfl) ?_
  refine ax_nil ?_
  refine cx_keep rfl rfl ?_
  refine cx_seq ?_
  refine cx_seq ?_
  refine cx_ops ?_
  refine ax_q (q_mov rfl) ?_
  refine ax_q (q_ibin rfl rfl rfl) ?_
  refine ax_nil ?_
  refine cx_keep rfl rfl ?_
  refine cx_cond rfl (fun h0 => ?_) (fun h0 => ?_)
  · have h0 := dT h0
    refine cx_seq ?_
    refine cx_ops ?_
    refine ax_q (q_mov rfl) ?_
    refine ax_nil ?_
    refine cx_keep rfl rfl ?_
    refine cx_ret (ret0 rfl rfl ?_)
    exact ⟨congrArg int (by omega), rfl⟩
  · have h0 := dF h0
    refine cx_skip ?_
    refine cx_keep rfl rfl ?_
    refine cx_seq ?_
    refine cx_ops ?_
    refine ax_q (q_mov rfl) ?_
    refine ax_q (q_mov rfl) ?_
    refine ax_nil ?_
    refine cx_keep rfl rfl ?_
    refine cx_ret (ret0 rfl rfl ?_)
    exact ⟨congrArg int (by omega), rfl⟩


/- loop.example/g00332/laws.szInsS -/
def k_c_szInsS : XCode :=
  .seq (.ops [.op (some 4) (.mov (.k (.int .i64 0)))])
  (.keep [0, 1] (.seq (.ops [.op (some 6) (.mov (.t 1)),
     .op (some 7) (.mov (.t 0)),
     .op (some 8) (.lenS (.t 7)),
     .op (some 9) (.bin .sub (.t 6) (.t 8)),
     .op (some 1) (.mov (.t 9))])
  (.keep [0, 1] (.seq (.seq (.ops [.op (some 10) (.mov (.t 1)),
      .op (some 11) (.bin .lss (.t 10) (.k (.int .i64 0)))])
   (.keep [0, 1, 11] (.cond (.t 11)
    (.seq (.ops [.op (some 4) (.mov (.k (.int .i64 (-1))))])
     (.keep [4] (.ret)))
    (.skip))))
  (.keep [0, 1] (.seq (.seq (.ops [.op (some 5) (.mov (.k (.int .i64 0)))])
   (.keep [0, 1, 5] (.block 0 (.loop (.seq (.seq (.ops [.op (some 12) (.mov (.t 5)),
         .op (some 13) (.mov (.t 0)),
         .op (some 14) (.lenS (.t 13)),
         .op (some 15) (.bin .lss (.t 12) (.t 14))])
      (.keep [0, 1, 5, 15] (.cond (.t 15)
       (.skip)
       (.exit 0))))
     (.keep [0, 1, 5] (.seq (.block 1 (.seq (.ops [.op (some 18) (.mov (.t 0)),
          .op (some 19) (.mov (.t 5)),
          .op (some 20) (.iadr 5 (.t 18) (.t 19)),
          .op (some 21) (.loadN 5 (.t 20)),
          .op (some 22) (.mov (.t 1)),
          .call (some 23) 39 [.t 21, .t 22],
          .op (some 1) (.mov (.t 23))])
       (.keep [0, 1, 5] (.seq (.ops [.op (some 24) (.mov (.t 1)),
          .op (some 25) (.bin .lss (.t 24) (.k (.int .i64 0)))])
       (.keep [0, 1, 5, 25] (.cond (.t 25)
        (.seq (.ops [.op (some 4) (.mov (.k (.int .i64 (-1))))])
         (.keep [4] (.ret)))
        (.skip)))))))
     (.keep [0, 1, 5] (.ops [.op (some 16) (.mov (.t 5)),
       .op (some 17) (.bin .add (.t 16) (.k (.int .i64 1))),
       .op (some 5) (.mov (.t 17))])))))))))
  (.keep [1] (.seq (.ops [.op (some 26) (.mov (.t 1)),
     .op (some 4) (.mov (.t 26))])
  (.keep [4] (.ret))))))))))
theorem k_c_szInsS_fits : fitsF Try.prog 10 ⟨27, k_c_szInsS, [.t 4]⟩ = true := by kernel_rfl
theorem c_szInsS {xs : List GIns} {left : Int} (h0 : 0 ≤ left) (hl : left ≤ 1048576) (hw : wfL GIns.wf xs) : Con Try.prog noMv 10 [.d (.sl 5 (xs.map GIns.row)), int left] [] (fun r h => r = int (szF left (szL GIns.sz xs)) ∧ h = []) := by
  refine con_of2 k_c_szInsS_fits rfl fun C hP hmv => ?_
  unfold k_c_szInsS
  have hw1 := hw.1; have hw2 := hw.2
  have sp := szF_spec left (szL GIns.sz xs)
  refine cx_seq ?_
  refine cx_ops ?_
  refine ax_q (q_mov rfl) ?_
  refine ax_nil ?_
  refine cx_keep rfl rfl ?_
  refine cx_seq ?_
  refine cx_ops ?_
  refine ax_q (q_mov rfl) ?_
  refine ax_q (q_mov rfl) ?_
  first | refine ax_q (q_lenS_map rfl) ?_ | refine ax_q (q_lenS_osl rfl) ?_ | refine ax_q (q_lenS_zs rfl) ?_ | refine ax_q (q_lenS rfl) ?_
  refine ax_q (q_sub rfl rfl (by omega)) ?_
  refine ax_q (q_mov rfl) ?_
  refine ax_nil ?_
  refine cx_keep rfl rfl ?_
  refine cx_seq ?_
  refine cx_seq ?_
  refine cx_ops ?_
  refine ax_q (q_mov rfl) ?_
  refine ax_q (q_ibin rfl rfl rfl) ?_
  refine ax_nil ?_
  refine cx_keep rfl rfl ?_
  refine cx_cond rfl (fun h0 => ?_) (fun h0 => ?_)
  · have h0 := dT h0
    refine cx_seq ?_
    refine cx_ops ?_
    refine ax_q (q_mov rfl) ?_
    refine ax_nil ?_
    refine cx_keep rfl rfl ?_
    refine cx_ret (ret0 rfl rfl ?_)
    exact ⟨congrArg int (by unfold szL at sp ⊢; omega), rfl⟩
  · have h0 := dF h0
    refine cx_skip ?_
    refine cx_keep rfl rfl ?_
    refine cx_seq ?_
    refine cx_seq ?_
    refine cx_ops ?_
    refine ax_q (q_mov rfl) ?_
    refine ax_nil ?_
    refine cx_keep rfl rfl ?_
    refine cx_block ?_
    refine cx_loopU (fun n k => k ≤ xs.length ∧ n = xs.length - k ∧ 0 ≤ left - xs.length - sumBy GIns.sz (xs.take k)) (fun k : Nat => [(1, int (left - xs.length - sumBy GIns.sz (xs.take k))), (5, int k)]) (fun _ => [])
      ⟨_, 0, ⟨Nat.zero_le _, rfl, by simp [sumBy]; omega⟩, ⟨⟨rfl, congrArg (fun n => some (int n)) (by simp only [List.take_zero, sumBy]; omega), rfl, trivial⟩, trivial⟩⟩ ?_
    rintro n k ⟨hk, rfl, hs⟩
    refine cx_seq ?_
    refine cx_seq ?_
    refine cx_ops ?_
    refine ax_q (q_mov rfl) ?_
    refine ax_q (q_mov rfl) ?_
    first | refine ax_q (q_lenS_map rfl) ?_ | refine ax_q (q_lenS_osl rfl) ?_ | refine ax_q (q_lenS_zs rfl) ?_ | refine ax_q (q_lenS rfl) ?_
    refine ax_q (q_ibin rfl rfl rfl) ?_
    refine ax_nil ?_
    refine cx_keep rfl rfl ?_
    refine cx_cond rfl (fun h1 => ?_) (fun h1 => ?_)
    · have h1 := dT h1
      have h1x : k < xs.length := by omega
      have hst := sumBy_take (f := GIns.sz) h1x
      have hsl := sumBy_le (f := GIns.sz) xs (k + 1)
      have hwk := hw2 _ (List.getElem_mem h1x)
      refine cx_skip ?_
      refine cx_keep rfl rfl ?_
      refine cx_seq ?_
      refine cx_block ?_
      refine cx_seq ?_
      refine cx_ops ?_
      refine ax_q (q_mov rfl) ?_
      refine ax_q (q_mov rfl) ?_
      refine ax_q (q_ix rfl rfl (mapAt h1x)) ?_
      first | refine ax_q (q_ldN rfl rfl rfl) ?_ | refine ax_q (q_loadN_ip rfl (Nat.le_refl _)) ?_ | refine ax_q (q_loadN_ip rfl (by decide)) ?_ | refine ax_q (q_loadN_rptr rfl rfl (by assumption) (by decide)) ?_ | refine ax_q (q_loadN_rptr rfl rfl (mapAt (by first | assumption | omega)) (by decide)) ?_
      refine ax_q (q_mov rfl) ?_
      have spk := szF_spec (left - xs.length - sumBy GIns.sz (xs.take k)) (GIns.sz xs[k])
      first | refine ax_call rfl (vc_pure0 (c_szIns  ?_ ?_ ?_) hP rfl rfl ?_) | refine ax_call rfl (vc_lend0 (c_szIns  ?_ ?_ ?_) hP (by repeat (first | exact lal_id _ rfl | exact LAL.nil | refine LAL.cons ?_ ?_ | exact la_id _ rfl | exact LA.lend (lend_whole rfl (by first | (simp; done) | (rw [List.length_map]; rfl))) | refine LA.agg ?_ | refine LA.fn ?_ | refine LA.lend ?_ | exact Lend.d _ | exact Lend.zs _ | exact lend_whole rfl (by first | (simp; done) | (rw [List.length_map]; rfl)) | refine Lend.ptr rfl ?_ | refine Lend.fn ?_ | exact LendL.nil | refine LendL.cons ?_ ?_)) rfl rfl ?_)
      · first | assumption | omega | (simp; done) | (simp; omega)
      · first | assumption | omega | (simp; done) | (simp; omega)
      · first | assumption | omega | (simp; done) | (simp; omega)
      refine ax_q (q_mov rfl) ?_
      refine ax_nil ?_
      refine cx_keep rfl rfl ?_
      refine cx_seq ?_
      refine cx_ops ?_
      refine ax_q (q_mov rfl) ?_
      refine ax_q (q_ibin rfl rfl rfl) ?_
      refine ax_nil ?_
      refine cx_keep rfl rfl ?_
      refine cx_cond rfl (fun h2 => ?_) (fun h2 => ?_)
      · have h2 := dT h2
        refine cx_seq ?_
        refine cx_ops ?_
        refine ax_q (q_mov rfl) ?_
        refine ax_nil ?_
        refine cx_keep rfl rfl ?_
        refine cx_ret (ret0 rfl rfl ?_)
        exact ⟨congrArg int (by unfold szL at sp ⊢; omega), rfl⟩
      · have h2 := dF h2
        have e9 : szF (left - xs.length - sumBy GIns.sz (xs.take k)) (GIns.sz xs[k]) = left - xs.length - sumBy GIns.sz (xs.take (k + 1)) := by omega
        refine cx_skip ?_
        refine cx_keep rfl rfl ?_
        refine cx_ops ?_
        refine ax_q (q_mov rfl) ?_
        refine ax_q (q_add rfl rfl (by omega)) ?_
        refine ax_q (q_mov rfl) ?_
        refine ax_nil ?_
        refine ⟨_, k + 1, by omega, ⟨by omega, rfl, by omega⟩, ?_⟩
        rw [e9]
        exact by repeat (first | exact trivial | refine ⟨rfl, ?_⟩ | refine ⟨?_, ?_⟩)
    · have h1 := dF h1
      refine cx_exit rfl ?_
      refine cx_keep rfl rfl ?_
      refine cx_seq ?_
      refine cx_ops ?_
      refine ax_q (q_mov rfl) ?_
      refine ax_q (q_mov rfl) ?_
      refine ax_nil ?_
      refine cx_keep rfl rfl ?_
      refine cx_ret (ret0 rfl rfl ?_)
      have hk2 : k = xs.length := by omega
      subst hk2; rw [List.take_length] at hs ⊢
      exact ⟨congrArg int (by unfold szL at sp ⊢; omega), rfl⟩


/- loop.example/g00332/laws.toValue -/
def k_c_toValue : XCode :=
  .seq (.ops [.op (some 1) (.box (.t 0)),
     .op (some 2) (.alloc [.int .i64 0, .int .i64 0, .str []])])
  (.keep [1, 2] (.seq (.ops [.op (some 3) (.alloc [.int .i64 0, .int .i64 0, .str []])])
  (.keep [1, 2, 3] (.seq (.ops [.op (some 4) (.fadr (.t 1) 0),
     .op (some 5) (.load1 (.t 4)),
     .op (some 6) (.fadr (.t 3) 0),
     .op none (.store 1 (.t 6) (.t 5))])
  (.keep [1, 2, 3] (.seq (.ops [.op (some 7) (.fadr (.t 1) 1),
     .op (some 8) (.load1 (.t 7)),
     .op (some 9) (.fadr (.t 3) 1),
     .op none (.store 1 (.t 9) (.t 8))])
  (.keep [1, 2, 3] (.seq (.ops [.op (some 10) (.fadr (.t 1) 2),
     .op (some 11) (.load1 (.t 10)),
     .op (some 12) (.fadr (.t 3) 2),
     .op none (.store 1 (.t 12) (.t 11))])
  (.keep [2, 3] (.seq (.ops [.op (some 13) (.loadN 3 (.t 3)),
     .op none (.store 3 (.t 2) (.t 13))])
  (.keep [2] (.ret))))))))))))
theorem k_c_toValue_fits : fitsF Try.prog 65 ⟨14, k_c_toValue, [.cN 2 3]⟩ = true := by kernel_rfl
theorem c_toValue {a : GValue} : Con Try.prog noMv 65 [a.av] [] (fun r h => r = a.av ∧ h = []) := by
  refine con_of2 k_c_toValue_fits rfl fun C hP hmv => ?_
  unfold k_c_toValue
  refine cx_seq ?_
  refine cx_ops ?_
  refine ax_e (e_box rfl rfl (by decide) rfl rfl rfl) ?_
  refine ax_e (e_alloc (by decide) rfl rfl) ?_
  refine ax_nil ?_
  refine cx_keep rfl rfl ?_
  refine cx_seq ?_
  refine cx_ops ?_
  refine ax_e (e_alloc (by decide) rfl rfl) ?_
  refine ax_nil ?_
  refine cx_keep rfl rfl ?_
  refine cx_seq ?_
  refine cx_ops ?_
  first | refine ax_q (q_fadr_ptr rfl) ?_ | refine ax_q (q_fadr_rptr rfl) ?_ | refine ax_q (q_fadr_ip rfl) ?_
  first | refine ax_q (q_load1_ptr rfl rfl rfl) ?_ | refine ax_q (q_load1_ip rfl) ?_ | refine ax_q (q_load1_rptr rfl rfl rfl rfl) ?_ | refine ax_q (q_load1_rptr rfl rfl (by assumption) rfl) ?_ | refine ax_q (q_load1_rptr rfl rfl (mapAt (by first | assumption | omega)) rfl) ?_
  first | refine ax_q (q_fadr_ptr rfl) ?_ | refine ax_q (q_fadr_rptr rfl) ?_ | refine ax_q (q_fadr_ip rfl) ?_
  refine ax_e (e_st rfl rfl rfl rfl rfl rfl rfl) ?_
  refine ax_nil ?_
  refine cx_keep rfl rfl ?_
  refine cx_seq ?_
  refine cx_ops ?_
  first | refine ax_q (q_fadr_ptr rfl) ?_ | refine ax_q (q_fadr_rptr rfl) ?_ | refine ax_q (q_fadr_ip rfl) ?_
  first | refine ax_q (q_load1_ptr rfl rfl rfl) ?_ | refine ax_q (q_load1_ip rfl) ?_ | refine ax_q (q_load1_rptr rfl rfl rfl rfl) ?_ | refine ax_q (q_load1_rptr rfl rfl (by assumption) rfl) ?_ | refine ax_q (q_load1_rptr rfl rfl (mapAt (by first | assumption | omega)) rfl) ?_
  first | refine ax_q (q_fadr_ptr rfl) ?_ | refine ax_q (q_fadr_rptr rfl) ?_ | refine ax_q (q_fadr_ip rfl) ?_
  refine ax_e (e_st rfl rfl rfl rfl rfl rfl rfl) ?_
  refine ax_nil ?_
  refine cx_keep rfl rfl ?_
  refine cx_seq ?_
  refine cx_ops ?_
  first | refine ax_q (q_fadr_ptr rfl) ?_ | refine ax_q (q_fadr_rptr rfl) ?_ | refine ax_q (q_fadr_ip rfl) ?_
  first | refine ax_q (q_load1_ptr rfl rfl rfl) ?_ | refine ax_q (q_load1_ip rfl) ?_ | refine ax_q (q_load1_rptr rfl rfl rfl rfl) ?_ | refine ax_q (q_load1_rptr rfl rfl (by assumption) rfl) ?_ | refine ax_q (q_load1_rptr rfl rfl (mapAt (by first | assumption | omega)) rfl) ?_
  first | refine ax_q (q_fadr_ptr rfl) ?_ | refine ax_q (q_fadr_rptr rfl) ?_ | refine ax_q (q_fadr_ip rfl) ?_
  refine ax_e (e_st rfl rfl rfl rfl rfl rfl rfl) ?_
  refine ax_nil ?_
  refine cx_keep rfl rfl ?_
  refine cx_seq ?_
  refine cx_ops ?_
  first | refine ax_q (q_ldN rfl rfl rfl) ?_ | refine ax_q (q_loadN_ip rfl (Nat.le_refl _)) ?_ | refine ax_q (q_loadN_ip rfl (by decide)) ?_ | refine ax_q (q_loadN_rptr rfl rfl (by assumption) (by decide)) ?_ | refine ax_q (q_loadN_rptr rfl rfl (mapAt (by first | assumption | omega)) (by decide)) ?_
  refine ax_e (e_st rfl rfl rfl rfl rfl rfl rfl) ?_
  refine ax_nil ?_
  refine cx_keep rfl rfl ?_
  refine cx_ret (ret0 rfl rfl ?_)
  exact ⟨rfl, rfl⟩


/- loop.example/g00332/laws.toIns -/
def k_c_toIns : XCode :=
  .seq (.ops [.op (some 1) (.box (.t 0)),
     .op (some 2) (.alloc [.int .i64 0, .int .i64 0, .int .i64 0, .int .i64 0, .str []])])
  (.keep [1, 2] (.seq (.ops [.op (some 3) (.alloc [.int .i64 0, .int .i64 0, .int .i64 0, .int .i64 0, .str []])])
  (.keep [1, 2, 3] (.seq (.ops [.op (some 4) (.fadr (.t 1) 0),
     .op (some 5) (.load1 (.t 4)),
     .op (some 6) (.fadr (.t 3) 0),
     .op none (.store 1 (.t 6) (.t 5))])
  (.keep [1, 2, 3] (.seq (.ops [.op (some 7) (.fadr (.t 1) 1),
     .op (some 8) (.load1 (.t 7)),
     .op (some 9) (.fadr (.t 3) 1),
     .op none (.store 1 (.t 9) (.t 8))])
  (.keep [1, 2, 3] (.seq (.ops [.op (some 10) (.fadr (.t 1) 2),
     .op (some 11) (.loadN 3 (.t 10)),
     .call (some 12) 65 [.t 11],
     .op (some 13) (.fadr (.t 3) 2),
     .op none (.store 3 (.t 13) (.t 12))])
  (.keep [2, 3] (.seq (.ops [.op (some 14) (.loadN 5 (.t 3)),
     .op none (.store 5 (.t 2) (.t 14))])
  (.keep [2] (.ret))))))))))))
theorem k_c_toIns_fits : fitsF Try.prog 41 ⟨15, k_c_toIns, [.cN 2 5]⟩ = true := by kernel_rfl
theorem c_toIns {a : GIns} : Con Try.prog noMv 41 [a.av] [] (fun r h => r = a.av ∧ h = []) := by
  refine con_of2 k_c_toIns_fits rfl fun C hP hmv => ?_
  unfold k_c_toIns
  refine cx_seq ?_
  refine cx_ops ?_
  refine ax_e (e_box rfl rfl (by decide) rfl rfl rfl) ?_
  refine ax_e (e_alloc (by decide) rfl rfl) ?_
  refine ax_nil ?_
  refine cx_keep rfl rfl ?_
  refine cx_seq ?_
  refine cx_ops ?_
  refine ax_e (e_alloc (by decide) rfl rfl) ?_
  refine ax_nil ?_
  refine cx_keep rfl rfl ?_
  refine cx_seq ?_
  refine cx_ops ?_
  first | refine ax_q (q_fadr_ptr rfl) ?_ | refine ax_q (q_fadr_rptr rfl) ?_ | refine ax_q (q_fadr_ip rfl) ?_
  first | refine ax_q (q_load1_ptr rfl rfl rfl) ?_ | refine ax_q (q_load1_ip rfl) ?_ | refine ax_q (q_load1_rptr rfl rfl rfl rfl) ?_ | refine ax_q (q_load1_rptr rfl rfl (by assumption) rfl) ?_ | refine ax_q (q_load1_rptr rfl rfl (mapAt (by first | assumption | omega)) rfl) ?_
  first | refine ax_q (q_fadr_ptr rfl) ?_ | refine ax_q (q_fadr_rptr rfl) ?_ | refine ax_q (q_fadr_ip rfl) ?_
  refine ax_e (e_st rfl rfl rfl rfl rfl rfl rfl) ?_
  refine ax_nil ?_
  refine cx_keep rfl rfl ?_
  refine cx_seq ?_
  refine cx_ops ?_
  first | refine ax_q (q_fadr_ptr rfl) ?_ | refine ax_q (q_fadr_rptr rfl) ?_ | refine ax_q (q_fadr_ip rfl) ?_
  first | refine ax_q (q_load1_ptr rfl rfl rfl) ?_ | refine ax_q (q_load1_ip rfl) ?_ | refine ax_q (q_load1_rptr rfl rfl rfl rfl) ?_ | refine ax_q (q_load1_rptr rfl rfl (by assumption) rfl) ?_ | refine ax_q (q_load1_rptr rfl rfl (mapAt (by first | assumption | omega)) rfl) ?_
  first | refine ax_q (q_fadr_ptr rfl) ?_ | refine ax_q (q_fadr_rptr rfl) ?_ | refine ax_q (q_fadr_ip rfl) ?_
  refine ax_e (e_st rfl rfl rfl rfl rfl rfl rfl) ?_
  refine ax_nil ?_
  refine cx_keep rfl rfl ?_
  refine cx_seq ?_
  refine cx_ops ?_
  first | refine ax_q (q_fadr_ptr rfl) ?_ | refine ax_q (q_fadr_rptr rfl) ?_ | refine ax_q (q_fadr_ip rfl) ?_
  first | refine ax_q (q_ldN rfl rfl rfl) ?_ | refine ax_q (q_loadN_ip rfl (Nat.le_refl _)) ?_ | refine ax_q (q_loadN_ip rfl (by decide)) ?_ | refine ax_q (q_loadN_rptr rfl rfl (by assumption) (by decide)) ?_ | refine ax_q (q_loadN_rptr rfl rfl (mapAt (by first | assumption | omega)) (by decide)) ?_
  first | refine ax_call rfl (vc_pure0 (c_toValue  ) hP rfl rfl ?_) | refine ax_call rfl (vc_lend0 (c_toValue  ) hP (by repeat (first | exact lal_id _ rfl | exact LAL.nil | refine LAL.cons ?_ ?_ | exact la_id _ rfl | exact LA.lend (lend_whole rfl (by first | (simp; done) | (rw [List.length_map]; rfl))) | refine LA.agg ?_ | refine LA.fn ?_ | refine LA.lend ?_ | exact Lend.d _ | exact Lend.zs _ | exact lend_whole rfl (by first | (simp; done) | (rw [List.length_map]; rfl)) | refine Lend.ptr rfl ?_ | refine Lend.fn ?_ | exact LendL.nil | refine LendL.cons ?_ ?_)) rfl rfl ?_)
  first | refine ax_q (q_fadr_ptr rfl) ?_ | refine ax_q (q_fadr_rptr rfl) ?_ | refine ax_q (q_fadr_ip rfl) ?_
  refine ax_e (e_st rfl rfl rfl rfl rfl rfl rfl) ?_
  refine ax_nil ?_
  refine cx_keep rfl rfl ?_
  refine cx_seq ?_
  refine cx_ops ?_
  first | refine ax_q (q_ldN rfl rfl rfl) ?_ | refine ax_q (q_loadN_ip rfl (Nat.le_refl _)) ?_ | refine ax_q (q_loadN_ip rfl (by decide)) ?_ | refine ax_q (q_loadN_rptr rfl rfl (by assumption) (by decide)) ?_ | refine ax_q (q_loadN_rptr rfl rfl (mapAt (by first | assumption | omega)) (by decide)) ?_
  refine ax_e (e_st rfl rfl rfl rfl rfl rfl rfl) ?_
  refine ax_nil ?_
  refine cx_keep rfl rfl ?_
  refine cx_ret (ret0 rfl rfl ?_)
  exact ⟨rfl, rfl⟩


/- loop.example/g00332/laws.toInsS -/
def k_c_toInsS : XCode :=
  .seq (.ops [.op (some 2) (.mov (.k (.nils 5)))])
  (.keep [0] (.seq (.ops [.op (some 5) (.mov (.t 0)),
     .op (some 6) (.lenS (.t 5)),
     .op (some 7) (.mkslice 5 48 [.int .i64 0, .int .i64 0, .int .i64 0, .int .i64 0, .str []] (.t 6) (.t 6)),
     .op (some 3) (.mov (.t 7))])
  (.keep [0, 3] (.seq (.seq (.ops [.op (some 4) (.mov (.k (.int .i64 0)))])
   (.keep [0, 3, 4] (.block 0 (.loop (.seq (.seq (.ops [.op (some 8) (.mov (.t 4)),
         .op (some 9) (.mov (.t 0)),
         .op (some 10) (.lenS (.t 9)),
         .op (some 11) (.bin .lss (.t 8) (.t 10))])
      (.keep [0, 3, 4, 11] (.cond (.t 11)
       (.skip)
       (.exit 0))))
     (.keep [0, 3, 4] (.seq (.block 1 (.ops [.op (some 14) (.mov (.t 3)),
         .op (some 15) (.mov (.t 4)),
         .op (some 16) (.mov (.t 0)),
         .op (some 17) (.mov (.t 4)),
         .op (some 18) (.iadr 5 (.t 16) (.t 17)),
         .op (some 19) (.loadN 5 (.t 18)),
         .call (some 20) 41 [.t 19],
         .op (some 21) (.iadr 5 (.t 14) (.t 15)),
         .op none (.store 5 (.t 21) (.t 20))]))
     (.keep [0, 3, 4] (.ops [.op (some 12) (.mov (.t 4)),
       .op (some 13) (.bin .add (.t 12) (.k (.int .i64 1))),
       .op (some 4) (.mov (.t 13))])))))))))
  (.keep [3] (.seq (.ops [.op (some 22) (.mov (.t 3)),
     .op (some 2) (.mov (.t 22))])
  (.keep [2] (.ret))))))))
theorem k_c_toInsS_fits : fitsF Try.prog 12 ⟨23, k_c_toInsS, [.t 2]⟩ = true := by kernel_rfl
theorem c_toInsS {xs : List GIns} (hw : xs.length ≤ 1048576) : Con Try.prog noMv 12 [.d (.sl 5 (xs.map GIns.row))] [] (fun r h => r = .osl 0 5 0 xs.length ∧ h = [(0, .rows 5 (xs.map GIns.row))]) := by
  refine con_of2 k_c_toInsS_fits rfl fun C hP hmv => ?_
  unfold k_c_toInsS
  refine cx_seq ?_
  refine cx_ops ?_
  refine ax_q (q_mov rfl) ?_
  refine ax_nil ?_
  refine cx_keep rfl rfl ?_
  refine cx_seq ?_
  refine cx_ops ?_
  refine ax_q (q_mov rfl) ?_
  first | refine ax_q (q_lenS_map rfl) ?_ | refine ax_q (q_lenS_osl rfl) ?_ | refine ax_q (q_lenS_zs rfl) ?_ | refine ax_q (q_lenS rfl) ?_
  refine ax_ee (e_mkslice rfl rfl rfl (by omega) (by omega) (by omega) (by decide) rfl rfl) (by rw [Int.toNat_natCast]) ?_
  refine ax_q (q_mov rfl) ?_
  refine ax_nil ?_
  refine cx_keep rfl rfl ?_
  refine cx_seq ?_
  refine cx_seq ?_
  refine cx_ops ?_
  refine ax_q (q_mov rfl) ?_
  refine ax_nil ?_
  refine cx_keep rfl rfl ?_
  refine cx_block ?_
  refine cx_loopU (fun n k => k ≤ xs.length ∧ n = xs.length - k) (fun k : Nat => [(4, int k)]) (fun k => [(7, .rows 5 ((xs.take k).map GIns.row ++ List.replicate (xs.length - k) [.int .i64 0, .int .i64 0, .int .i64 0, .int .i64 0, .str []]))]) ⟨_, 0, ⟨Nat.zero_le _, rfl⟩, by repeat (first | exact trivial | refine ⟨rfl, ?_⟩ | refine ⟨?_, ?_⟩)⟩ ?_
  rintro n k ⟨hk, rfl⟩
  refine cx_seq ?_
  refine cx_seq ?_
  refine cx_ops ?_
  refine ax_q (q_mov rfl) ?_
  refine ax_q (q_mov rfl) ?_
  first | refine ax_q (q_lenS_map rfl) ?_ | refine ax_q (q_lenS_osl rfl) ?_ | refine ax_q (q_lenS_zs rfl) ?_ | refine ax_q (q_lenS rfl) ?_
  refine ax_q (q_ibin rfl rfl rfl) ?_
  refine ax_nil ?_
  refine cx_keep rfl rfl ?_
  refine cx_cond rfl (fun h0 => ?_) (fun h0 => ?_)
  · have h0 := dT h0
    have h1x : k < xs.length := by omega
    refine cx_skip ?_
    refine cx_keep rfl rfl ?_
    refine cx_seq ?_
    refine cx_block ?_
    refine cx_ops ?_
    refine ax_q (q_mov rfl) ?_
    refine ax_q (q_mov rfl) ?_
    refine ax_q (q_mov rfl) ?_
    refine ax_q (q_mov rfl) ?_
    refine ax_q (q_ix rfl rfl (mapAt h1x)) ?_
    first | refine ax_q (q_ldN rfl rfl rfl) ?_ | refine ax_q (q_loadN_ip rfl (Nat.le_refl _)) ?_ | refine ax_q (q_loadN_ip rfl (by decide)) ?_ | refine ax_q (q_loadN_rptr rfl rfl (by assumption) (by decide)) ?_ | refine ax_q (q_loadN_rptr rfl rfl (mapAt (by first | assumption | omega)) (by decide)) ?_
    first | refine ax_call rfl (vc_pure0 (c_toIns  ) hP rfl rfl ?_) | refine ax_call rfl (vc_lend0 (c_toIns  ) hP (by repeat (first | exact lal_id _ rfl | exact LAL.nil | refine LAL.cons ?_ ?_ | exact la_id _ rfl | exact LA.lend (lend_whole rfl (by first | (simp; done) | (rw [List.length_map]; rfl))) | refine LA.agg ?_ | refine LA.fn ?_ | refine LA.lend ?_ | exact Lend.d _ | exact Lend.zs _ | exact lend_whole rfl (by first | (simp; done) | (rw [List.length_map]; rfl)) | refine Lend.ptr rfl ?_ | refine Lend.fn ?_ | exact LendL.nil | refine LendL.cons ?_ ?_)) rfl rfl ?_)
    refine ax_q (q_ixo rfl rfl h1x) ?_
    refine ax_e (e_str (q := GIns.row xs[k]) rfl rfl rfl rfl rfl rfl (fillAtL h1x) rfl rfl (fillSetL h1x)) ?_
    refine ax_nil ?_
    refine cx_keep rfl rfl ?_
    refine cx_ops ?_
    refine ax_q (q_mov rfl) ?_
    refine ax_q (q_add rfl rfl (by omega)) ?_
    refine ax_q (q_mov rfl) ?_
    refine ax_nil ?_
    exact ⟨_, k + 1, by omega, ⟨by omega, rfl⟩, by repeat (first | exact trivial | refine ⟨rfl, ?_⟩ | refine ⟨?_, ?_⟩)⟩
  · have h0 := dF h0
    refine cx_exit rfl ?_
    refine cx_keep rfl rfl ?_
    refine cx_seq ?_
    refine cx_ops ?_
    refine ax_q (q_mov rfl) ?_
    refine ax_q (q_mov rfl) ?_
    refine ax_nil ?_
    refine cx_keep rfl rfl ?_
    refine cx_ret (retN (fun _ => 0) [7] rfl rfl rfl rfl rfl ?_)
    exact ⟨rfl, by rw [show k = xs.length from by omega, List.take_length, Nat.sub_self, List.replicate_zero, List.append_nil]; rfl⟩


/- loop.example/g00332/laws.eqValue -/
def k_c_eqValue : XCode :=
  .seq (.ops [.op (some 2) (.box (.t 0)),
     .op (some 3) (.box (.t 1)),
     .op (some 4) (.mov (.k (.bool false)))])
  (.keep [2, 3] (.seq (.seq (.ops [.op (some 5) (.fadr (.t 2) 0),
      .op (some 6) (.load1 (.t 5)),
      .op (some 7) (.fadr (.t 3) 0),
      .op (some 8) (.load1 (.t 7)),
      .op (some 9) (.bin .neq (.t 6) (.t 8))])
   (.keep [2, 3, 9] (.cond (.t 9)
    (.seq (.ops [.op (some 4) (.mov (.k (.bool false)))])
     (.keep [4] (.ret)))
    (.skip))))
  (.keep [2, 3] (.seq (.seq (.ops [.op (some 10) (.fadr (.t 2) 1),
      .op (some 11) (.load1 (.t 10)),
      .op (some 12) (.fadr (.t 3) 1),
      .op (some 13) (.load1 (.t 12)),
      .op (some 14) (.bin .neq (.t 11) (.t 13))])
   (.keep [2, 3, 14] (.cond (.t 14)
    (.seq (.ops [.op (some 4) (.mov (.k (.bool false)))])
     (.keep [4] (.ret)))
    (.skip))))
  (.keep [2, 3] (.seq (.seq (.ops [.op (some 15) (.fadr (.t 2) 2),
      .op (some 16) (.load1 (.t 15)),
      .op (some 17) (.fadr (.t 3) 2),
      .op (some 18) (.load1 (.t 17)),
      .op (some 19) (.bin .neq (.t 16) (.t 18))])
   (.keep [19] (.cond (.t 19)
    (.seq (.ops [.op (some 4) (.mov (.k (.bool false)))])
     (.keep [4] (.ret)))
    (.skip))))
  (.keep [] (.seq (.ops [.op (some 4) (.mov (.k (.bool true)))])
  (.keep [4] (.ret))))))))))
theorem k_c_eqValue_fits : fitsF Try.prog 34 ⟨20, k_c_eqValue, [.t 4]⟩ = true := by kernel_rfl
theorem c_eqValue {a b : GValue}  : Con Try.prog noMv 34 [a.av, b.av] [] (fun r h => r = bool (eqb a b) ∧ h = []) := by
  refine con_of2 k_c_eqValue_fits rfl fun C hP hmv => ?_
  unfold k_c_eqValue
  refine cx_seq ?_
  refine cx_ops ?_
  refine ax_e (e_box rfl rfl (by decide) rfl rfl rfl) ?_
  refine ax_e (e_box rfl rfl (by decide) rfl rfl rfl) ?_
  refine ax_q (q_mov rfl) ?_
  refine ax_nil ?_
  refine cx_keep rfl rfl ?_
  refine cx_seq ?_
  refine cx_seq ?_
  refine cx_ops ?_
  first | refine ax_q (q_fadr_ptr rfl) ?_ | refine ax_q (q_fadr_rptr rfl) ?_ | refine ax_q (q_fadr_ip rfl) ?_
  first | refine ax_q (q_load1_ptr rfl rfl rfl) ?_ | refine ax_q (q_load1_ip rfl) ?_ | refine ax_q (q_load1_rptr rfl rfl rfl rfl) ?_ | refine ax_q (q_load1_rptr rfl rfl (by assumption) rfl) ?_ | refine ax_q (q_load1_rptr rfl rfl (mapAt (by first | assumption | omega)) rfl) ?_
  first | refine ax_q (q_fadr_ptr rfl) ?_ | refine ax_q (q_fadr_rptr rfl) ?_ | refine ax_q (q_fadr_ip rfl) ?_
  first | refine ax_q (q_load1_ptr rfl rfl rfl) ?_ | refine ax_q (q_load1_ip rfl) ?_ | refine ax_q (q_load1_rptr rfl rfl rfl rfl) ?_ | refine ax_q (q_load1_rptr rfl rfl (by assumption) rfl) ?_ | refine ax_q (q_load1_rptr rfl rfl (mapAt (by first | assumption | omega)) rfl) ?_
  refine ax_q (q_ibin rfl rfl rfl) ?_
  refine ax_nil ?_
  refine cx_keep rfl rfl ?_
  refine cx_cond rfl (fun h0 => ?_) (fun h0 => ?_)
  · have h0 := nT h0
    refine cx_seq ?_
    refine cx_ops ?_
    refine ax_q (q_mov rfl) ?_
    refine ax_nil ?_
    refine cx_keep rfl rfl ?_
    refine cx_ret (ret0 rfl rfl ?_)
    exact ⟨congrArg AM.bool (eqb_f (fun h => h0 (by rw [h]))).symm, rfl⟩
  · have h0 := nF h0
    refine cx_skip ?_
    refine cx_keep rfl rfl ?_
    refine cx_seq ?_
    refine cx_seq ?_
    refine cx_ops ?_
    first | refine ax_q (q_fadr_ptr rfl) ?_ | refine ax_q (q_fadr_rptr rfl) ?_ | refine ax_q (q_fadr_ip rfl) ?_
    first | refine ax_q (q_load1_ptr rfl rfl rfl) ?_ | refine ax_q (q_load1_ip rfl) ?_ | refine ax_q (q_load1_rptr rfl rfl rfl rfl) ?_ | refine ax_q (q_load1_rptr rfl rfl (by assumption) rfl) ?_ | refine ax_q (q_load1_rptr rfl rfl (mapAt (by first | assumption | omega)) rfl) ?_
    first | refine ax_q (q_fadr_ptr rfl) ?_ | refine ax_q (q_fadr_rptr rfl) ?_ | refine ax_q (q_fadr_ip rfl) ?_
    first | refine ax_q (q_load1_ptr rfl rfl rfl) ?_ | refine ax_q (q_load1_ip rfl) ?_ | refine ax_q (q_load1_rptr rfl rfl rfl rfl) ?_ | refine ax_q (q_load1_rptr rfl rfl (by assumption) rfl) ?_ | refine ax_q (q_load1_rptr rfl rfl (mapAt (by first | assumption | omega)) rfl) ?_
    refine ax_q (q_ibin rfl rfl rfl) ?_
    refine ax_nil ?_
    refine cx_keep rfl rfl ?_
    refine cx_cond rfl (fun h1 => ?_) (fun h1 => ?_)
    · have h1 := nT h1
      refine cx_seq ?_
      refine cx_ops ?_
      refine ax_q (q_mov rfl) ?_
      refine ax_nil ?_
      refine cx_keep rfl rfl ?_
      refine cx_ret (ret0 rfl rfl ?_)
      exact ⟨congrArg AM.bool (eqb_f (fun h => h1 (by rw [h]))).symm, rfl⟩
    · have h1 := nF h1
      refine cx_skip ?_
      refine cx_keep rfl rfl ?_
      refine cx_seq ?_
      refine cx_seq ?_
      refine cx_ops ?_
      first | refine ax_q (q_fadr_ptr rfl) ?_ | refine ax_q (q_fadr_rptr rfl) ?_ | refine ax_q (q_fadr_ip rfl) ?_
      first | refine ax_q (q_load1_ptr rfl rfl rfl) ?_ | refine ax_q (q_load1_ip rfl) ?_ | refine ax_q (q_load1_rptr rfl rfl rfl rfl) ?_ | refine ax_q (q_load1_rptr rfl rfl (by assumption) rfl) ?_ | refine ax_q (q_load1_rptr rfl rfl (mapAt (by first | assumption | omega)) rfl) ?_
      first | refine ax_q (q_fadr_ptr rfl) ?_ | refine ax_q (q_fadr_rptr rfl) ?_ | refine ax_q (q_fadr_ip rfl) ?_
      first | refine ax_q (q_load1_ptr rfl rfl rfl) ?_ | refine ax_q (q_load1_ip rfl) ?_ | refine ax_q (q_load1_rptr rfl rfl rfl rfl) ?_ | refine ax_q (q_load1_rptr rfl rfl (by assumption) rfl) ?_ | refine ax_q (q_load1_rptr rfl rfl (mapAt (by first | assumption | omega)) rfl) ?_
      refine ax_q (q_sbin rfl rfl rfl) ?_
      refine ax_nil ?_
      refine cx_keep rfl rfl ?_
      refine cx_cond rfl (fun h2 => ?_) (fun h2 => ?_)
      · have h2 := nT h2
        refine cx_seq ?_
        refine cx_ops ?_
        refine ax_q (q_mov rfl) ?_
        refine ax_nil ?_
        refine cx_keep rfl rfl ?_
        refine cx_ret (ret0 rfl rfl ?_)
        exact ⟨congrArg AM.bool (eqb_f (fun h => h2 (by rw [h]))).symm, rfl⟩
      · have h2 := nF h2
        refine cx_skip ?_
        refine cx_keep rfl rfl ?_
        refine cx_seq ?_
        refine cx_ops ?_
        refine ax_q (q_mov rfl) ?_
        refine ax_nil ?_
        refine cx_keep rfl rfl ?_
        refine cx_ret (ret0 rfl rfl ?_)
        exact ⟨congrArg AM.bool (eqb_t (GValue.ext1 h0 h1 h2)).symm, rfl⟩


/- loop.example/g00332/laws.eqIns -/
def k_c_eqIns : XCode :=
  .seq (.ops [.op (some 2) (.box (.t 0)),
     .op (some 3) (.box (.t 1)),
     .op (some 4) (.mov (.k (.bool false)))])
  (.keep [2, 3] (.seq (.seq (.ops [.op (some 5) (.fadr (.t 2) 0),
      .op (some 6) (.load1 (.t 5)),
      .op (some 7) (.fadr (.t 3) 0),
      .op (some 8) (.load1 (.t 7)),
      .op (some 9) (.bin .neq (.t 6) (.t 8))])
   (.keep [2, 3, 9] (.cond (.t 9)
    (.seq (.ops [.op (some 4) (.mov (.k (.bool false)))])
     (.keep [4] (.ret)))
    (.skip))))
  (.keep [2, 3] (.seq (.seq (.ops [.op (some 10) (.fadr (.t 2) 1),
      .op (some 11) (.load1 (.t 10)),
      .op (some 12) (.fadr (.t 3) 1),
      .op (some 13) (.load1 (.t 12)),
      .op (some 14) (.bin .neq (.t 11) (.t 13))])
   (.keep [2, 3, 14] (.cond (.t 14)
    (.seq (.ops [.op (some 4) (.mov (.k (.bool false)))])
     (.keep [4] (.ret)))
    (.skip))))
  (.keep [2, 3] (.seq (.seq (.ops [.op (some 15) (.fadr (.t 2) 2),
      .op (some 16) (.loadN 3 (.t 15)),
      .op (some 17) (.fadr (.t 3) 2),
      .op (some 18) (.loadN 3 (.t 17)),
      .call (some 19) 34 [.t 16, .t 18],
      .op (some 20) (.not (.t 19))])
   (.keep [20] (.cond (.t 20)
    (.seq (.ops [.op (some 4) (.mov (.k (.bool false)))])
     (.keep [4] (.ret)))
    (.skip))))
  (.keep [] (.seq (.ops [.op (some 4) (.mov (.k (.bool true)))])
  (.keep [4] (.ret))))))))))
theorem k_c_eqIns_fits : fitsF Try.prog 43 ⟨21, k_c_eqIns, [.t 4]⟩ = true := by kernel_rfl
theorem c_eqIns {a b : GIns}  : Con Try.prog noMv 43 [a.av, b.av] [] (fun r h => r = bool (eqb a b) ∧ h = []) := by
  refine con_of2 k_c_eqIns_fits rfl fun C hP hmv => ?_
  unfold k_c_eqIns
  refine cx_seq ?_
  refine cx_ops ?_
  refine ax_e (e_box rfl rfl (by decide) rfl rfl rfl) ?_
  refine ax_e (e_box rfl rfl (by decide) rfl rfl rfl) ?_
  refine ax_q (q_mov rfl) ?_
  refine ax_nil ?_
  refine cx_keep rfl rfl ?_
  refine cx_seq ?_
  refine cx_seq ?_
  refine cx_ops ?_
  first | refine ax_q (q_fadr_ptr rfl) ?_ | refine ax_q (q_fadr_rptr rfl) ?_ | refine ax_q (q_fadr_ip rfl) ?_
  first | refine ax_q (q_load1_ptr rfl rfl rfl) ?_ | refine ax_q (q_load1_ip rfl) ?_ | refine ax_q (q_load1_rptr rfl rfl rfl rfl) ?_ | refine ax_q (q_load1_rptr rfl rfl (by assumption) rfl) ?_ | refine ax_q (q_load1_rptr rfl rfl (mapAt (by first | assumption | omega)) rfl) ?_
  first | refine ax_q (q_fadr_ptr rfl) ?_ | refine ax_q (q_fadr_rptr rfl) ?_ | refine ax_q (q_fadr_ip rfl) ?_
  first | refine ax_q (q_load1_ptr rfl rfl rfl) ?_ | refine ax_q (q_load1_ip rfl) ?_ | refine ax_q (q_load1_rptr rfl rfl rfl rfl) ?_ | refine ax_q (q_load1_rptr rfl rfl (by assumption) rfl) ?_ | refine ax_q (q_load1_rptr rfl rfl (mapAt (by first | assumption | omega)) rfl) ?_
  refine ax_q (q_ibin rfl rfl rfl) ?_
  refine ax_nil ?_
  refine cx_keep rfl rfl ?_
  refine cx_cond rfl (fun h0 => ?_) (fun h0 => ?_)
  · have h0 := nT h0
    refine cx_seq ?_
    refine cx_ops ?_
    refine ax_q (q_mov rfl) ?_
    refine ax_nil ?_
    refine cx_keep rfl rfl ?_
    refine cx_ret (ret0 rfl rfl ?_)
    exact ⟨congrArg AM.bool (eqb_f (fun h => h0 (by rw [h]))).symm, rfl⟩
  · have h0 := nF h0
    refine cx_skip ?_
    refine cx_keep rfl rfl ?_
    refine cx_seq ?_
    refine cx_seq ?_
    refine cx_ops ?_
    first | refine ax_q (q_fadr_ptr rfl) ?_ | refine ax_q (q_fadr_rptr rfl) ?_ | refine ax_q (q_fadr_ip rfl) ?_
    first | refine ax_q (q_load1_ptr rfl rfl rfl) ?_ | refine ax_q (q_load1_ip rfl) ?_ | refine ax_q (q_load1_rptr rfl rfl rfl rfl) ?_ | refine ax_q (q_load1_rptr rfl rfl (by assumption) rfl) ?_ | refine ax_q (q_load1_rptr rfl rfl (mapAt (by first | assumption | omega)) rfl) ?_
    first | refine ax_q (q_fadr_ptr rfl) ?_ | refine ax_q (q_fadr_rptr rfl) ?_ | refine ax_q (q_fadr_ip rfl) ?_
    first | refine ax_q (q_load1_ptr rfl rfl rfl) ?_ | refine ax_q (q_load1_ip rfl) ?_ | refine ax_q (q_load1_rptr rfl rfl rfl rfl) ?_ | refine ax_q (q_load1_rptr rfl rfl (by assumption) rfl) ?_ | refine ax_q (q_load1_rptr rfl rfl (mapAt (by first | assumption | omega)) rfl) ?_
    refine ax_q (q_ibin rfl rfl rfl) ?_
    refine ax_nil ?_
    refine cx_keep rfl rfl ?_
    refine cx_cond rfl (fun h1 => ?_) (fun h1 => ?_)
    · have h1 := nT h1
      refine cx_seq ?_
      refine cx_ops ?_
      refine ax_q (q_mov rfl) ?_
      refine ax_nil ?_
      refine cx_keep rfl rfl ?_
      refine cx_ret (ret0 rfl rfl ?_)
      exact ⟨congrArg AM.bool (eqb_f (fun h => h1 (by rw [h]))).symm, rfl⟩
    · have h1 := nF h1
      refine cx_skip ?_
      refine cx_keep rfl rfl ?_
      refine cx_seq ?_
      refine cx_seq ?_
      refine cx_ops ?_
      first | refine ax_q (q_fadr_ptr rfl) ?_ | refine ax_q (q_fadr_rptr rfl) ?_ | refine ax_q (q_fadr_ip rfl) ?_
      first | refine ax_q (q_ldN rfl rfl rfl) ?_ | refine ax_q (q_loadN_ip rfl (Nat.le_refl _)) ?_ | refine ax_q (q_loadN_ip rfl (by decide)) ?_ | refine ax_q (q_loadN_rptr rfl rfl (by assumption) (by decide)) ?_ | refine ax_q (q_loadN_rptr rfl rfl (mapAt (by first | assumption | omega)) (by decide)) ?_
      first | refine ax_q (q_fadr_ptr rfl) ?_ | refine ax_q (q_fadr_rptr rfl) ?_ | refine ax_q (q_fadr_ip rfl) ?_
      first | refine ax_q (q_ldN rfl rfl rfl) ?_ | refine ax_q (q_loadN_ip rfl (Nat.le_refl _)) ?_ | refine ax_q (q_loadN_ip rfl (by decide)) ?_ | refine ax_q (q_loadN_rptr rfl rfl (by assumption) (by decide)) ?_ | refine ax_q (q_loadN_rptr rfl rfl (mapAt (by first | assumption | omega)) (by decide)) ?_
      first | refine ax_call rfl (vc_pure0 (c_eqValue  ) hP rfl rfl ?_) | refine ax_call rfl (vc_lend0 (c_eqValue  ) hP (by repeat (first | exact lal_id _ rfl | exact LAL.nil | refine LAL.cons ?_ ?_ | exact la_id _ rfl | exact LA.lend (lend_whole rfl (by first | (simp; done) | (rw [List.length_map]; rfl))) | refine LA.agg ?_ | refine LA.fn ?_ | refine LA.lend ?_ | exact Lend.d _ | exact Lend.zs _ | exact lend_whole rfl (by first | (simp; done) | (rw [List.length_map]; rfl)) | refine Lend.ptr rfl ?_ | refine Lend.fn ?_ | exact LendL.nil | refine LendL.cons ?_ ?_)) rfl rfl ?_)
      refine ax_q (q_not rfl) ?_
      refine ax_nil ?_
      refine cx_keep rfl rfl ?_
      refine cx_cond rfl (fun h2 => ?_) (fun h2 => ?_)
      · have h2 := bT h2
        refine cx_seq ?_
        refine cx_ops ?_
        refine ax_q (q_mov rfl) ?_
        refine ax_nil ?_
        refine cx_keep rfl rfl ?_
        refine cx_ret (ret0 rfl rfl ?_)
        exact ⟨congrArg AM.bool (eqb_f (fun h => by rw [h, eqb_rfl] at h2; cases h2)).symm, rfl⟩
      · have h2 := bF h2
        refine cx_skip ?_
        refine cx_keep rfl rfl ?_
        refine cx_seq ?_
        refine cx_ops ?_
        refine ax_q (q_mov rfl) ?_
        refine ax_nil ?_
        refine cx_keep rfl rfl ?_
        refine cx_ret (ret0 rfl rfl ?_)
        exact ⟨congrArg AM.bool (eqb_t (GIns.ext1 h0 h1 (eqb_iff.1 h2))).symm, rfl⟩


/- loop.example/g00332/laws.eqInsS -/
def k_c_eqInsS : XCode :=
  .seq (.ops [.op (some 4) (.mov (.k (.bool false)))])
  (.keep [0, 1] (.seq (.seq (.ops [.op (some 6) (.mov (.t 0)),
      .op (some 7) (.lenS (.t 6)),
      .op (some 8) (.mov (.t 1)),
      .op (some 9) (.lenS (.t 8)),
      .op (some 10) (.bin .neq (.t 7) (.t 9))])
   (.keep [0, 1, 10] (.cond (.t 10)
    (.seq (.ops [.op (some 4) (.mov (.k (.bool false)))])
     (.keep [4] (.ret)))
    (.skip))))
  (.keep [0, 1] (.seq (.seq (.ops [.op (some 5) (.mov (.k (.int .i64 0)))])
   (.keep [0, 1, 5] (.block 0 (.loop (.seq (.seq (.ops [.op (some 11) (.mov (.t 5)),
         .op (some 12) (.mov (.t 0)),
         .op (some 13) (.lenS (.t 12)),
         .op (some 14) (.bin .lss (.t 11) (.t 13))])
      (.keep [0, 1, 5, 14] (.cond (.t 14)
       (.skip)
       (.exit 0))))
     (.keep [0, 1, 5] (.seq (.block 1 (.seq (.draw [.op (some 17) (.mov (.t 0)),
          .op (some 18) (.mov (.t 5)),
          .op (some 19) (.iadr 5 (.t 17) (.t 18)),
          .op (some 20) (.loadN 5 (.t 19)),
          .op (some 21) (.mov (.t 1)),
          .op (some 22) (.mov (.t 5)),
          .op (some 23) (.iadr 5 (.t 21) (.t 22)),
          .op (some 24) (.loadN 5 (.t 23)),
          .call (some 25) 43 [.t 20, .t 24],
          .op (some 26) (.not (.t 25))])
       (.keep [0, 1, 5, 26] (.cond (.t 26)
        (.seq (.ops [.op (some 4) (.mov (.k (.bool false)))])
         (.keep [4] (.ret)))
        (.skip)))))
     (.keep [0, 1, 5] (.ops [.op (some 15) (.mov (.t 5)),
       .op (some 16) (.bin .add (.t 15) (.k (.int .i64 1))),
       .op (some 5) (.mov (.t 16))])))))))))
  (.keep [] (.seq (.ops [.op (some 4) (.mov (.k (.bool true)))])
  (.keep [4] (.ret))))))))
theorem k_c_eqInsS_fits : fitsF Try.prog 14 ⟨27, k_c_eqInsS, [.t 4]⟩ = true := by kernel_rfl
theorem c_eqInsS {xs ys : List GIns} (hw : xs.length ≤ 9223372036854775807) : Con Try.prog noMv 14 [.d (.sl 5 (xs.map GIns.row)), .d (.sl 5 (ys.map GIns.row))] [] (fun r h => r = bool (eqb xs ys) ∧ h = []) := by
  refine con_of2 k_c_eqInsS_fits rfl fun C hP hmv => ?_
  unfold k_c_eqInsS
  refine cx_seq ?_
  refine cx_ops ?_
  refine ax_q (q_mov rfl) ?_
  refine ax_nil ?_
  refine cx_keep rfl rfl ?_
  refine cx_seq ?_
  refine cx_seq ?_
  refine cx_ops ?_
  refine ax_q (q_mov rfl) ?_
  first | refine ax_q (q_lenS_map rfl) ?_ | refine ax_q (q_lenS_osl rfl) ?_ | refine ax_q (q_lenS_zs rfl) ?_ | refine ax_q (q_lenS rfl) ?_
  refine ax_q (q_mov rfl) ?_
  first | refine ax_q (q_lenS_map rfl) ?_ | refine ax_q (q_lenS_osl rfl) ?_ | refine ax_q (q_lenS_zs rfl) ?_ | refine ax_q (q_lenS rfl) ?_
  refine ax_q (q_ibin rfl rfl rfl) ?_
  refine ax_nil ?_
  refine cx_keep rfl rfl ?_
  refine cx_cond rfl (fun h0 => ?_) (fun h0 => ?_)
  · have h0 := nT h0
    refine cx_seq ?_
    refine cx_ops ?_
    refine ax_q (q_mov rfl) ?_
    refine ax_nil ?_
    refine cx_keep rfl rfl ?_
    refine cx_ret (ret0 rfl rfl ?_)
    exact ⟨congrArg AM.bool (eqb_f (fun h => h0 (by rw [h]))).symm, rfl⟩
  · have h0 := nF h0
    refine cx_skip ?_
    refine cx_keep rfl rfl ?_
    refine cx_seq ?_
    refine cx_seq ?_
    refine cx_ops ?_
    refine ax_q (q_mov rfl) ?_
    refine ax_nil ?_
    refine cx_keep rfl rfl ?_
    refine cx_block ?_
    have hl : xs.length = ys.length := by omega
    refine cx_loopU (fun n k => k ≤ xs.length ∧ n = xs.length - k ∧ xs.take k = ys.take k) (fun k : Nat => [(5, int k)]) (fun _ => []) ⟨_, 0, ⟨Nat.zero_le _, rfl, rfl⟩, by repeat (first | exact trivial | refine ⟨rfl, ?_⟩ | refine ⟨?_, ?_⟩)⟩ ?_
    rintro n k ⟨hk, rfl, ht⟩
    refine cx_seq ?_
    refine cx_seq ?_
    refine cx_ops ?_
    refine ax_q (q_mov rfl) ?_
    refine ax_q (q_mov rfl) ?_
    first | refine ax_q (q_lenS_map rfl) ?_ | refine ax_q (q_lenS_osl rfl) ?_ | refine ax_q (q_lenS_zs rfl) ?_ | refine ax_q (q_lenS rfl) ?_
    refine ax_q (q_ibin rfl rfl rfl) ?_
    refine ax_nil ?_
    refine cx_keep rfl rfl ?_
    refine cx_cond rfl (fun h1 => ?_) (fun h1 => ?_)
    · have h1 := dT h1
      have h1x : k < xs.length := by omega
      have h1y : k < ys.length := by omega
      refine cx_skip ?_
      refine cx_keep rfl rfl ?_
      refine cx_seq ?_
      refine cx_block ?_
      refine cx_seq ?_
      refine cx_draw ?_
      refine ax_q (q_mov rfl) ?_
      refine ax_q (q_mov rfl) ?_
      refine ax_q (q_ix rfl rfl (mapAt h1x)) ?_
      first | refine ax_q (q_ldN rfl rfl rfl) ?_ | refine ax_q (q_loadN_ip rfl (Nat.le_refl _)) ?_ | refine ax_q (q_loadN_ip rfl (by decide)) ?_ | refine ax_q (q_loadN_rptr rfl rfl (by assumption) (by decide)) ?_ | refine ax_q (q_loadN_rptr rfl rfl (mapAt (by first | assumption | omega)) (by decide)) ?_
      refine ax_q (q_mov rfl) ?_
      refine ax_q (q_mov rfl) ?_
      refine ax_q (q_ix rfl rfl (mapAt h1y)) ?_
      first | refine ax_q (q_ldN rfl rfl rfl) ?_ | refine ax_q (q_loadN_ip rfl (Nat.le_refl _)) ?_ | refine ax_q (q_loadN_ip rfl (by decide)) ?_ | refine ax_q (q_loadN_rptr rfl rfl (by assumption) (by decide)) ?_ | refine ax_q (q_loadN_rptr rfl rfl (mapAt (by first | assumption | omega)) (by decide)) ?_
      first | refine ax_callq rfl (c_eqIns) hP (lal_id _ rfl) rfl ?_ | refine ax_call rfl (vc_pure0 (c_eqIns) hP rfl rfl ?_)
      refine ax_q (q_not rfl) ?_
      refine ax_nil ?_
      refine cx_keep rfl rfl ?_
      refine cx_cond rfl (fun h2 => ?_) (fun h2 => ?_)
      · have h2 := bT h2
        refine cx_seq ?_
        refine cx_ops ?_
        refine ax_q (q_mov rfl) ?_
        refine ax_nil ?_
        refine cx_keep rfl rfl ?_
        refine cx_ret (ret0 rfl rfl ?_)
        exact ⟨congrArg AM.bool (eqbL_no h1x h1y h2).symm, rfl⟩
      · have h2 := bF h2
        refine cx_skip ?_
        refine cx_keep rfl rfl ?_
        refine cx_ops ?_
        refine ax_q (q_mov rfl) ?_
        refine ax_q (q_add rfl rfl (by omega)) ?_
        refine ax_q (q_mov rfl) ?_
        refine ax_nil ?_
        exact ⟨_, k + 1, by omega, ⟨by omega, rfl, eqbL_step h1x h1y ht h2⟩, by repeat (first | exact trivial | refine ⟨rfl, ?_⟩ | refine ⟨?_, ?_⟩)⟩
    · have h1 := dF h1
      refine cx_exit rfl ?_
      refine cx_keep rfl rfl ?_
      refine cx_seq ?_
      refine cx_ops ?_
      refine ax_q (q_mov rfl) ?_
      refine ax_nil ?_
      refine cx_keep rfl rfl ?_
      refine cx_ret (ret0 rfl rfl ?_)
      exact ⟨congrArg AM.bool (eqb_t (eq_of_take hl (by rwa [show k = xs.length from by omega] at ht))).symm, rfl⟩


/- loop.example/g00332/laws.szRow -/
def k_c_szRow : XCode :=
  .seq (.ops [.op (some 2) (.box (.t 0)),
     .op (some 4) (.mov (.k (.int .i64 0)))])
  (.keep [1, 2] (.seq (.ops [.op (some 5) (.fadr (.t 2) 1),
     .op (some 6) (.loadN 3 (.t 5)),
     .op (some 7) (.mov (.t 1)),
     .call (some 8) 63 [.t 6, .t 7],
     .op (some 1) (.mov (.t 8))])
  (.keep [1, 2] (.seq (.seq (.ops [.op (some 9) (.mov (.t 1)),
      .op (some 10) (.bin .lss (.t 9) (.k (.int .i64 0)))])
   (.keep [1, 2, 10] (.cond (.t 10)
    (.seq (.ops [.op (some 4) (.mov (.k (.int .i64 (-1))))])
     (.keep [4] (.ret)))
    (.skip))))
  (.keep [1, 2] (.seq (.ops [.op (some 11) (.fadr (.t 2) 4),
     .op (some 12) (.loadN 3 (.t 11)),
     .op (some 13) (.mov (.t 1)),
     .call (some 14) 63 [.t 12, .t 13],
     .op (some 1) (.mov (.t 14))])
  (.keep [1] (.seq (.seq (.ops [.op (some 15) (.mov (.t 1)),
      .op (some 16) (.bin .lss (.t 15) (.k (.int .i64 0)))])
   (.keep [1, 16] (.cond (.t 16)
    (.seq (.ops [.op (some 4) (.mov (.k (.int .i64 (-1))))])
     (.keep [4] (.ret)))
    (.skip))))
  (.keep [1] (.seq (.ops [.op (some 17) (.mov (.t 1)),
     .op (some 4) (.mov (.t 17))])
  (.keep [4] (.ret))))))))))))
theorem k_c_szRow_fits : fitsF Try.prog 30 ⟨18, k_c_szRow, [.t 4]⟩ = true := by kernel_rfl
theorem c_szRow {a : GRow} {left : Int} (h0 : 0 ≤ left) (hl : left ≤ 1048576) (hw : a.wf) : Con Try.prog noMv 30 [a.av, int left] [] (fun r h => r = int (szF left (GRow.sz a)) ∧ h = []) := by
  refine con_of2 k_c_szRow_fits rfl fun C hP hmv => ?_
  unfold k_c_szRow
  have sp := szF_spec left (GRow.sz a)
  have e0 : GRow.sz a = GValue.sz a.N + GValue.sz a.Name := rfl
  rw [e0] at sp ⊢
  obtain ⟨w0, w1, w2⟩ := hw
  refine cx_seq ?_
  refine cx_ops ?_
  refine ax_e (e_box rfl rfl (by decide) rfl rfl rfl) ?_
  refine ax_q (q_mov rfl) ?_
  refine ax_nil ?_
  refine cx_keep rfl rfl ?_
  refine cx_seq ?_
  refine cx_ops ?_
  first | refine ax_q (q_fadr_ptr rfl) ?_ | refine ax_q (q_fadr_rptr rfl) ?_ | refine ax_q (q_fadr_ip rfl) ?_
  first | refine ax_q (q_ldN rfl rfl rfl) ?_ | refine ax_q (q_loadN_ip rfl (Nat.le_refl _)) ?_ | refine ax_q (q_loadN_ip rfl (by decide)) ?_ | refine ax_q (q_loadN_rptr rfl rfl (by assumption) (by decide)) ?_ | refine ax_q (q_loadN_rptr rfl rfl (mapAt (by first | assumption | omega)) (by decide)) ?_
  refine ax_q (q_mov rfl) ?_
  have q0 := szF_spec left (GValue.sz a.N)
  first | refine ax_call rfl (vc_pure0 (c_szValue  ?_ ?_ ?_) hP rfl rfl ?_) | refine ax_call rfl (vc_lend0 (c_szValue  ?_ ?_ ?_) hP (by repeat (first | exact lal_id _ rfl | exact LAL.nil | refine LAL.cons ?_ ?_ | exact la_id _ rfl | exact LA.lend (lend_whole rfl (by first | (simp; done) | (rw [List.length_map]; rfl))) | refine LA.agg ?_ | refine LA.fn ?_ | refine LA.lend ?_ | exact Lend.d _ | exact Lend.zs _ | exact lend_whole rfl (by first | (simp; done) | (rw [List.length_map]; rfl)) | refine Lend.ptr rfl ?_ | refine Lend.fn ?_ | exact LendL.nil | refine LendL.cons ?_ ?_)) rfl rfl ?_)
  · first | assumption | omega | (simp; done) | (simp; omega)
  · first | assumption | omega | (simp; done) | (simp; omega)
  · first | assumption | omega | (simp; done) | (simp; omega)
  refine ax_q (q_mov rfl) ?_
  refine ax_nil ?_
  refine cx_keep rfl rfl ?_
  refine cx_seq ?_
  refine cx_seq ?_
  refine cx_ops ?_
  refine ax_q (q_mov rfl) ?_
  refine ax_q (q_ibin rfl rfl rfl) ?_
  refine ax_nil ?_
  refine cx_keep rfl rfl ?_
  refine cx_cond rfl (fun h0 => ?_) (fun h0 => ?_)
  · have h0 := dT h0
    refine cx_seq ?_
    refine cx_ops ?_
    refine ax_q (q_mov rfl) ?_
    refine ax_nil ?_
    refine cx_keep rfl rfl ?_
    refine cx_ret (ret0 rfl rfl ?_)
    exact ⟨congrArg int (by omega), rfl⟩
  · have h0 := dF h0
    refine cx_skip ?_
    refine cx_keep rfl rfl ?_
    refine cx_seq ?_
    refine cx_ops ?_
    first | refine ax_q (q_fadr_ptr rfl) ?_ | refine ax_q (q_fadr_rptr rfl) ?_ | refine ax_q (q_fadr_ip rfl) ?_
    first | refine ax_q (q_ldN rfl rfl rfl) ?_ | refine ax_q (q_loadN_ip rfl (Nat.le_refl _)) ?_ | refine ax_q (q_loadN_ip rfl (by decide)) ?_ | refine ax_q (q_loadN_rptr rfl rfl (by assumption) (by decide)) ?_ | refine ax_q (q_loadN_rptr rfl rfl (mapAt (by first | assumption | omega)) (by decide)) ?_
    refine ax_q (q_mov rfl) ?_
    have q1 := szF_spec (szF left (GValue.sz a.N)) (GValue.sz a.Name)
    first | refine ax_call rfl (vc_pure0 (c_szValue  ?_ ?_ ?_) hP rfl rfl ?_) | refine ax_call rfl (vc_lend0 (c_szValue  ?_ ?_ ?_) hP (by repeat (first | exact lal_id _ rfl | exact LAL.nil | refine LAL.cons ?_ ?_ | exact la_id _ rfl | exact LA.lend (lend_whole rfl (by first | (simp; done) | (rw [List.length_map]; rfl))) | refine LA.agg ?_ | refine LA.fn ?_ | refine LA.lend ?_ | exact Lend.d _ | exact Lend.zs _ | exact lend_whole rfl (by first | (simp; done) | (rw [List.length_map]; rfl)) | refine Lend.ptr rfl ?_ | refine Lend.fn ?_ | exact LendL.nil | refine LendL.cons ?_ ?_)) rfl rfl ?_)
    · first | assumption | omega | (simp; done) | (simp; omega)
    · first | assumption | omega | (simp; done) | (simp; omega)
    · first | assumption | omega | (simp; done) | (simp; omega)
    refine ax_q (q_mov rfl) ?_
    refine ax_nil ?_
    refine cx_keep rfl rfl ?_
    refine cx_seq ?_
    refine cx_seq ?_
    refine cx_ops ?_
    refine ax_q (q_mov rfl) ?_
    refine ax_q (q_ibin rfl rfl rfl) ?_
    refine ax_nil ?_
    refine cx_keep rfl rfl ?_
    refine cx_cond rfl (fun h1 => ?_) (fun h1 => ?_)
    · have h1 := dT h1
      refine cx_seq ?_
      refine cx_ops ?_
      refine ax_q (q_mov rfl) ?_
      refine ax_nil ?_
      refine cx_keep rfl rfl ?_
      refine cx_ret (ret0 rfl rfl ?_)
      exact ⟨congrArg int (by omega), rfl⟩
    · have h1 := dF h1
      refine cx_skip ?_
      refine cx_keep rfl rfl ?_
      refine cx_seq ?_
      refine cx_ops ?_
      refine ax_q (q_mov rfl) ?_
      refine ax_q (q_mov rfl) ?_
      refine ax_nil ?_
      refine cx_keep rfl rfl ?_
      refine cx_ret (ret0 rfl rfl ?_)
      exact ⟨congrArg int (by omega), rfl⟩


/- loop.example/g00332/laws.toRow -/
def k_c_toRow : XCode :=
  .seq (.ops [.op (some 1) (.box (.t 0)),
     .op (some 2) (.alloc [.int .i64 0, .int .i64 0, .int .i64 0, .str [], .int .i64 0, .int .i64 0, .str []])])
  (.keep [1, 2] (.seq (.ops [.op (some 3) (.alloc [.int .i64 0, .int .i64 0, .int .i64 0, .str [], .int .i64 0, .int .i64 0, .str []])])
  (.keep [1, 2, 3] (.seq (.ops [.op (some 4) (.fadr (.t 1) 0),
     .op (some 5) (.load1 (.t 4)),
     .op (some 6) (.fadr (.t 3) 0),
     .op none (.store 1 (.t 6) (.t 5))])
  (.keep [1, 2, 3] (.seq (.ops [.op (some 7) (.fadr (.t 1) 1),
     .op (some 8) (.loadN 3 (.t 7)),
     .call (some 9) 65 [.t 8],
     .op (some 10) (.fadr (.t 3) 1),
     .op none (.store 3 (.t 10) (.t 9))])
  (.keep [1, 2, 3] (.seq (.ops [.op (some 11) (.fadr (.t 1) 4),
     .op (some 12) (.loadN 3 (.t 11)),
     .call (some 13) 65 [.t 12],
     .op (some 14) (.fadr (.t 3) 4),
     .op none (.store 3 (.t 14) (.t 13))])
  (.keep [2, 3] (.seq (.ops [.op (some 15) (.loadN 7 (.t 3)),
     .op none (.store 7 (.t 2) (.t 15))])
  (.keep [2] (.ret))))))))))))
theorem k_c_toRow_fits : fitsF Try.prog 32 ⟨16, k_c_toRow, [.cN 2 7]⟩ = true := by kernel_rfl
theorem c_toRow {a : GRow} : Con Try.prog noMv 32 [a.av] [] (fun r h => r = a.av ∧ h = []) := by
  refine con_of2 k_c_toRow_fits rfl fun C hP hmv => ?_
  unfold k_c_toRow
  refine cx_seq ?_
  refine cx_ops ?_
  refine ax_e (e_box rfl rfl (by decide) rfl rfl rfl) ?_
  refine ax_e (e_alloc (by decide) rfl rfl) ?_
  refine ax_nil ?_
  refine cx_keep rfl rfl ?_
  refine cx_seq ?_
  refine cx_ops ?_
  refine ax_e (e_alloc (by decide) rfl rfl) ?_
  refine ax_nil ?_
  refine cx_keep rfl rfl ?_
  refine cx_seq ?_
  refine cx_ops ?_
  first | refine ax_q (q_fadr_ptr rfl) ?_ | refine ax_q (q_fadr_rptr rfl) ?_ | refine ax_q (q_fadr_ip rfl) ?_
  first | refine ax_q (q_load1_ptr rfl rfl rfl) ?_ | refine ax_q (q_load1_ip rfl) ?_ | refine ax_q (q_load1_rptr rfl rfl rfl rfl) ?_ | refine ax_q (q_load1_rptr rfl rfl (by assumption) rfl) ?_ | refine ax_q (q_load1_rptr rfl rfl (mapAt (by first | assumption | omega)) rfl) ?_
  first | refine ax_q (q_fadr_ptr rfl) ?_ | refine ax_q (q_fadr_rptr rfl) ?_ | refine ax_q (q_fadr_ip rfl) ?_
  refine ax_e (e_st rfl rfl rfl rfl rfl rfl rfl) ?_
  refine ax_nil ?_
  refine cx_keep rfl rfl ?_
  refine cx_seq ?_
  refine cx_ops ?_
  first | refine ax_q (q_fadr_ptr rfl) ?_ | refine ax_q (q_fadr_rptr rfl) ?_ | refine ax_q (q_fadr_ip rfl) ?_
  first | refine ax_q (q_ldN rfl rfl rfl) ?_ | refine ax_q (q_loadN_ip rfl (Nat.le_refl _)) ?_ | refine ax_q (q_loadN_ip rfl (by decide)) ?_ | refine ax_q (q_loadN_rptr rfl rfl (by assumption) (by decide)) ?_ | refine ax_q (q_loadN_rptr rfl rfl (mapAt (by first | assumption | omega)) (by decide)) ?_
  first | refine ax_call rfl (vc_pure0 (c_toValue  ) hP rfl rfl ?_) | refine ax_call rfl (vc_lend0 (c_toValue  ) hP (by repeat (first | exact lal_id _ rfl | exact LAL.nil | refine LAL.cons ?_ ?_ | exact la_id _ rfl | exact LA.lend (lend_whole rfl (by first | (simp; done) | (rw [List.length_map]; rfl))) | refine LA.agg ?_ | refine LA.fn ?_ | refine LA.lend ?_ | exact Lend.d _ | exact Lend.zs _ | exact lend_whole rfl (by first | (simp; done) | (rw [List.length_map]; rfl)) | refine Lend.ptr rfl ?_ | refine Lend.fn ?_ | exact LendL.nil | refine LendL.cons ?_ ?_)) rfl rfl ?_)
  first | refine ax_q (q_fadr_ptr rfl) ?_ | refine ax_q (q_fadr_rptr rfl) ?_ | refine ax_q (q_fadr_ip rfl) ?_
  refine ax_e (e_st rfl rfl rfl rfl rfl rfl rfl) ?_
  refine ax_nil ?_
  refine cx_keep rfl rfl ?_
  refine cx_seq ?_
  refine cx_ops ?_
  first | refine ax_q (q_fadr_ptr rfl) ?_ | refine ax_q (q_fadr_rptr rfl) ?_ | refine ax_q (q_fadr_ip rfl) ?_
  first | refine ax_q (q_ldN rfl rfl rfl) ?_ | refine ax_q (q_loadN_ip rfl (Nat.le_refl _)) ?_ | refine ax_q (q_loadN_ip rfl (by decide)) ?_ | refine ax_q (q_loadN_rptr rfl rfl (by assumption) (by decide)) ?_ | refine ax_q (q_loadN_rptr rfl rfl (mapAt (by first | assumption | omega)) (by decide)) ?_
  first | refine ax_call rfl (vc_pure0 (c_toValue  ) hP rfl rfl ?_) | refine ax_call rfl (vc_lend0 (c_toValue  ) hP (by repeat (first | exact lal_id _ rfl | exact LAL.nil | refine LAL.cons ?_ ?_ | exact la_id _ rfl | exact LA.lend (lend_whole rfl (by first | (simp; done) | (rw [List.length_map]; rfl))) | refine LA.agg ?_ | refine LA.fn ?_ | refine LA.lend ?_ | exact Lend.d _ | exact Lend.zs _ | exact lend_whole rfl (by first | (simp; done) | (rw [List.length_map]; rfl)) | refine Lend.ptr rfl ?_ | refine Lend.fn ?_ | exact LendL.nil | refine LendL.cons ?_ ?_)) rfl rfl ?_)
  first | refine ax_q (q_fadr_ptr rfl) ?_ | refine ax_q (q_fadr_rptr rfl) ?_ | refine ax_q (q_fadr_ip rfl) ?_
  refine ax_e (e_st rfl rfl rfl rfl rfl rfl rfl) ?_
  refine ax_nil ?_
  refine cx_keep rfl rfl ?_
  refine cx_seq ?_
  refine cx_ops ?_
  first | refine ax_q (q_ldN rfl rfl rfl) ?_ | refine ax_q (q_loadN_ip rfl (Nat.le_refl _)) ?_ | refine ax_q (q_loadN_ip rfl (by decide)) ?_ | refine ax_q (q_loadN_rptr rfl rfl (by assumption) (by decide)) ?_ | refine ax_q (q_loadN_rptr rfl rfl (mapAt (by first | assumption | omega)) (by decide)) ?_
  refine ax_e (e_st rfl rfl rfl rfl rfl rfl rfl) ?_
  refine ax_nil ?_
  refine cx_keep rfl rfl ?_
  refine cx_ret (ret0 rfl rfl ?_)
  exact ⟨rfl, rfl⟩


/- loop.example/g00332/spec.l01In -/
def k_c_l01In : XCode :=
  .seq (.ops [.op (some 6) (.mov (.k (.bool false)))])
  (.keep [0, 1, 2] (.seq (.ops [.op (some 7) (.mov (.t 1)),
     .op (some 8) (.mov (.t 0)),
     .op (some 9) (.bin .leq (.t 7) (.t 8)),
     .op (some 10) (.mov (.t 9)),
     .andor 14 true 3 10 [.op (some 11) (.mov (.t 0)), .op (some 12) (.mov (.t 2)), .op (some 13) (.bin .leq (.t 11) (.t 12))] (.t 13),
     .op (some 6) (.mov (.t 14))])
  (.keep [6] (.ret))))
theorem k_c_l01In_fits : fitsF Try.prog 45 ⟨15, k_c_l01In, [.t 6]⟩ = true := by kernel_rfl
theorem c_l01In {n lo hi : Int} : Con Try.prog noMv 45 [int n, int lo, int hi] [] (fun r h => r = bool (inR n lo hi) ∧ h = []) := by
  refine con_of2 k_c_l01In_fits rfl fun C hP hmv => ?_
  unfold k_c_l01In
  refine cx_seq ?_
  refine cx_ops ?_
  refine ax_q (q_mov rfl) ?_
  refine ax_nil ?_
  refine cx_keep rfl rfl ?_
  refine cx_seq ?_
  refine cx_ops ?_
  refine ax_q (q_mov rfl) ?_
  refine ax_q (q_mov rfl) ?_
  refine ax_q (q_ibin rfl rfl rfl) ?_
  refine ax_q (q_mov rfl) ?_
  apply ax_and rfl rfl
  · intro g
    have g := dT g
    refine ax_q (q_mov rfl) ?_
    refine ax_q (q_mov rfl) ?_
    refine ax_q (q_ibin rfl rfl rfl) ?_
    exact ax_nil ⟨rfl, by repeat (first | exact trivial | refine ⟨rfl, ?_⟩ | refine ⟨?_, ?_⟩)⟩
  refine ax_q (q_mov rfl) ?_
  refine ax_nil ?_
  refine cx_keep rfl rfl ?_
  refine cx_ret (ret0 rfl rfl ?_)
  exact ⟨rfl, rfl⟩


/- loop.example/g00332/spec.ValueOK -/
def k_c_sValueOK : XCode :=
  .seq (.ops [.op (some 1) (.box (.t 0)),
     .op (some 2) (.mov (.k (.bool false)))])
  (.keep [1] (.seq (.seq (.ops [.op (some 4) (.fadr (.t 1) 0),
      .op (some 5) (.load1 (.t 4))])
   (.keep [1, 5] (.block 0 (.seq (.ops [.op (some 7) (.bin .eql (.t 5) (.k (.int .i64 0))),
       .op (some 6) (.mov (.t 7))])
    (.keep [1, 5, 6] (.cond (.t 6)
     (.seq (.ops [.op (some 8) (.fadr (.t 1) 1),
         .op (some 9) (.load1 (.t 8)),
         .op (some 10) (.bin .eql (.t 9) (.k (.int .i64 0))),
         .op (some 11) (.mov (.t 10)),
         .andor 15 true 3 11 [.op (some 12) (.fadr (.t 1) 2), .op (some 13) (.load1 (.t 12)), .op (some 14) (.bin .eql (.t 13) (.k (.str [])))] (.t 14),
         .op (some 2) (.mov (.t 15))])
      (.keep [2] (.ret)))
     (.seq (.ops [.op (some 17) (.bin .eql (.t 5) (.k (.int .i64 1))),
         .op (some 16) (.mov (.t 17))])
      (.keep [1, 5, 16] (.cond (.t 16)
       (.seq (.ops [.op (some 18) (.fadr (.t 1) 1),
           .op (some 19) (.load1 (.t 18)),
           .call (some 20) 45 [.t 19, .k (.int .i64 (-1000000000)), .k (.int .i64 1000000000)],
           .op (some 21) (.mov (.t 20)),
           .andor 25 true 3 21 [.op (some 22) (.fadr (.t 1) 2), .op (some 23) (.load1 (.t 22)), .op (some 24) (.bin .eql (.t 23) (.k (.str [])))] (.t 24),
           .op (some 2) (.mov (.t 25))])
        (.keep [2] (.ret)))
       (.seq (.ops [.op (some 27) (.bin .eql (.t 5) (.k (.int .i64 2))),
           .op (some 26) (.mov (.t 27))])
        (.keep [1, 26] (.cond (.t 26)
         (.seq (.seq (.ops [.op (some 28) (.fadr (.t 1) 1),
              .op (some 29) (.load1 (.t 28)),
              .op (some 30) (.bin .neq (.t 29) (.k (.int .i64 0))),
              .op (some 31) (.mov (.t 30)),
              .andor 36 false 3 31 [.op (some 32) (.fadr (.t 1) 2), .op (some 33) (.load1 (.t 32)), .op (some 34) (.lenT (.t 33)), .op (some 35) (.bin .gtr (.t 34) (.k (.int .i64 10)))] (.t 35)])
           (.keep [1, 36] (.cond (.t 36)
            (.seq (.ops [.op (some 2) (.mov (.k (.bool false)))])
             (.keep [2] (.ret)))
            (.skip))))
          (.keep [1] (.seq (.seq (.ops [.op (some 3) (.mov (.k (.int .i64 0)))])
           (.keep [1, 3] (.block 1 (.loop (.seq (.seq (.ops [.op (some 37) (.mov (.t 3)),
                 .op (some 38) (.fadr (.t 1) 2),
                 .op (some 39) (.load1 (.t 38)),
                 .op (some 40) (.lenT (.t 39)),
                 .op (some 41) (.bin .lss (.t 37) (.t 40))])
              (.keep [1, 3, 41] (.cond (.t 41)
               (.skip)
               (.exit 1))))
             (.keep [1, 3] (.seq (.block 2 (.seq (.ops [.op (some 44) (.fadr (.t 1) 2),
                  .op (some 45) (.load1 (.t 44)),
                  .op (some 46) (.mov (.t 3)),
                  .op (some 47) (.idxS (.t 45) (.t 46)),
                  .op (some 48) (.conv .i64 (.t 47)),
                  .call (some 49) 45 [.t 48, .k (.int .i64 97), .k (.int .i64 122)],
                  .op (some 50) (.not (.t 49))])
               (.keep [1, 3, 50] (.cond (.t 50)
                (.seq (.ops [.op (some 2) (.mov (.k (.bool false)))])
                 (.keep [2] (.ret)))
                (.skip)))))
             (.keep [1, 3] (.ops [.op (some 42) (.mov (.t 3)),
               .op (some 43) (.bin .add (.t 42) (.k (.int .i64 1))),
               .op (some 3) (.mov (.t 43))])))))))))
          (.keep [] (.seq (.ops [.op (some 2) (.mov (.k (.bool true)))])
          (.keep [2] (.ret)))))))
         (.skip)))))))))))))
  (.keep [] (.seq (.ops [.op (some 2) (.mov (.k (.bool false)))])
  (.keep [2] (.ret))))))
theorem k_c_sValueOK_fits : fitsF Try.prog 72 ⟨51, k_c_sValueOK, [.t 2]⟩ = true := by kernel_rfl
theorem c_sValueOK {v : GValue} (hv : v.T.length ≤ 1048576) : Con Try.prog noMv 72 [v.av] [] (fun r h => r = bool (valueOK v) ∧ h = []) := by
  refine con_of2 k_c_sValueOK_fits rfl fun C hP hmv => ?_
  unfold k_c_sValueOK
  refine cx_seq ?_
  refine cx_ops ?_
  refine ax_e (e_box rfl rfl (by decide) rfl rfl rfl) ?_
  refine ax_q (q_mov rfl) ?_
  refine ax_nil ?_
  refine cx_keep rfl rfl ?_
  refine cx_seq ?_
  refine cx_seq ?_
  refine cx_ops ?_
  first | refine ax_q (q_fadr_ptr rfl) ?_ | refine ax_q (q_fadr_rptr rfl) ?_ | refine ax_q (q_fadr_ip rfl) ?_
  first | refine ax_q (q_load1_ptr rfl rfl rfl) ?_ | refine ax_q (q_load1_ip rfl) ?_ | refine ax_q (q_load1_rptr rfl rfl rfl rfl) ?_ | refine ax_q (q_load1_rptr rfl rfl (by assumption) rfl) ?_ | refine ax_q (q_load1_rptr rfl rfl (mapAt (by first | assumption | omega)) rfl) ?_
  refine ax_nil ?_
  refine cx_keep rfl rfl ?_
  refine cx_block ?_
  refine cx_seq ?_
  refine cx_ops ?_
  refine ax_q (q_ibin rfl rfl rfl) ?_
  refine ax_q (q_mov rfl) ?_
  refine ax_nil ?_
  refine cx_keep rfl rfl ?_
  refine cx_cond rfl (fun h0 => ?_) (fun h0 => ?_)
  · have h0 := dT h0
    refine cx_seq ?_
    refine cx_ops ?_
    first | refine ax_q (q_fadr_ptr rfl) ?_ | refine ax_q (q_fadr_rptr rfl) ?_ | refine ax_q (q_fadr_ip rfl) ?_
    first | refine ax_q (q_load1_ptr rfl rfl rfl) ?_ | refine ax_q (q_load1_ip rfl) ?_ | refine ax_q (q_load1_rptr rfl rfl rfl rfl) ?_ | refine ax_q (q_load1_rptr rfl rfl (by assumption) rfl) ?_ | refine ax_q (q_load1_rptr rfl rfl (mapAt (by first | assumption | omega)) rfl) ?_
    refine ax_q (q_ibin rfl rfl rfl) ?_
    refine ax_q (q_mov rfl) ?_
    apply ax_and rfl rfl
    · intro g
      have g := dT g
      first | refine ax_q (q_fadr_ptr rfl) ?_ | refine ax_q (q_fadr_rptr rfl) ?_ | refine ax_q (q_fadr_ip rfl) ?_
      first | refine ax_q (q_load1_ptr rfl rfl rfl) ?_ | refine ax_q (q_load1_ip rfl) ?_ | refine ax_q (q_load1_rptr rfl rfl rfl rfl) ?_ | refine ax_q (q_load1_rptr rfl rfl (by assumption) rfl) ?_ | refine ax_q (q_load1_rptr rfl rfl (mapAt (by first | assumption | omega)) rfl) ?_
      refine ax_q (q_sbin rfl rfl rfl) ?_
      exact ax_nil ⟨rfl, by repeat (first | exact trivial | refine ⟨rfl, ?_⟩ | refine ⟨?_, ?_⟩)⟩
    refine ax_q (q_mov rfl) ?_
    refine ax_nil ?_
    refine cx_keep rfl rfl ?_
    refine cx_ret (ret0 rfl rfl ?_)
    exact ⟨by rw [valueOK_0 h0] <;> rfl, rfl⟩
  · have h0 := dF h0
    refine cx_seq ?_
    refine cx_ops ?_
    refine ax_q (q_ibin rfl rfl rfl) ?_
    refine ax_q (q_mov rfl) ?_
    refine ax_nil ?_
    refine cx_keep rfl rfl ?_
    refine cx_cond rfl (fun h1 => ?_) (fun h1 => ?_)
    · have h1 := dT h1
      refine cx_seq ?_
      refine cx_ops ?_
      first | refine ax_q (q_fadr_ptr rfl) ?_ | refine ax_q (q_fadr_rptr rfl) ?_ | refine ax_q (q_fadr_ip rfl) ?_
      first | refine ax_q (q_load1_ptr rfl rfl rfl) ?_ | refine ax_q (q_load1_ip rfl) ?_ | refine ax_q (q_load1_rptr rfl rfl rfl rfl) ?_ | refine ax_q (q_load1_rptr rfl rfl (by assumption) rfl) ?_ | refine ax_q (q_load1_rptr rfl rfl (mapAt (by first | assumption | omega)) rfl) ?_
      first | refine ax_call rfl (vc_pure0 (c_l01In  ) hP rfl rfl ?_) | refine ax_call rfl (vc_lend0 (c_l01In  ) hP (by repeat (first | exact lal_id _ rfl | exact LAL.nil | refine LAL.cons ?_ ?_ | exact la_id _ rfl | exact LA.lend (lend_whole rfl (by first | (simp; done) | (rw [List.length_map]; rfl))) | refine LA.agg ?_ | refine LA.fn ?_ | refine LA.lend ?_ | exact Lend.d _ | exact Lend.zs _ | exact lend_whole rfl (by first | (simp; done) | (rw [List.length_map]; rfl)) | refine Lend.ptr rfl ?_ | refine Lend.fn ?_ | exact LendL.nil | refine LendL.cons ?_ ?_)) rfl rfl ?_)
      refine ax_q (q_mov rfl) ?_
      apply ax_and rfl rfl
      · intro g
        first | refine ax_q (q_fadr_ptr rfl) ?_ | refine ax_q (q_fadr_rptr rfl) ?_ | refine ax_q (q_fadr_ip rfl) ?_
        first | refine ax_q (q_load1_ptr rfl rfl rfl) ?_ | refine ax_q (q_load1_ip rfl) ?_ | refine ax_q (q_load1_rptr rfl rfl rfl rfl) ?_ | refine ax_q (q_load1_rptr rfl rfl (by assumption) rfl) ?_ | refine ax_q (q_load1_rptr rfl rfl (mapAt (by first | assumption | omega)) rfl) ?_
        refine ax_q (q_sbin rfl rfl rfl) ?_
        exact ax_nil ⟨rfl, by repeat (first | exact trivial | refine ⟨rfl, ?_⟩ | refine ⟨?_, ?_⟩)⟩
      refine ax_q (q_mov rfl) ?_
      refine ax_nil ?_
      refine cx_keep rfl rfl ?_
      refine cx_ret (ret0 rfl rfl ?_)
      exact ⟨by rw [valueOK_1 h1] <;> rfl, rfl⟩
    · have h1 := dF h1
      refine cx_seq ?_
      refine cx_ops ?_
      refine ax_q (q_ibin rfl rfl rfl) ?_
      refine ax_q (q_mov rfl) ?_
      refine ax_nil ?_
      refine cx_keep rfl rfl ?_
      refine cx_cond rfl (fun h2 => ?_) (fun h2 => ?_)
      · have h2 := dT h2
        refine cx_seq ?_
        refine cx_seq ?_
        refine cx_ops ?_
        first | refine ax_q (q_fadr_ptr rfl) ?_ | refine ax_q (q_fadr_rptr rfl) ?_ | refine ax_q (q_fadr_ip rfl) ?_
        first | refine ax_q (q_load1_ptr rfl rfl rfl) ?_ | refine ax_q (q_load1_ip rfl) ?_ | refine ax_q (q_load1_rptr rfl rfl rfl rfl) ?_ | refine ax_q (q_load1_rptr rfl rfl (by assumption) rfl) ?_ | refine ax_q (q_load1_rptr rfl rfl (mapAt (by first | assumption | omega)) rfl) ?_
        refine ax_q (q_ibin rfl rfl rfl) ?_
        refine ax_q (q_mov rfl) ?_
        apply ax_or rfl rfl
        · intro g
          have g := nF g
          first | refine ax_q (q_fadr_ptr rfl) ?_ | refine ax_q (q_fadr_rptr rfl) ?_ | refine ax_q (q_fadr_ip rfl) ?_
          first | refine ax_q (q_load1_ptr rfl rfl rfl) ?_ | refine ax_q (q_load1_ip rfl) ?_ | refine ax_q (q_load1_rptr rfl rfl rfl rfl) ?_ | refine ax_q (q_load1_rptr rfl rfl (by assumption) rfl) ?_ | refine ax_q (q_load1_rptr rfl rfl (mapAt (by first | assumption | omega)) rfl) ?_
          refine ax_q (q_lenT rfl) ?_
          refine ax_q (q_ibin rfl rfl rfl) ?_
          exact ax_nil ⟨rfl, by repeat (first | exact trivial | refine ⟨rfl, ?_⟩ | refine ⟨?_, ?_⟩)⟩
        refine ax_nil ?_
        refine cx_keep rfl rfl ?_
        refine cx_cond rfl (fun h3 => ?_) (fun h3 => ?_)
        · have h3 := (fun h => (or_T h).imp nT dT) h3
          refine cx_seq ?_
          refine cx_ops ?_
          refine ax_q (q_mov rfl) ?_
          refine ax_nil ?_
          refine cx_keep rfl rfl ?_
          refine cx_ret (ret0 rfl rfl ?_)
          have e : valueOK v = false := by
            rw [valueOK_2 h0 h1]
            rcases h3 with h | h
            · simp [h]
            · unfold isWord; rw [decide_eq_false (show ¬ ((v.T.length : Int) ≤ 10) from by omega)]; simp
          exact ⟨by rw [e] <;> rfl, rfl⟩
        · have h3 := (fun h => And.intro (nF (or_F h).1) (dF (or_F h).2)) h3
          refine cx_skip ?_
          refine cx_keep rfl rfl ?_
          refine cx_seq ?_
          refine cx_seq ?_
          refine cx_ops ?_
          refine ax_q (q_mov rfl) ?_
          refine ax_nil ?_
          refine cx_keep rfl rfl ?_
          refine cx_block ?_
          refine cx_loopU (fun n k => k ≤ v.T.length ∧ n = v.T.length - k ∧ ∀ j, j < k → ∀ x, v.T[j]? = some x → badCh x = false) (fun k : Nat => [(3, int k)]) (fun _ => [(1, .box [.d (.int .i64 v.Kind), .d (.int .i64 v.N), .d (.str v.T)])]) ⟨_, 0, ⟨Nat.zero_le _, rfl, fun j hj => by omega⟩, by repeat (first | exact trivial | refine ⟨rfl, ?_⟩ | refine ⟨?_, ?_⟩)⟩ ?_
          rintro n k ⟨hk, rfl, hb⟩
          refine cx_seq ?_
          refine cx_seq ?_
          refine cx_ops ?_
          refine ax_q (q_mov rfl) ?_
          first | refine ax_q (q_fadr_ptr rfl) ?_ | refine ax_q (q_fadr_rptr rfl) ?_ | refine ax_q (q_fadr_ip rfl) ?_
          first | refine ax_q (q_load1_ptr rfl rfl rfl) ?_ | refine ax_q (q_load1_ip rfl) ?_ | refine ax_q (q_load1_rptr rfl rfl rfl rfl) ?_ | refine ax_q (q_load1_rptr rfl rfl (by assumption) rfl) ?_ | refine ax_q (q_load1_rptr rfl rfl (mapAt (by first | assumption | omega)) rfl) ?_
          refine ax_q (q_lenT rfl) ?_
          refine ax_q (q_ibin rfl rfl rfl) ?_
          refine ax_nil ?_
          refine cx_keep rfl rfl ?_
          refine cx_cond rfl (fun h4 => ?_) (fun h4 => ?_)
          · have h4 := dT h4
            have h4x : k < v.T.length := by omega
            refine cx_skip ?_
            refine cx_keep rfl rfl ?_
            refine cx_seq ?_
            refine cx_block ?_
            refine cx_seq ?_
            refine cx_ops ?_
            first | refine ax_q (q_fadr_ptr rfl) ?_ | refine ax_q (q_fadr_rptr rfl) ?_ | refine ax_q (q_fadr_ip rfl) ?_
            first | refine ax_q (q_load1_ptr rfl rfl rfl) ?_ | refine ax_q (q_load1_ip rfl) ?_ | refine ax_q (q_load1_rptr rfl rfl rfl rfl) ?_ | refine ax_q (q_load1_rptr rfl rfl (by assumption) rfl) ?_ | refine ax_q (q_load1_rptr rfl rfl (mapAt (by first | assumption | omega)) rfl) ?_
            refine ax_q (q_mov rfl) ?_
            refine ax_q (q_idxN rfl rfl (by first | assumption | omega)) ?_
            first | refine ax_q (q_convB rfl) ?_ | refine ax_q (q_convI rfl (by omega)) ?_ | refine ax_q (q_convU8 rfl) ?_ | refine ax_q (q_conv rfl) ?_
            first | refine ax_call rfl (vc_pure0 (c_l01In  ) hP rfl rfl ?_) | refine ax_call rfl (vc_lend0 (c_l01In  ) hP (by repeat (first | exact lal_id _ rfl | exact LAL.nil | refine LAL.cons ?_ ?_ | exact la_id _ rfl | exact LA.lend (lend_whole rfl (by first | (simp; done) | (rw [List.length_map]; rfl))) | refine LA.agg ?_ | refine LA.fn ?_ | refine LA.lend ?_ | exact Lend.d _ | exact Lend.zs _ | exact lend_whole rfl (by first | (simp; done) | (rw [List.length_map]; rfl)) | refine Lend.ptr rfl ?_ | refine Lend.fn ?_ | exact LendL.nil | refine LendL.cons ?_ ?_)) rfl rfl ?_)
            refine ax_q (q_not rfl) ?_
            refine ax_nil ?_
            refine cx_keep rfl rfl ?_
            refine cx_cond rfl (fun h5 => ?_) (fun h5 => ?_)
            · have h5 : badCh v.T[k] = true := h5
              refine cx_seq ?_
              refine cx_ops ?_
              refine ax_q (q_mov rfl) ?_
              refine ax_nil ?_
              refine cx_keep rfl rfl ?_
              refine cx_ret (ret0 rfl rfl ?_)
              have e : valueOK v = false := by
                rw [valueOK_2 h0 h1]; unfold isWord; rw [any_hit h4x h5]; simp
              exact ⟨by rw [e]; rfl, rfl⟩
            · have h5 : badCh v.T[k] = false := h5
              refine cx_skip ?_
              refine cx_keep rfl rfl ?_
              refine cx_ops ?_
              refine ax_q (q_mov rfl) ?_
              refine ax_qe (r' := int ((k + 1 : Nat) : Int)) (q_ibin rfl rfl rfl) (by rw [wi (by omega) (by omega)]; rfl) ?_
              refine ax_q (q_mov rfl) ?_
              refine ax_nil ?_
              exact ⟨_, k + 1, by omega, ⟨by omega, rfl, before_step h4x hb h5⟩, by repeat (first | exact trivial | refine ⟨rfl, ?_⟩ | refine ⟨?_, ?_⟩)⟩
          · have h4 := dF h4
            have h4x : k = v.T.length := by omega
            refine cx_exit rfl ?_
            refine cx_keep rfl rfl ?_
            refine cx_seq ?_
            refine cx_ops ?_
            refine ax_q (q_mov rfl) ?_
            refine ax_nil ?_
            refine cx_keep rfl rfl ?_
            refine cx_ret (ret0 rfl rfl ?_)
            exact ⟨by rw [valueOK_2 h0 h1]; unfold isWord; rw [any_all (fun i hi => hb i (by omega)), decide_eq_true h2, decide_eq_true (show v.N = 0 from by omega), decide_eq_true (show (v.T.length : Int) ≤ 10 from by omega)] <;> rfl, rfl⟩
      · have h2 := dF h2
        refine cx_skip ?_
        refine cx_keep rfl rfl ?_
        refine cx_seq ?_
        refine cx_ops ?_
        refine ax_q (q_mov rfl) ?_
        refine ax_nil ?_
        refine cx_keep rfl rfl ?_
        refine cx_ret (ret0 rfl rfl ?_)
        exact ⟨by rw [valueOK_2 h0 h1, decide_eq_false h2] <;> rfl, rfl⟩


/- loop.example/g00332/spec.l11Depths -/
def k_c_l11Depths : XCode :=
  .seq (.ops [.op (some 2) (.mov (.k (.nils 1))),
     .op (some 3) (.mov (.k (.bool false)))])
  (.keep [0] (.seq (.ops [.op (some 10) (.mov (.t 0)),
     .op (some 11) (.lenS (.t 10)),
     .op (some 12) (.bin .add (.t 11) (.k (.int .i64 1))),
     .op (some 13) (.mkslice 1 8 [.int .i64 0] (.t 12) (.t 12)),
     .op (some 4) (.mov (.t 13))])
  (.keep [0, 4] (.seq (.seq (.ops [.op (some 5) (.mov (.k (.int .i64 1)))])
   (.keep [0, 4, 5] (.block 0 (.loop (.seq (.seq (.ops [.op (some 14) (.mov (.t 5)),
         .op (some 15) (.mov (.t 0)),
         .op (some 16) (.lenS (.t 15)),
         .op (some 17) (.bin .leq (.t 14) (.t 16))])
      (.keep [0, 4, 5, 17] (.cond (.t 17)
       (.skip)
       (.exit 0))))
     (.keep [0, 4, 5] (.seq (.block 1 (.ops [.op (some 20) (.mov (.t 4)),
         .op (some 21) (.mov (.t 5)),
         .op (some 22) (.iadr 1 (.t 20) (.t 21)),
         .op none (.store 1 (.t 22) (.k (.int .i64 (-1))))]))
     (.keep [0, 4, 5] (.ops [.op (some 18) (.mov (.t 5)),
       .op (some 19) (.bin .add (.t 18) (.k (.int .i64 1))),
       .op (some 5) (.mov (.t 19))])))))))))
  (.keep [0, 4] (.seq (.seq (.ops [.op (some 6) (.mov (.k (.int .i64 0)))])
   (.keep [0, 4, 6] (.block 2 (.loop (.seq (.seq (.ops [.op (some 23) (.mov (.t 6)),
         .op (some 24) (.mov (.t 0)),
         .op (some 25) (.lenS (.t 24)),
         .op (some 26) (.bin .lss (.t 23) (.t 25))])
      (.keep [0, 4, 6, 26] (.cond (.t 26)
       (.skip)
       (.exit 2))))
     (.keep [0, 4, 6] (.seq (.block 3 (.seq (.ops [.op (some 29) (.mov (.t 0)),
          .op (some 30) (.mov (.t 6)),
          .op (some 31) (.iadr 5 (.t 29) (.t 30)),
          .op (some 32) (.loadN 5 (.t 31)),
          .op (some 7) (.alloc [.int .i64 0, .int .i64 0, .int .i64 0, .int .i64 0, .str []]),
          .op none (.store 5 (.t 7) (.t 32))])
       (.keep [0, 4, 6, 7] (.seq (.ops [.op (some 33) (.mov (.t 4)),
          .op (some 34) (.mov (.t 6)),
          .op (some 35) (.iadr 1 (.t 33) (.t 34)),
          .op (some 36) (.load1 (.t 35)),
          .op (some 8) (.mov (.t 36))])
       (.keep [0, 4, 6, 7, 8] (.seq (.seq (.ops [.op (some 37) (.mov (.t 8)),
           .op (some 38) (.bin .lss (.t 37) (.k (.int .i64 0)))])
        (.keep [0, 4, 6, 7, 8, 38] (.cond (.t 38)
         (.seq (.ops [.op (some 39) (.mov (.t 4)),
             .op (some 2) (.mov (.t 39)),
             .op (some 3) (.mov (.k (.bool false)))])
          (.keep [2, 3] (.ret)))
         (.skip))))
       (.keep [0, 4, 6, 7, 8] (.seq (.ops [.op (some 40) (.mov (.t 8)),
          .op (some 9) (.mov (.t 40))])
       (.keep [0, 4, 6, 7, 8, 9] (.seq (.seq (.ops [.op (some 41) (.fadr (.t 7) 0),
           .op (some 42) (.load1 (.t 41))])
        (.keep [0, 4, 6, 7, 8, 9, 42] (.block 4 (.seq (.ops [.op (some 45) (.bin .eql (.t 42) (.k (.int .i64 1))),
            .op (some 44) (.mov (.t 45))])
         (.keep [0, 4, 6, 7, 8, 9, 42, 44] (.cond (.t 44)
          (.seq (.seq (.ops [.op (some 46) (.fadr (.t 7) 1),
               .op (some 47) (.load1 (.t 46)),
               .op (some 48) (.bin .neq (.t 47) (.k (.int .i64 0))),
               .op (some 49) (.mov (.t 48)),
               .andor 54 false 3 49 [.op (some 50) (.fadr (.t 7) 2), .op (some 51) (.loadN 3 (.t 50)), .call (some 52) 72 [.t 51], .op (some 53) (.not (.t 52))] (.t 53)])
            (.keep [0, 4, 6, 8, 54] (.cond (.t 54)
             (.seq (.ops [.op (some 55) (.mov (.t 4)),
                 .op (some 2) (.mov (.t 55)),
                 .op (some 3) (.mov (.k (.bool false)))])
              (.keep [2, 3] (.ret)))
             (.skip))))
           (.keep [0, 4, 6, 8] (.ops [.op (some 56) (.mov (.t 8)),
             .op (some 57) (.bin .add (.t 56) (.k (.int .i64 1))),
             .op (some 9) (.mov (.t 57))])))
          (.seq (.ops [.op (some 59) (.bin .eql (.t 42) (.k (.int .i64 2))),
              .op (some 58) (.mov (.t 59))])
           (.keep [0, 4, 6, 7, 8, 9, 42, 58] (.cond (.t 58)
            (.seq (.seq (.ops [.op (some 60) (.fadr (.t 7) 1),
                 .op (some 61) (.load1 (.t 60)),
                 .call (some 62) 45 [.t 61, .k (.int .i64 0), .k (.int .i64 2)],
                 .op (some 63) (.not (.t 62)),
                 .op (some 64) (.mov (.t 63)),
                 .andor 69 false 4 64 [.op (some 65) (.fadr (.t 7) 2), .op (some 66) (.loadN 3 (.t 65)), .op (some 67) (.build [.int .i64 0, .int .i64 0, .str []] []), .op (some 68) (.eqs true [0, 0, 2] (.t 66) (.t 67))] (.t 68)])
              (.keep [0, 4, 6, 8, 69] (.cond (.t 69)
               (.seq (.ops [.op (some 70) (.mov (.t 4)),
                   .op (some 2) (.mov (.t 70)),
                   .op (some 3) (.mov (.k (.bool false)))])
                (.keep [2, 3] (.ret)))
               (.skip))))
             (.keep [0, 4, 6, 8] (.ops [.op (some 71) (.mov (.t 8)),
               .op (some 72) (.bin .add (.t 71) (.k (.int .i64 1))),
               .op (some 9) (.mov (.t 72))])))
            (.seq (.ops [.op (some 74) (.bin .eql (.t 42) (.k (.int .i64 3))),
                .op (some 73) (.mov (.t 74))])
             (.keep [0, 4, 6, 7, 8, 9, 42, 73] (.cond (.t 73)
              (.seq (.ops [.op (some 75) (.fadr (.t 7) 1),
                  .op (some 76) (.load1 (.t 75)),
                  .call (some 77) 45 [.t 76, .k (.int .i64 3), .k (.int .i64 5)],
                  .op (some 78) (.not (.t 77)),
                  .op (some 79) (.mov (.t 78)),
                  .andor 84 false 4 79 [.op (some 80) (.fadr (.t 7) 2), .op (some 81) (.loadN 3 (.t 80)), .op (some 82) (.build [.int .i64 0, .int .i64 0, .str []] []), .op (some 83) (.eqs true [0, 0, 2] (.t 81) (.t 82))] (.t 83),
                  .op (some 85) (.mov (.t 84)),
                  .andor 88 false 10 85 [.op (some 86) (.mov (.t 8)), .op (some 87) (.bin .lss (.t 86) (.k (.int .i64 1)))] (.t 87)])
               (.keep [0, 4, 6, 9, 88] (.cond (.t 88)
                (.seq (.ops [.op (some 89) (.mov (.t 4)),
                    .op (some 2) (.mov (.t 89)),
                    .op (some 3) (.mov (.k (.bool false)))])
                 (.keep [2, 3] (.ret)))
                (.skip))))
              (.seq (.ops [.op (some 91) (.bin .eql (.t 42) (.k (.int .i64 4))),
                  .op (some 90) (.mov (.t 91))])
               (.keep [0, 4, 6, 7, 8, 9, 42, 90] (.cond (.t 90)
                (.seq (.seq (.ops [.op (some 92) (.fadr (.t 7) 1),
                     .op (some 93) (.load1 (.t 92)),
                     .call (some 94) 45 [.t 93, .k (.int .i64 6), .k (.int .i64 13)],
                     .op (some 95) (.not (.t 94)),
                     .op (some 96) (.mov (.t 95)),
                     .andor 101 false 4 96 [.op (some 97) (.fadr (.t 7) 2), .op (some 98) (.loadN 3 (.t 97)), .op (some 99) (.build [.int .i64 0, .int .i64 0, .str []] []), .op (some 100) (.eqs true [0, 0, 2] (.t 98) (.t 99))] (.t 100),
                     .op (some 102) (.mov (.t 101)),
                     .andor 105 false 10 102 [.op (some 103) (.mov (.t 8)), .op (some 104) (.bin .lss (.t 103) (.k (.int .i64 2)))] (.t 104)])
                  (.keep [0, 4, 6, 8, 105] (.cond (.t 105)
                   (.seq (.ops [.op (some 106) (.mov (.t 4)),
                       .op (some 2) (.mov (.t 106)),
                       .op (some 3) (.mov (.k (.bool false)))])
                    (.keep [2, 3] (.ret)))
                   (.skip))))
                 (.keep [0, 4, 6, 8] (.ops [.op (some 107) (.mov (.t 8)),
                   .op (some 108) (.bin .sub (.t 107) (.k (.int .i64 1))),
                   .op (some 9) (.mov (.t 108))])))
                (.seq (.seq (.ops [.op (some 110) (.bin .eql (.t 42) (.k (.int .i64 5))),
                     .op (some 109) (.mov (.t 110))])
                  (.keep [0, 4, 6, 7, 8, 9, 42, 109] (.cond (.t 109)
                   (.skip)
                   (.ops [.op (some 111) (.bin .eql (.t 42) (.k (.int .i64 6))),
                      .op (some 109) (.mov (.t 111))]))))
                 (.keep [0, 4, 6, 7, 8, 9, 109] (.cond (.t 109)
                  (.seq (.seq (.ops [.op (some 112) (.fadr (.t 7) 1),
                       .op (some 113) (.load1 (.t 112)),
                       .op (some 114) (.mov (.t 6)),
                       .op (some 115) (.bin .add (.t 114) (.k (.int .i64 1))),
                       .op (some 116) (.mov (.t 0)),
                       .op (some 117) (.lenS (.t 116)),
                       .call (some 118) 45 [.t 113, .t 115, .t 117],
                       .op (some 119) (.not (.t 118)),
                       .op (some 120) (.mov (.t 119)),
                       .andor 125 false 8 120 [.op (some 121) (.fadr (.t 7) 2), .op (some 122) (.loadN 3 (.t 121)), .op (some 123) (.build [.int .i64 0, .int .i64 0, .str []] []), .op (some 124) (.eqs true [0, 0, 2] (.t 122) (.t 123))] (.t 124),
                       .op (some 126) (.mov (.t 125)),
                       .andor 129 false 14 126 [.op (some 127) (.mov (.t 8)), .op (some 128) (.bin .lss (.t 127) (.k (.int .i64 1)))] (.t 128)])
                    (.keep [0, 4, 6, 7, 8, 9, 129] (.cond (.t 129)
                     (.seq (.ops [.op (some 130) (.mov (.t 4)),
                         .op (some 2) (.mov (.t 130)),
                         .op (some 3) (.mov (.k (.bool false)))])
                      (.keep [2, 3] (.ret)))
                     (.skip))))
                   (.keep [0, 4, 6, 7, 8, 9] (.seq (.seq (.ops [.op (some 131) (.mov (.t 4)),
                       .op (some 132) (.fadr (.t 7) 1),
                       .op (some 133) (.load1 (.t 132)),
                       .op (some 134) (.iadr 1 (.t 131) (.t 133)),
                       .op (some 135) (.load1 (.t 134)),
                       .op (some 136) (.bin .geq (.t 135) (.k (.int .i64 0))),
                       .op (some 137) (.mov (.t 136)),
                       .andor 145 true 6 137 [.op (some 138) (.mov (.t 4)), .op (some 139) (.fadr (.t 7) 1), .op (some 140) (.load1 (.t 139)), .op (some 141) (.iadr 1 (.t 138) (.t 140)), .op (some 142) (.load1 (.t 141)), .op (some 143) (.mov (.t 8)), .op (some 144) (.bin .neq (.t 142) (.t 143))] (.t 144)])
                    (.keep [0, 4, 6, 7, 8, 9, 145] (.cond (.t 145)
                     (.seq (.ops [.op (some 146) (.mov (.t 4)),
                         .op (some 2) (.mov (.t 146)),
                         .op (some 3) (.mov (.k (.bool false)))])
                      (.keep [2, 3] (.ret)))
                     (.skip))))
                   (.keep [0, 4, 6, 7, 8, 9] (.ops [.op (some 147) (.mov (.t 4)),
                     .op (some 148) (.fadr (.t 7) 1),
                     .op (some 149) (.load1 (.t 148)),
                     .op (some 150) (.mov (.t 8)),
                     .op (some 151) (.iadr 1 (.t 147) (.t 149)),
                     .op none (.store 1 (.t 151) (.t 150))])))))
                  (.seq (.ops [.op (some 43) (.mov (.t 4)),
                      .op (some 2) (.mov (.t 43)),
                      .op (some 3) (.mov (.k (.bool false)))])
                   (.keep [2, 3] (.ret)))))))))))))))))))))
       (.keep [0, 4, 6, 9] (.seq (.seq (.ops [.op (some 152) (.mov (.t 9)),
           .op (some 153) (.bin .gtr (.t 152) (.k (.int .i64 60))),
           .op (some 154) (.mov (.t 153)),
           .andor 170 false 2 154 [.op (some 155) (.mov (.t 4)), .op (some 156) (.mov (.t 6)), .op (some 157) (.bin .add (.t 156) (.k (.int .i64 1))), .op (some 158) (.iadr 1 (.t 155) (.t 157)), .op (some 159) (.load1 (.t 158)), .op (some 160) (.bin .geq (.t 159) (.k (.int .i64 0))), .op (some 161) (.mov (.t 160)), .andor 169 true 9 161 [.op (some 162) (.mov (.t 4)), .op (some 163) (.mov (.t 6)), .op (some 164) (.bin .add (.t 163) (.k (.int .i64 1))), .op (some 165) (.iadr 1 (.t 162) (.t 164)), .op (some 166) (.load1 (.t 165)), .op (some 167) (.mov (.t 9)), .op (some 168) (.bin .neq (.t 166) (.t 167))] (.t 168)] (.t 169)])
        (.keep [0, 4, 6, 9, 170] (.cond (.t 170)
         (.seq (.ops [.op (some 171) (.mov (.t 4)),
             .op (some 2) (.mov (.t 171)),
             .op (some 3) (.mov (.k (.bool false)))])
          (.keep [2, 3] (.ret)))
         (.skip))))
       (.keep [0, 4, 6, 9] (.ops [.op (some 172) (.mov (.t 4)),
         .op (some 173) (.mov (.t 6)),
         .op (some 174) (.bin .add (.t 173) (.k (.int .i64 1))),
         .op (some 175) (.mov (.t 9)),
         .op (some 176) (.iadr 1 (.t 172) (.t 174)),
         .op none (.store 1 (.t 176) (.t 175))]))))))))))))))
     (.keep [0, 4, 6] (.ops [.op (some 27) (.mov (.t 6)),
       .op (some 28) (.bin .add (.t 27) (.k (.int .i64 1))),
       .op (some 6) (.mov (.t 28))])))))))))
  (.keep [0, 4] (.seq (.draw [.op (some 177) (.mov (.t 4)),
     .op (some 178) (.mov (.t 4)),
     .op (some 179) (.mov (.t 0)),
     .op (some 180) (.lenS (.t 179)),
     .op (some 181) (.iadr 1 (.t 178) (.t 180)),
     .op (some 182) (.load1 (.t 181)),
     .op (some 183) (.bin .eql (.t 182) (.k (.int .i64 1))),
     .op (some 2) (.mov (.t 177)),
     .op (some 3) (.mov (.t 183))])
  (.keep [2, 3] (.ret))))))))))
theorem k_c_l11Depths_fits : fitsF Try.prog 40 ⟨184, k_c_l11Depths, [.t 2, .t 3]⟩ = true := by kernel_rfl
set_option maxHeartbeats 8000000 in
theorem c_l11Depths {l : List GIns} (h0 : l.length ≤ 80) (hv : ∀ x ∈ l, x.V.T.length ≤ 1048576) : Con Try.prog noMv 40 [.d (.sl 5 (l.map GIns.row))] [] (fun r h => ∃ ds : List Int, r = .tup [.osl 0 1 0 ds.length, bool (codeOK l)] ∧ h = [(0, .rows 1 (ds.map intRow))] ∧ (codeOK l = true → runH l l.length = some ds)) := by
  refine con_of2 k_c_l11Depths_fits rfl fun C hP hmv => ?_
  unfold k_c_l11Depths
  refine cx_seq ?_
  refine cx_ops ?_
  refine ax_q (q_mov rfl) ?_
  refine ax_q (q_mov rfl) ?_
  refine ax_nil ?_
  refine cx_keep rfl rfl ?_
  refine cx_seq ?_
  refine cx_ops ?_
  refine ax_q (q_mov rfl) ?_
  first | refine ax_q (q_lenS_map rfl) ?_ | refine ax_q (q_lenS_osl rfl) ?_ | refine ax_q (q_lenS_zs rfl) ?_ | refine ax_q (q_lenS rfl) ?_
  refine ax_qe (r' := int ((l.length + 1 : Nat) : Int)) (q_ibin rfl rfl rfl) (by rw [wi (by omega) (by omega)]; rfl) ?_
  refine ax_ee (st'' := ⟨(13, .osl 13 1 0 (l.length + 1)) :: _, (13, .rows 1 ((initD l.length 0).map intRow)) :: _⟩) (e_mkslice rfl rfl rfl (by omega) (by omega) (by omega) (by decide) rfl rfl) (by rw [Int.toNat_natCast, initD_0]; rfl) ?_
  refine ax_q (q_mov rfl) ?_
  refine ax_nil ?_
  refine cx_keep rfl rfl ?_
  refine cx_seq ?_
  refine cx_seq ?_
  refine cx_ops ?_
  refine ax_q (q_mov rfl) ?_
  refine ax_nil ?_
  refine cx_keep rfl rfl ?_
  refine cx_block ?_
  refine cx_loopU (fun n k => k ≤ l.length ∧ n = l.length - k) (fun k : Nat => [(5, int ((k + 1 : Nat) : Int))]) (fun k => [(13, .rows 1 ((initD l.length k).map intRow))]) ⟨_, 0, ⟨Nat.zero_le _, rfl⟩, by repeat (first | exact trivial | refine ⟨rfl, ?_⟩ | refine ⟨?_, ?_⟩)⟩ ?_
  rintro n k ⟨hk, rfl⟩
  have hil := initD_len hk
  refine cx_seq ?_
  refine cx_seq ?_
  refine cx_ops ?_
  refine ax_q (q_mov rfl) ?_
  refine ax_q (q_mov rfl) ?_
  first | refine ax_q (q_lenS_map rfl) ?_ | refine ax_q (q_lenS_osl rfl) ?_ | refine ax_q (q_lenS_zs rfl) ?_ | refine ax_q (q_lenS rfl) ?_
  refine ax_q (q_ibin rfl rfl rfl) ?_
  refine ax_nil ?_
  refine cx_keep rfl rfl ?_
  refine cx_cond rfl (fun h0z => ?_) (fun h0z => ?_)
  · have h0t := dT h0z
    have h0x : k < l.length := by omega
    refine cx_skip ?_
    refine cx_keep rfl rfl ?_
    refine cx_seq ?_
    refine cx_block ?_
    refine cx_ops ?_
    refine ax_q (q_mov rfl) ?_
    refine ax_q (q_mov rfl) ?_
    refine ax_q (q_ixo rfl rfl (by omega)) ?_
    refine ax_e (e_str (q := intRow (-1)) (row := intRow _) (rs' := (initD l.length (k + 1)).map intRow) rfl rfl rfl rfl rfl rfl (dAt (by omega)) rfl rfl (by rw [← initD_set h0x]; exact setI)) ?_
    refine ax_nil ?_
    refine cx_keep rfl rfl ?_
    refine cx_ops ?_
    refine ax_q (q_mov rfl) ?_
    refine ax_qe (r' := int ((k + 1 + 1 : Nat) : Int)) (q_ibin rfl rfl rfl) (by rw [wi (by omega) (by omega)]; rfl) ?_
    refine ax_q (q_mov rfl) ?_
    refine ax_nil ?_
    exact ⟨_, k + 1, by omega, ⟨by omega, rfl⟩, by repeat (first | exact trivial | refine ⟨rfl, ?_⟩ | refine ⟨?_, ?_⟩)⟩
  · have h0f := dF h0z
    have h0x : k = l.length := by omega
    subst h0x
    refine cx_exit rfl ?_
    refine cx_keep rfl rfl ?_
    refine cx_seq ?_
    refine cx_seq ?_
    refine cx_ops ?_
    refine ax_q (q_mov rfl) ?_
    refine ax_nil ?_
    refine cx_keep rfl rfl ?_
    refine cx_block ?_
    refine cx_loopU (fun n (p : Nat × List Int) => p.1 ≤ l.length ∧ n = l.length - p.1 ∧ runH l p.1 = some p.2) (fun p => [(6, int p.1)]) (fun p => [(13, .rows 1 (p.2.map intRow))]) ⟨_, (0, 0 :: List.replicate l.length (-1)), ⟨Nat.zero_le _, rfl, rfl⟩, by rw [initD_n]; exact (by repeat (first | exact trivial | refine ⟨rfl, ?_⟩ | refine ⟨?_, ?_⟩))⟩ ?_
    rintro n ⟨k, ds⟩ ⟨hk, rfl, hr⟩
    simp only at hk hr ⊢
    have hdl := runH_len hr
    have hg := runH_good hk hr
    refine cx_seq ?_
    refine cx_seq ?_
    refine cx_ops ?_
    refine ax_q (q_mov rfl) ?_
    refine ax_q (q_mov rfl) ?_
    first | refine ax_q (q_lenS_map rfl) ?_ | refine ax_q (q_lenS_osl rfl) ?_ | refine ax_q (q_lenS_zs rfl) ?_ | refine ax_q (q_lenS rfl) ?_
    refine ax_q (q_ibin rfl rfl rfl) ?_
    refine ax_nil ?_
    refine cx_keep rfl rfl ?_
    refine cx_cond rfl (fun h1 => ?_) (fun h1 => ?_)
    · have h1 := dT h1
      have h1x : k < l.length := by omega
      have hxv := hv _ (List.getElem_mem h1x)
      have hd := dB hg (k := k) (by omega)
      refine cx_skip ?_
      refine cx_keep rfl rfl ?_
      refine cx_seq ?_
      refine cx_block ?_
      refine cx_seq ?_
      refine cx_ops ?_
      refine ax_q (q_mov rfl) ?_
      refine ax_q (q_mov rfl) ?_
      first | refine ax_q (q_ix rfl rfl (by assumption)) ?_ | refine ax_q (q_ix rfl rfl (mapAt (by first | assumption | omega))) ?_ | refine ax_q (q_ixo rfl rfl (by first | assumption | omega)) ?_ | refine ax_q (q_ixI rfl rfl (by omega) (mapAt (by first | assumption | omega))) ?_ | refine ax_q (q_ixoI rfl rfl (by omega) (by omega)) ?_
      first | refine ax_q (q_ldN rfl rfl rfl) ?_ | refine ax_q (q_loadN_ip rfl (Nat.le_refl _)) ?_ | refine ax_q (q_loadN_ip rfl (by decide)) ?_ | refine ax_q (q_loadN_rptr rfl rfl (by assumption) (by decide)) ?_ | refine ax_q (q_loadN_rptr rfl rfl (mapAt (by first | assumption | omega)) (by decide)) ?_
      refine ax_e (e_alloc (by decide) rfl rfl) ?_
      refine ax_e (e_st rfl rfl rfl rfl rfl rfl rfl) ?_
      refine ax_nil ?_
      refine cx_keep rfl rfl ?_
      refine cx_seq ?_
      refine cx_ops ?_
      refine ax_q (q_mov rfl) ?_
      refine ax_q (q_mov rfl) ?_
      refine ax_q (q_ixo rfl rfl (by omega)) ?_
      refine ax_q (q_load1_rptr (r := intRow (ds.getD k 0)) rfl rfl (dAt (by omega)) rfl) ?_
      refine ax_q (q_mov rfl) ?_
      refine ax_nil ?_
      refine cx_keep rfl rfl ?_
      refine cx_seq ?_
      refine cx_seq ?_
      refine cx_ops ?_
      refine ax_q (q_mov rfl) ?_
      refine ax_q (q_ibin rfl rfl rfl) ?_
      refine ax_nil ?_
      refine cx_keep rfl rfl ?_
      refine cx_cond rfl (fun h2 => ?_) (fun h2 => ?_)
      · have h2 := dT h2
        refine cx_seq ?_
        refine cx_ops ?_
        refine ax_q (q_mov rfl) ?_
        refine ax_q (q_mov rfl) ?_
        refine ax_q (q_mov rfl) ?_
        refine ax_nil ?_
        refine cx_keep rfl rfl ?_
        have hc : codeOK l = false := codeOK_no h0 hr h1x (stepK_1 h2)
        refine cx_ret (retN (fun _ => 0) [13] rfl rfl rfl rfl rfl ?_)
        exact ⟨ds, by rw [hc, hdl]; rfl, rfl, fun h => by rw [hc] at h; cases h⟩
      · have h2 := dF h2
        refine cx_skip ?_
        refine cx_keep rfl rfl ?_
        refine cx_seq ?_
        refine cx_ops ?_
        refine ax_q (q_mov rfl) ?_
        refine ax_q (q_mov rfl) ?_
        refine ax_nil ?_
        refine cx_keep rfl rfl ?_
        refine cx_seq ?_
        refine cx_seq ?_
        refine cx_ops ?_
        first | refine ax_q (q_fadr_ptr rfl) ?_ | refine ax_q (q_fadr_rptr rfl) ?_ | refine ax_q (q_fadr_ip rfl) ?_
        first | refine ax_q (q_load1_ptr rfl rfl rfl) ?_ | refine ax_q (q_load1_ip rfl) ?_ | refine ax_q (q_load1_rptr rfl rfl rfl rfl) ?_ | refine ax_q (q_load1_rptr rfl rfl (by assumption) rfl) ?_ | refine ax_q (q_load1_rptr rfl rfl (mapAt (by first | assumption | omega)) rfl) ?_
        refine ax_nil ?_
        refine cx_keep rfl rfl ?_
        refine cx_block ?_
        refine cx_seq ?_
        refine cx_ops ?_
        refine ax_q (q_ibin rfl rfl rfl) ?_
        refine ax_q (q_mov rfl) ?_
        refine ax_nil ?_
        refine cx_keep rfl rfl ?_
        refine cx_cond rfl (fun h3 => ?_) (fun h3 => ?_)
        · have h3 := dT h3
          refine cx_seq ?_
          refine cx_seq ?_
          refine cx_ops ?_
          first | refine ax_q (q_fadr_ptr rfl) ?_ | refine ax_q (q_fadr_rptr rfl) ?_ | refine ax_q (q_fadr_ip rfl) ?_
          first | refine ax_q (q_load1_ptr rfl rfl rfl) ?_ | refine ax_q (q_load1_ip rfl) ?_ | refine ax_q (q_load1_rptr rfl rfl rfl rfl) ?_ | refine ax_q (q_load1_rptr rfl rfl (by assumption) rfl) ?_ | refine ax_q (q_load1_rptr rfl rfl (mapAt (by first | assumption | omega)) rfl) ?_
          refine ax_q (q_ibin rfl rfl rfl) ?_
          refine ax_q (q_mov rfl) ?_
          apply ax_or rfl rfl
          · intro g
            have g := nF g
            first | refine ax_q (q_fadr_ptr rfl) ?_ | refine ax_q (q_fadr_rptr rfl) ?_ | refine ax_q (q_fadr_ip rfl) ?_
            first | refine ax_q (q_ldN rfl rfl rfl) ?_ | refine ax_q (q_loadN_ip rfl (Nat.le_refl _)) ?_ | refine ax_q (q_loadN_ip rfl (by decide)) ?_ | refine ax_q (q_loadN_rptr rfl rfl (by assumption) (by decide)) ?_ | refine ax_q (q_loadN_rptr rfl rfl (mapAt (by first | assumption | omega)) (by decide)) ?_
            first | refine ax_call rfl (vc_pure0 (c_sValueOK (v := l[k].V) ?_) hP rfl rfl ?_) | refine ax_call rfl (vc_lend0 (c_sValueOK (v := l[k].V) ?_) hP (by repeat (first | exact lal_id _ rfl | exact LAL.nil | refine LAL.cons ?_ ?_ | exact la_id _ rfl | exact LA.lend (lend_whole rfl (by first | (simp; done) | (rw [List.length_map]; rfl))) | refine LA.agg ?_ | refine LA.fn ?_ | refine LA.lend ?_ | exact Lend.d _ | exact Lend.zs _ | exact lend_whole rfl (by first | (simp; done) | (rw [List.length_map]; rfl)) | refine Lend.ptr rfl ?_ | refine Lend.fn ?_ | exact LendL.nil | refine LendL.cons ?_ ?_)) rfl rfl ?_)
            · first | assumption | omega | (simp; done) | (simp; omega)
            refine ax_q (q_not rfl) ?_
            exact ax_nil ⟨rfl, by repeat (first | exact trivial | refine ⟨rfl, ?_⟩ | refine ⟨?_, ?_⟩)⟩
          refine ax_nil ?_
          refine cx_keep rfl rfl ?_
          refine cx_cond rfl (fun h4 => ?_) (fun h4 => ?_)
          · have h4 := (fun h => (or_T h).imp nT bT) h4
            refine cx_seq ?_
            refine cx_ops ?_
            refine ax_q (q_mov rfl) ?_
            refine ax_q (q_mov rfl) ?_
            refine ax_q (q_mov rfl) ?_
            refine ax_nil ?_
            refine cx_keep rfl rfl ?_
            have hc : codeOK l = false := codeOK_no h0 hr h1x (stepK_2 (by rw [insOK_1 h3]; exact h4.elim (fun h => by rw [decide_eq_false h]; rfl) (fun h => by rw [h, Bool.and_false])))
            refine cx_ret (retN (fun _ => 0) [13] rfl rfl rfl rfl rfl ?_)
            exact ⟨ds, by rw [hc, hdl]; rfl, rfl, fun h => by rw [hc] at h; cases h⟩
          · have h4 := (fun h => And.intro (nF (or_F h).1) (bF (or_F h).2)) h4
            have hi : insOK l[k] k l.length = true := by rw [insOK_1 h3, decide_eq_true h4.1, h4.2]; rfl
            have hb : behI l[k] (ds.getD k 0) = (ds.getD k 0) + 1 := by unfold behI; rw [if_pos (by omega)]
            have hlw : lowI l[k] = 0 := by unfold lowI; rw [if_pos (by omega)]
            have ht : tosI l[k] (k : Int) = [(k : Int) + 1] := by unfold tosI; rw [if_neg (by omega)]
            have htl : (tosI l[k] (k : Int)).length = 1 := by rw [ht]; rfl
            have hl3 : ¬ ds.getD k 0 < lowI l[k] := by rw [hlw]; omega
            refine cx_skip ?_
            refine cx_keep rfl rfl ?_
            refine cx_ops ?_
            refine ax_q (q_mov rfl) ?_
            refine ax_q (q_add rfl rfl (by omega)) ?_
            refine ax_q (q_mov rfl) ?_
            refine ax_nil ?_
            refine cx_keep rfl rfl ?_
            refine cx_seq ?_
            refine cx_seq ?_
            refine cx_ops ?_
            refine ax_q (q_mov rfl) ?_
            refine ax_q (q_ibin rfl rfl rfl) ?_
            refine ax_q (q_mov rfl) ?_
            apply ax_or rfl rfl
            · intro g
              have g := dF g
              refine ax_q (q_mov rfl) ?_
              refine ax_q (q_mov rfl) ?_
              refine ax_qe (r' := int ((k + 1 : Nat) : Int)) (q_ibin rfl rfl rfl) (by rw [wi (by omega) (by omega)]; rfl) ?_
              refine ax_q (q_ixo rfl rfl (by omega)) ?_
              refine ax_q (q_load1_rptr rfl rfl (dAt (by first | omega | (simp only [List.length_set]; omega))) rfl) ?_
              refine ax_q (q_ibin rfl rfl rfl) ?_
              refine ax_q (q_mov rfl) ?_
              apply ax_and rfl rfl
              · intro g
                have g := dT g
                refine ax_q (q_mov rfl) ?_
                refine ax_q (q_mov rfl) ?_
                refine ax_qe (r' := int ((k + 1 : Nat) : Int)) (q_ibin rfl rfl rfl) (by rw [wi (by omega) (by omega)]; rfl) ?_
                refine ax_q (q_ixo rfl rfl (by omega)) ?_
                refine ax_q (q_load1_rptr rfl rfl (dAt (by first | omega | (simp only [List.length_set]; omega))) rfl) ?_
                refine ax_q (q_mov rfl) ?_
                refine ax_q (q_ibin rfl rfl rfl) ?_
                exact ax_nil ⟨rfl, by repeat (first | exact trivial | refine ⟨rfl, ?_⟩ | refine ⟨?_, ?_⟩)⟩
              exact ax_nil ⟨rfl, by repeat (first | exact trivial | refine ⟨rfl, ?_⟩ | refine ⟨?_, ?_⟩)⟩
            refine ax_nil ?_
            refine cx_keep rfl rfl ?_
            refine cx_cond rfl (fun h15 => ?_) (fun h15 => ?_)
            · have h15 := (fun h => (or_T h).imp dT (fun h => And.intro (dT (and_T h).1) (nT (and_T h).2))) h15
              refine cx_seq ?_
              refine cx_ops ?_
              refine ax_q (q_mov rfl) ?_
              refine ax_q (q_mov rfl) ?_
              refine ax_q (q_mov rfl) ?_
              refine ax_nil ?_
              refine cx_keep rfl rfl ?_
              have hc : codeOK l = false := codeOK_no h0 hr h1x (stepS_no h2 hi hl3 hb ht h15)
              refine cx_ret (retN (fun _ => 0) [13] rfl rfl rfl rfl rfl ?_)
              exact ⟨ds, by rw [hc, hdl]; rfl, rfl, fun h => by rw [hc] at h; cases h⟩
            · have h15 := (fun h => And.intro (dF (or_F h).1) ((fun h => (and_F h).imp dF nF) (or_F h).2)) h15
              refine cx_skip ?_
              refine cx_keep rfl rfl ?_
              refine cx_ops ?_
              refine ax_q (q_mov rfl) ?_
              refine ax_q (q_mov rfl) ?_
              refine ax_qe (r' := int ((k + 1 : Nat) : Int)) (q_ibin rfl rfl rfl) (by rw [wi (by omega) (by omega)]; rfl) ?_
              refine ax_q (q_mov rfl) ?_
              refine ax_q (q_ixo rfl rfl (by omega)) ?_
              refine ax_e (e_str (q := intRow ((ds.getD k 0) + 1)) (row := intRow _) (rs' := ((ds).set (k + 1) ((ds.getD k 0) + 1)).map intRow) rfl rfl rfl rfl rfl rfl (dAt (by first | omega | (simp only [List.length_set]; omega))) rfl rfl setI) ?_
              refine ax_nil ?_
              refine cx_keep rfl rfl ?_
              refine cx_ops ?_
              refine ax_q (q_mov rfl) ?_
              refine ax_qe (r' := int ((k + 1 : Nat) : Int)) (q_ibin rfl rfl rfl) (by rw [wi (by omega) (by omega)]; rfl) ?_
              refine ax_q (q_mov rfl) ?_
              refine ax_nil ?_
              exact ⟨_, (k + 1, (ds).set (k + 1) ((ds.getD k 0) + 1)), by simp only; omega, ⟨by simp only; omega, rfl, by simp only; rw [runH_next hr h1x]; exact stepS_ok h2 hi hl3 hb ht h15⟩, by repeat (first | exact trivial | refine ⟨rfl, ?_⟩ | refine ⟨?_, ?_⟩)⟩
        · have h3 := dF h3
          refine cx_seq ?_
          refine cx_ops ?_
          refine ax_q (q_ibin rfl rfl rfl) ?_
          refine ax_q (q_mov rfl) ?_
          refine ax_nil ?_
          refine cx_keep rfl rfl ?_
          refine cx_cond rfl (fun h5 => ?_) (fun h5 => ?_)
          · have h5 := dT h5
            refine cx_seq ?_
            refine cx_seq ?_
            refine cx_ops ?_
            first | refine ax_q (q_fadr_ptr rfl) ?_ | refine ax_q (q_fadr_rptr rfl) ?_ | refine ax_q (q_fadr_ip rfl) ?_
            first | refine ax_q (q_load1_ptr rfl rfl rfl) ?_ | refine ax_q (q_load1_ip rfl) ?_ | refine ax_q (q_load1_rptr rfl rfl rfl rfl) ?_ | refine ax_q (q_load1_rptr rfl rfl (by assumption) rfl) ?_ | refine ax_q (q_load1_rptr rfl rfl (mapAt (by first | assumption | omega)) rfl) ?_
            first | refine ax_call rfl (vc_pure0 (c_l01In  ) hP rfl rfl ?_) | refine ax_call rfl (vc_lend0 (c_l01In  ) hP (by repeat (first | exact lal_id _ rfl | exact LAL.nil | refine LAL.cons ?_ ?_ | exact la_id _ rfl | exact LA.lend (lend_whole rfl (by first | (simp; done) | (rw [List.length_map]; rfl))) | refine LA.agg ?_ | refine LA.fn ?_ | refine LA.lend ?_ | exact Lend.d _ | exact Lend.zs _ | exact lend_whole rfl (by first | (simp; done) | (rw [List.length_map]; rfl)) | refine Lend.ptr rfl ?_ | refine Lend.fn ?_ | exact LendL.nil | refine LendL.cons ?_ ?_)) rfl rfl ?_)
            refine ax_q (q_not rfl) ?_
            refine ax_q (q_mov rfl) ?_
            apply ax_or rfl rfl
            · intro g
              have g := bF g
              first | refine ax_q (q_fadr_ptr rfl) ?_ | refine ax_q (q_fadr_rptr rfl) ?_ | refine ax_q (q_fadr_ip rfl) ?_
              first | refine ax_q (q_ldN rfl rfl rfl) ?_ | refine ax_q (q_loadN_ip rfl (Nat.le_refl _)) ?_ | refine ax_q (q_loadN_ip rfl (by decide)) ?_ | refine ax_q (q_loadN_rptr rfl rfl (by assumption) (by decide)) ?_ | refine ax_q (q_loadN_rptr rfl rfl (mapAt (by first | assumption | omega)) (by decide)) ?_
              refine ax_q (q_build rfl) ?_
              first | refine ax_q (GValue.q_eqs rfl rfl) ?_ | refine ax_q (q_eqs rfl rfl rfl) ?_
              exact ax_nil ⟨rfl, by repeat (first | exact trivial | refine ⟨rfl, ?_⟩ | refine ⟨?_, ?_⟩)⟩
            refine ax_nil ?_
            refine cx_keep rfl rfl ?_
            refine cx_cond rfl (fun h6 => ?_) (fun h6 => ?_)
            · have h6 := (fun h => (or_T h).imp bT bT) h6
              have hz : zeroV l[k].V = false → insOK l[k] k l.length = false := insOK_z h3
              refine cx_seq ?_
              refine cx_ops ?_
              refine ax_q (q_mov rfl) ?_
              refine ax_q (q_mov rfl) ?_
              refine ax_q (q_mov rfl) ?_
              refine ax_nil ?_
              refine cx_keep rfl rfl ?_
              have hc : codeOK l = false := codeOK_no h0 hr h1x (stepK_2 (insOK_or h3 (by rw [insOK_rest2 h5]; exact h6)))
              refine cx_ret (retN (fun _ => 0) [13] rfl rfl rfl rfl rfl ?_)
              exact ⟨ds, by rw [hc, hdl]; rfl, rfl, fun h => by rw [hc] at h; cases h⟩
            · have h6 := (fun h => And.intro (bF (or_F h).1) (bF (or_F h).2)) h6
              have hz : zeroV l[k].V = true := h6.2
              have hi : insOK l[k] k l.length = true := by rw [insOK_v h3 hz, if_pos h5]; exact h6.1
              have hb : behI l[k] (ds.getD k 0) = (ds.getD k 0) + 1 := by unfold behI; rw [if_pos (by omega)]
              have hlw : lowI l[k] = 0 := by unfold lowI; rw [if_pos (by omega)]
              have ht : tosI l[k] (k : Int) = [(k : Int) + 1] := by unfold tosI; rw [if_neg (by omega)]
              have htl : (tosI l[k] (k : Int)).length = 1 := by rw [ht]; rfl
              have hl3 : ¬ ds.getD k 0 < lowI l[k] := by rw [hlw]; omega
              refine cx_skip ?_
              refine cx_keep rfl rfl ?_
              refine cx_ops ?_
              refine ax_q (q_mov rfl) ?_
              refine ax_q (q_add rfl rfl (by omega)) ?_
              refine ax_q (q_mov rfl) ?_
              refine ax_nil ?_
              refine cx_keep rfl rfl ?_
              refine cx_seq ?_
              refine cx_seq ?_
              refine cx_ops ?_
              refine ax_q (q_mov rfl) ?_
              refine ax_q (q_ibin rfl rfl rfl) ?_
              refine ax_q (q_mov rfl) ?_
              apply ax_or rfl rfl
              · intro g
                have g := dF g
                refine ax_q (q_mov rfl) ?_
                refine ax_q (q_mov rfl) ?_
                refine ax_qe (r' := int ((k + 1 : Nat) : Int)) (q_ibin rfl rfl rfl) (by rw [wi (by omega) (by omega)]; rfl) ?_
                refine ax_q (q_ixo rfl rfl (by omega)) ?_
                refine ax_q (q_load1_rptr rfl rfl (dAt (by first | omega | (simp only [List.length_set]; omega))) rfl) ?_
                refine ax_q (q_ibin rfl rfl rfl) ?_
                refine ax_q (q_mov rfl) ?_
                apply ax_and rfl rfl
                · intro g
                  have g := dT g
                  refine ax_q (q_mov rfl) ?_
                  refine ax_q (q_mov rfl) ?_
                  refine ax_qe (r' := int ((k + 1 : Nat) : Int)) (q_ibin rfl rfl rfl) (by rw [wi (by omega) (by omega)]; rfl) ?_
                  refine ax_q (q_ixo rfl rfl (by omega)) ?_
                  refine ax_q (q_load1_rptr rfl rfl (dAt (by first | omega | (simp only [List.length_set]; omega))) rfl) ?_
                  refine ax_q (q_mov rfl) ?_
                  refine ax_q (q_ibin rfl rfl rfl) ?_
                  exact ax_nil ⟨rfl, by repeat (first | exact trivial | refine ⟨rfl, ?_⟩ | refine ⟨?_, ?_⟩)⟩
                exact ax_nil ⟨rfl, by repeat (first | exact trivial | refine ⟨rfl, ?_⟩ | refine ⟨?_, ?_⟩)⟩
              refine ax_nil ?_
              refine cx_keep rfl rfl ?_
              refine cx_cond rfl (fun h15 => ?_) (fun h15 => ?_)
              · have h15 := (fun h => (or_T h).imp dT (fun h => And.intro (dT (and_T h).1) (nT (and_T h).2))) h15
                refine cx_seq ?_
                refine cx_ops ?_
                refine ax_q (q_mov rfl) ?_
                refine ax_q (q_mov rfl) ?_
                refine ax_q (q_mov rfl) ?_
                refine ax_nil ?_
                refine cx_keep rfl rfl ?_
                have hc : codeOK l = false := codeOK_no h0 hr h1x (stepS_no h2 hi hl3 hb ht h15)
                refine cx_ret (retN (fun _ => 0) [13] rfl rfl rfl rfl rfl ?_)
                exact ⟨ds, by rw [hc, hdl]; rfl, rfl, fun h => by rw [hc] at h; cases h⟩
              · have h15 := (fun h => And.intro (dF (or_F h).1) ((fun h => (and_F h).imp dF nF) (or_F h).2)) h15
                refine cx_skip ?_
                refine cx_keep rfl rfl ?_
                refine cx_ops ?_
                refine ax_q (q_mov rfl) ?_
                refine ax_q (q_mov rfl) ?_
                refine ax_qe (r' := int ((k + 1 : Nat) : Int)) (q_ibin rfl rfl rfl) (by rw [wi (by omega) (by omega)]; rfl) ?_
                refine ax_q (q_mov rfl) ?_
                refine ax_q (q_ixo rfl rfl (by omega)) ?_
                refine ax_e (e_str (q := intRow ((ds.getD k 0) + 1)) (row := intRow _) (rs' := ((ds).set (k + 1) ((ds.getD k 0) + 1)).map intRow) rfl rfl rfl rfl rfl rfl (dAt (by first | omega | (simp only [List.length_set]; omega))) rfl rfl setI) ?_
                refine ax_nil ?_
                refine cx_keep rfl rfl ?_
                refine cx_ops ?_
                refine ax_q (q_mov rfl) ?_
                refine ax_qe (r' := int ((k + 1 : Nat) : Int)) (q_ibin rfl rfl rfl) (by rw [wi (by omega) (by omega)]; rfl) ?_
                refine ax_q (q_mov rfl) ?_
                refine ax_nil ?_
                exact ⟨_, (k + 1, (ds).set (k + 1) ((ds.getD k 0) + 1)), by simp only; omega, ⟨by simp only; omega, rfl, by simp only; rw [runH_next hr h1x]; exact stepS_ok h2 hi hl3 hb ht h15⟩, by repeat (first | exact trivial | refine ⟨rfl, ?_⟩ | refine ⟨?_, ?_⟩)⟩
          · have h5 := dF h5
            refine cx_seq ?_
            refine cx_ops ?_
            refine ax_q (q_ibin rfl rfl rfl) ?_
            refine ax_q (q_mov rfl) ?_
            refine ax_nil ?_
            refine cx_keep rfl rfl ?_
            refine cx_cond rfl (fun h7 => ?_) (fun h7 => ?_)
            · have h7 := dT h7
              refine cx_seq ?_
              refine cx_ops ?_
              first | refine ax_q (q_fadr_ptr rfl) ?_ | refine ax_q (q_fadr_rptr rfl) ?_ | refine ax_q (q_fadr_ip rfl) ?_
              first | refine ax_q (q_load1_ptr rfl rfl rfl) ?_ | refine ax_q (q_load1_ip rfl) ?_ | refine ax_q (q_load1_rptr rfl rfl rfl rfl) ?_ | refine ax_q (q_load1_rptr rfl rfl (by assumption) rfl) ?_ | refine ax_q (q_load1_rptr rfl rfl (mapAt (by first | assumption | omega)) rfl) ?_
              first | refine ax_call rfl (vc_pure0 (c_l01In  ) hP rfl rfl ?_) | refine ax_call rfl (vc_lend0 (c_l01In  ) hP (by repeat (first | exact lal_id _ rfl | exact LAL.nil | refine LAL.cons ?_ ?_ | exact la_id _ rfl | exact LA.lend (lend_whole rfl (by first | (simp; done) | (rw [List.length_map]; rfl))) | refine LA.agg ?_ | refine LA.fn ?_ | refine LA.lend ?_ | exact Lend.d _ | exact Lend.zs _ | exact lend_whole rfl (by first | (simp; done) | (rw [List.length_map]; rfl)) | refine Lend.ptr rfl ?_ | refine Lend.fn ?_ | exact LendL.nil | refine LendL.cons ?_ ?_)) rfl rfl ?_)
              refine ax_q (q_not rfl) ?_
              refine ax_q (q_mov rfl) ?_
              apply ax_or rfl rfl
              · intro g
                have g := bF g
                first | refine ax_q (q_fadr_ptr rfl) ?_ | refine ax_q (q_fadr_rptr rfl) ?_ | refine ax_q (q_fadr_ip rfl) ?_
                first | refine ax_q (q_ldN rfl rfl rfl) ?_ | refine ax_q (q_loadN_ip rfl (Nat.le_refl _)) ?_ | refine ax_q (q_loadN_ip rfl (by decide)) ?_ | refine ax_q (q_loadN_rptr rfl rfl (by assumption) (by decide)) ?_ | refine ax_q (q_loadN_rptr rfl rfl (mapAt (by first | assumption | omega)) (by decide)) ?_
                refine ax_q (q_build rfl) ?_
                first | refine ax_q (GValue.q_eqs rfl rfl) ?_ | refine ax_q (q_eqs rfl rfl rfl) ?_
                exact ax_nil ⟨rfl, by repeat (first | exact trivial | refine ⟨rfl, ?_⟩ | refine ⟨?_, ?_⟩)⟩
              refine ax_q (q_mov rfl) ?_
              apply ax_or rfl rfl
              · intro g
                have g := (fun h => And.intro (bF (or_F h).1) (bF (or_F h).2)) g
                refine ax_q (q_mov rfl) ?_
                refine ax_q (q_ibin rfl rfl rfl) ?_
                exact ax_nil ⟨rfl, by repeat (first | exact trivial | refine ⟨rfl, ?_⟩ | refine ⟨?_, ?_⟩)⟩
              refine ax_nil ?_
              refine cx_keep rfl rfl ?_
              refine cx_cond rfl (fun h8 => ?_) (fun h8 => ?_)
              · have h8 := (fun h => (or_T h).imp (fun h => (or_T h).imp bT bT) dT) h8
                refine cx_seq ?_
                refine cx_ops ?_
                refine ax_q (q_mov rfl) ?_
                refine ax_q (q_mov rfl) ?_
                refine ax_q (q_mov rfl) ?_
                refine ax_nil ?_
                refine cx_keep rfl rfl ?_
                have hc : codeOK l = false := codeOK_no h0 hr h1x (h8.elim (fun h => stepK_2 (insOK_or h3 (by rw [insOK_rest3 h5 h7]; exact h))) (fun h => stepK_3 (.inl (by unfold lowI; rw [if_neg (by omega), if_neg (by omega)]; exact h))))
                refine cx_ret (retN (fun _ => 0) [13] rfl rfl rfl rfl rfl ?_)
                exact ⟨ds, by rw [hc, hdl]; rfl, rfl, fun h => by rw [hc] at h; cases h⟩
              · have h8 := (fun h => And.intro ((fun h => And.intro (bF (or_F h).1) (bF (or_F h).2)) (or_F h).1) (dF (or_F h).2)) h8
                have hz : zeroV l[k].V = true := h8.1.2
                have hi : insOK l[k] k l.length = true := by rw [insOK_v h3 hz, if_neg h5, if_pos h7]; exact h8.1.1
                have hb : behI l[k] (ds.getD k 0) = (ds.getD k 0) := by unfold behI; rw [if_neg (by omega), if_neg (by omega)]
                have hlw : lowI l[k] = 1 := by unfold lowI; rw [if_neg (by omega), if_neg (by omega)]
                have ht : tosI l[k] (k : Int) = [(k : Int) + 1] := by unfold tosI; rw [if_neg (by omega)]
                have htl : (tosI l[k] (k : Int)).length = 1 := by rw [ht]; rfl
                have hl3 : ¬ ds.getD k 0 < lowI l[k] := by rw [hlw]; omega
                refine cx_skip ?_
                refine cx_keep rfl rfl ?_
                refine cx_seq ?_
                refine cx_seq ?_
                refine cx_ops ?_
                refine ax_q (q_mov rfl) ?_
                refine ax_q (q_ibin rfl rfl rfl) ?_
                refine ax_q (q_mov rfl) ?_
                apply ax_or rfl rfl
                · intro g
                  have g := dF g
                  refine ax_q (q_mov rfl) ?_
                  refine ax_q (q_mov rfl) ?_
                  refine ax_qe (r' := int ((k + 1 : Nat) : Int)) (q_ibin rfl rfl rfl) (by rw [wi (by omega) (by omega)]; rfl) ?_
                  refine ax_q (q_ixo rfl rfl (by omega)) ?_
                  refine ax_q (q_load1_rptr rfl rfl (dAt (by first | omega | (simp only [List.length_set]; omega))) rfl) ?_
                  refine ax_q (q_ibin rfl rfl rfl) ?_
                  refine ax_q (q_mov rfl) ?_
                  apply ax_and rfl rfl
                  · intro g
                    have g := dT g
                    refine ax_q (q_mov rfl) ?_
                    refine ax_q (q_mov rfl) ?_
                    refine ax_qe (r' := int ((k + 1 : Nat) : Int)) (q_ibin rfl rfl rfl) (by rw [wi (by omega) (by omega)]; rfl) ?_
                    refine ax_q (q_ixo rfl rfl (by omega)) ?_
                    refine ax_q (q_load1_rptr rfl rfl (dAt (by first | omega | (simp only [List.length_set]; omega))) rfl) ?_
                    refine ax_q (q_mov rfl) ?_
                    refine ax_q (q_ibin rfl rfl rfl) ?_
                    exact ax_nil ⟨rfl, by repeat (first | exact trivial | refine ⟨rfl, ?_⟩ | refine ⟨?_, ?_⟩)⟩
                  exact ax_nil ⟨rfl, by repeat (first | exact trivial | refine ⟨rfl, ?_⟩ | refine ⟨?_, ?_⟩)⟩
                refine ax_nil ?_
                refine cx_keep rfl rfl ?_
                refine cx_cond rfl (fun h15 => ?_) (fun h15 => ?_)
                · have h15 := (fun h => (or_T h).imp dT (fun h => And.intro (dT (and_T h).1) (nT (and_T h).2))) h15
                  refine cx_seq ?_
                  refine cx_ops ?_
                  refine ax_q (q_mov rfl) ?_
                  refine ax_q (q_mov rfl) ?_
                  refine ax_q (q_mov rfl) ?_
                  refine ax_nil ?_
                  refine cx_keep rfl rfl ?_
                  have hc : codeOK l = false := codeOK_no h0 hr h1x (stepS_no h2 hi hl3 hb ht h15)
                  refine cx_ret (retN (fun _ => 0) [13] rfl rfl rfl rfl rfl ?_)
                  exact ⟨ds, by rw [hc, hdl]; rfl, rfl, fun h => by rw [hc] at h; cases h⟩
                · have h15 := (fun h => And.intro (dF (or_F h).1) ((fun h => (and_F h).imp dF nF) (or_F h).2)) h15
                  refine cx_skip ?_
                  refine cx_keep rfl rfl ?_
                  refine cx_ops ?_
                  refine ax_q (q_mov rfl) ?_
                  refine ax_q (q_mov rfl) ?_
                  refine ax_qe (r' := int ((k + 1 : Nat) : Int)) (q_ibin rfl rfl rfl) (by rw [wi (by omega) (by omega)]; rfl) ?_
                  refine ax_q (q_mov rfl) ?_
                  refine ax_q (q_ixo rfl rfl (by omega)) ?_
                  refine ax_e (e_str (q := intRow ((ds.getD k 0))) (row := intRow _) (rs' := ((ds).set (k + 1) ((ds.getD k 0))).map intRow) rfl rfl rfl rfl rfl rfl (dAt (by first | omega | (simp only [List.length_set]; omega))) rfl rfl setI) ?_
                  refine ax_nil ?_
                  refine cx_keep rfl rfl ?_
                  refine cx_ops ?_
                  refine ax_q (q_mov rfl) ?_
                  refine ax_qe (r' := int ((k + 1 : Nat) : Int)) (q_ibin rfl rfl rfl) (by rw [wi (by omega) (by omega)]; rfl) ?_
                  refine ax_q (q_mov rfl) ?_
                  refine ax_nil ?_
                  exact ⟨_, (k + 1, (ds).set (k + 1) ((ds.getD k 0))), by simp only; omega, ⟨by simp only; omega, rfl, by simp only; rw [runH_next hr h1x]; exact stepS_ok h2 hi hl3 hb ht h15⟩, by repeat (first | exact trivial | refine ⟨rfl, ?_⟩ | refine ⟨?_, ?_⟩)⟩
            · have h7 := dF h7
              refine cx_seq ?_
              refine cx_ops ?_
              refine ax_q (q_ibin rfl rfl rfl) ?_
              refine ax_q (q_mov rfl) ?_
              refine ax_nil ?_
              refine cx_keep rfl rfl ?_
              refine cx_cond rfl (fun h9 => ?_) (fun h9 => ?_)
              · have h9 := dT h9
                refine cx_seq ?_
                refine cx_seq ?_
                refine cx_ops ?_
                first | refine ax_q (q_fadr_ptr rfl) ?_ | refine ax_q (q_fadr_rptr rfl) ?_ | refine ax_q (q_fadr_ip rfl) ?_
                first | refine ax_q (q_load1_ptr rfl rfl rfl) ?_ | refine ax_q (q_load1_ip rfl) ?_ | refine ax_q (q_load1_rptr rfl rfl rfl rfl) ?_ | refine ax_q (q_load1_rptr rfl rfl (by assumption) rfl) ?_ | refine ax_q (q_load1_rptr rfl rfl (mapAt (by first | assumption | omega)) rfl) ?_
                first | refine ax_call rfl (vc_pure0 (c_l01In  ) hP rfl rfl ?_) | refine ax_call rfl (vc_lend0 (c_l01In  ) hP (by repeat (first | exact lal_id _ rfl | exact LAL.nil | refine LAL.cons ?_ ?_ | exact la_id _ rfl | exact LA.lend (lend_whole rfl (by first | (simp; done) | (rw [List.length_map]; rfl))) | refine LA.agg ?_ | refine LA.fn ?_ | refine LA.lend ?_ | exact Lend.d _ | exact Lend.zs _ | exact lend_whole rfl (by first | (simp; done) | (rw [List.length_map]; rfl)) | refine Lend.ptr rfl ?_ | refine Lend.fn ?_ | exact LendL.nil | refine LendL.cons ?_ ?_)) rfl rfl ?_)
                refine ax_q (q_not rfl) ?_
                refine ax_q (q_mov rfl) ?_
                apply ax_or rfl rfl
                · intro g
                  have g := bF g
                  first | refine ax_q (q_fadr_ptr rfl) ?_ | refine ax_q (q_fadr_rptr rfl) ?_ | refine ax_q (q_fadr_ip rfl) ?_
                  first | refine ax_q (q_ldN rfl rfl rfl) ?_ | refine ax_q (q_loadN_ip rfl (Nat.le_refl _)) ?_ | refine ax_q (q_loadN_ip rfl (by decide)) ?_ | refine ax_q (q_loadN_rptr rfl rfl (by assumption) (by decide)) ?_ | refine ax_q (q_loadN_rptr rfl rfl (mapAt (by first | assumption | omega)) (by decide)) ?_
                  refine ax_q (q_build rfl) ?_
                  first | refine ax_q (GValue.q_eqs rfl rfl) ?_ | refine ax_q (q_eqs rfl rfl rfl) ?_
                  exact ax_nil ⟨rfl, by repeat (first | exact trivial | refine ⟨rfl, ?_⟩ | refine ⟨?_, ?_⟩)⟩
                refine ax_q (q_mov rfl) ?_
                apply ax_or rfl rfl
                · intro g
                  have g := (fun h => And.intro (bF (or_F h).1) (bF (or_F h).2)) g
                  refine ax_q (q_mov rfl) ?_
                  refine ax_q (q_ibin rfl rfl rfl) ?_
                  exact ax_nil ⟨rfl, by repeat (first | exact trivial | refine ⟨rfl, ?_⟩ | refine ⟨?_, ?_⟩)⟩
                refine ax_nil ?_
                refine cx_keep rfl rfl ?_
                refine cx_cond rfl (fun h10 => ?_) (fun h10 => ?_)
                · have h10 := (fun h => (or_T h).imp (fun h => (or_T h).imp bT bT) dT) h10
                  refine cx_seq ?_
                  refine cx_ops ?_
                  refine ax_q (q_mov rfl) ?_
                  refine ax_q (q_mov rfl) ?_
                  refine ax_q (q_mov rfl) ?_
                  refine ax_nil ?_
                  refine cx_keep rfl rfl ?_
                  have hc : codeOK l = false := codeOK_no h0 hr h1x (h10.elim (fun h => stepK_2 (insOK_or h3 (by rw [insOK_rest4 h5 h7 h9]; exact h))) (fun h => stepK_3 (.inl (by unfold lowI; rw [if_neg (by omega), if_pos (by omega)]; exact h))))
                  refine cx_ret (retN (fun _ => 0) [13] rfl rfl rfl rfl rfl ?_)
                  exact ⟨ds, by rw [hc, hdl]; rfl, rfl, fun h => by rw [hc] at h; cases h⟩
                · have h10 := (fun h => And.intro ((fun h => And.intro (bF (or_F h).1) (bF (or_F h).2)) (or_F h).1) (dF (or_F h).2)) h10
                  have hz : zeroV l[k].V = true := h10.1.2
                  have hi : insOK l[k] k l.length = true := by rw [insOK_v h3 hz, if_neg h5, if_neg h7, if_pos h9]; exact h10.1.1
                  have hb : behI l[k] (ds.getD k 0) = (ds.getD k 0) - 1 := by unfold behI; rw [if_neg (by omega), if_pos (by omega)]
                  have hlw : lowI l[k] = 2 := by unfold lowI; rw [if_neg (by omega), if_pos (by omega)]
                  have ht : tosI l[k] (k : Int) = [(k : Int) + 1] := by unfold tosI; rw [if_neg (by omega)]
                  have htl : (tosI l[k] (k : Int)).length = 1 := by rw [ht]; rfl
                  have hl3 : ¬ ds.getD k 0 < lowI l[k] := by rw [hlw]; omega
                  refine cx_skip ?_
                  refine cx_keep rfl rfl ?_
                  refine cx_ops ?_
                  refine ax_q (q_mov rfl) ?_
                  refine ax_q (q_sub rfl rfl (by omega)) ?_
                  refine ax_q (q_mov rfl) ?_
                  refine ax_nil ?_
                  refine cx_keep rfl rfl ?_
                  refine cx_seq ?_
                  refine cx_seq ?_
                  refine cx_ops ?_
                  refine ax_q (q_mov rfl) ?_
                  refine ax_q (q_ibin rfl rfl rfl) ?_
                  refine ax_q (q_mov rfl) ?_
                  apply ax_or rfl rfl
                  · intro g
                    have g := dF g
                    refine ax_q (q_mov rfl) ?_
                    refine ax_q (q_mov rfl) ?_
                    refine ax_qe (r' := int ((k + 1 : Nat) : Int)) (q_ibin rfl rfl rfl) (by rw [wi (by omega) (by omega)]; rfl) ?_
                    refine ax_q (q_ixo rfl rfl (by omega)) ?_
                    refine ax_q (q_load1_rptr rfl rfl (dAt (by first | omega | (simp only [List.length_set]; omega))) rfl) ?_
                    refine ax_q (q_ibin rfl rfl rfl) ?_
                    refine ax_q (q_mov rfl) ?_
                    apply ax_and rfl rfl
                    · intro g
                      have g := dT g
                      refine ax_q (q_mov rfl) ?_
                      refine ax_q (q_mov rfl) ?_
                      refine ax_qe (r' := int ((k + 1 : Nat) : Int)) (q_ibin rfl rfl rfl) (by rw [wi (by omega) (by omega)]; rfl) ?_
                      refine ax_q (q_ixo rfl rfl (by omega)) ?_
                      refine ax_q (q_load1_rptr rfl rfl (dAt (by first | omega | (simp only [List.length_set]; omega))) rfl) ?_
                      refine ax_q (q_mov rfl) ?_
                      refine ax_q (q_ibin rfl rfl rfl) ?_
                      exact ax_nil ⟨rfl, by repeat (first | exact trivial | refine ⟨rfl, ?_⟩ | refine ⟨?_, ?_⟩)⟩
                    exact ax_nil ⟨rfl, by repeat (first | exact trivial | refine ⟨rfl, ?_⟩ | refine ⟨?_, ?_⟩)⟩
                  refine ax_nil ?_
                  refine cx_keep rfl rfl ?_
                  refine cx_cond rfl (fun h15 => ?_) (fun h15 => ?_)
                  · have h15 := (fun h => (or_T h).imp dT (fun h => And.intro (dT (and_T h).1) (nT (and_T h).2))) h15
                    refine cx_seq ?_
                    refine cx_ops ?_
                    refine ax_q (q_mov rfl) ?_
                    refine ax_q (q_mov rfl) ?_
                    refine ax_q (q_mov rfl) ?_
                    refine ax_nil ?_
                    refine cx_keep rfl rfl ?_
                    have hc : codeOK l = false := codeOK_no h0 hr h1x (stepS_no h2 hi hl3 hb ht h15)
                    refine cx_ret (retN (fun _ => 0) [13] rfl rfl rfl rfl rfl ?_)
                    exact ⟨ds, by rw [hc, hdl]; rfl, rfl, fun h => by rw [hc] at h; cases h⟩
                  · have h15 := (fun h => And.intro (dF (or_F h).1) ((fun h => (and_F h).imp dF nF) (or_F h).2)) h15
                    refine cx_skip ?_
                    refine cx_keep rfl rfl ?_
                    refine cx_ops ?_
                    refine ax_q (q_mov rfl) ?_
                    refine ax_q (q_mov rfl) ?_
                    refine ax_qe (r' := int ((k + 1 : Nat) : Int)) (q_ibin rfl rfl rfl) (by rw [wi (by omega) (by omega)]; rfl) ?_
                    refine ax_q (q_mov rfl) ?_
                    refine ax_q (q_ixo rfl rfl (by omega)) ?_
                    refine ax_e (e_str (q := intRow ((ds.getD k 0) - 1)) (row := intRow _) (rs' := ((ds).set (k + 1) ((ds.getD k 0) - 1)).map intRow) rfl rfl rfl rfl rfl rfl (dAt (by first | omega | (simp only [List.length_set]; omega))) rfl rfl setI) ?_
                    refine ax_nil ?_
                    refine cx_keep rfl rfl ?_
                    refine cx_ops ?_
                    refine ax_q (q_mov rfl) ?_
                    refine ax_qe (r' := int ((k + 1 : Nat) : Int)) (q_ibin rfl rfl rfl) (by rw [wi (by omega) (by omega)]; rfl) ?_
                    refine ax_q (q_mov rfl) ?_
                    refine ax_nil ?_
                    exact ⟨_, (k + 1, (ds).set (k + 1) ((ds.getD k 0) - 1)), by simp only; omega, ⟨by simp only; omega, rfl, by simp only; rw [runH_next hr h1x]; exact stepS_ok h2 hi hl3 hb ht h15⟩, by repeat (first | exact trivial | refine ⟨rfl, ?_⟩ | refine ⟨?_, ?_⟩)⟩
              · have h9 := dF h9
                refine cx_seq ?_
                refine cx_seq ?_
                refine cx_ops ?_
                refine ax_q (q_ibin rfl rfl rfl) ?_
                refine ax_q (q_mov rfl) ?_
                refine ax_nil ?_
                refine cx_keep rfl rfl ?_
                refine cx_cond rfl (fun h11 => ?_) (fun h11 => ?_)
                · have h11 := dT h11
                  refine cx_skip ?_
                  refine cx_keep rfl rfl ?_
                  refine cx_cond rfl (fun h12 => ?_) (fun h12 => ?_)
                  · have h12 := dT h12
                    refine cx_seq ?_
                    refine cx_seq ?_
                    refine cx_ops ?_
                    first | refine ax_q (q_fadr_ptr rfl) ?_ | refine ax_q (q_fadr_rptr rfl) ?_ | refine ax_q (q_fadr_ip rfl) ?_
                    first | refine ax_q (q_load1_ptr rfl rfl rfl) ?_ | refine ax_q (q_load1_ip rfl) ?_ | refine ax_q (q_load1_rptr rfl rfl rfl rfl) ?_ | refine ax_q (q_load1_rptr rfl rfl (by assumption) rfl) ?_ | refine ax_q (q_load1_rptr rfl rfl (mapAt (by first | assumption | omega)) rfl) ?_
                    refine ax_q (q_mov rfl) ?_
                    refine ax_q (q_add rfl rfl (by omega)) ?_
                    refine ax_q (q_mov rfl) ?_
                    first | refine ax_q (q_lenS_map rfl) ?_ | refine ax_q (q_lenS_osl rfl) ?_ | refine ax_q (q_lenS_zs rfl) ?_ | refine ax_q (q_lenS rfl) ?_
                    first | refine ax_call rfl (vc_pure0 (c_l01In  ) hP rfl rfl ?_) | refine ax_call rfl (vc_lend0 (c_l01In  ) hP (by repeat (first | exact lal_id _ rfl | exact LAL.nil | refine LAL.cons ?_ ?_ | exact la_id _ rfl | exact LA.lend (lend_whole rfl (by first | (simp; done) | (rw [List.length_map]; rfl))) | refine LA.agg ?_ | refine LA.fn ?_ | refine LA.lend ?_ | exact Lend.d _ | exact Lend.zs _ | exact lend_whole rfl (by first | (simp; done) | (rw [List.length_map]; rfl)) | refine Lend.ptr rfl ?_ | refine Lend.fn ?_ | exact LendL.nil | refine LendL.cons ?_ ?_)) rfl rfl ?_)
                    refine ax_q (q_not rfl) ?_
                    refine ax_q (q_mov rfl) ?_
                    apply ax_or rfl rfl
                    · intro g
                      have g := bF g
                      first | refine ax_q (q_fadr_ptr rfl) ?_ | refine ax_q (q_fadr_rptr rfl) ?_ | refine ax_q (q_fadr_ip rfl) ?_
                      first | refine ax_q (q_ldN rfl rfl rfl) ?_ | refine ax_q (q_loadN_ip rfl (Nat.le_refl _)) ?_ | refine ax_q (q_loadN_ip rfl (by decide)) ?_ | refine ax_q (q_loadN_rptr rfl rfl (by assumption) (by decide)) ?_ | refine ax_q (q_loadN_rptr rfl rfl (mapAt (by first | assumption | omega)) (by decide)) ?_
                      refine ax_q (q_build rfl) ?_
                      first | refine ax_q (GValue.q_eqs rfl rfl) ?_ | refine ax_q (q_eqs rfl rfl rfl) ?_
                      exact ax_nil ⟨rfl, by repeat (first | exact trivial | refine ⟨rfl, ?_⟩ | refine ⟨?_, ?_⟩)⟩
                    refine ax_q (q_mov rfl) ?_
                    apply ax_or rfl rfl
                    · intro g
                      have g := (fun h => And.intro (bF (or_F h).1) (bF (or_F h).2)) g
                      refine ax_q (q_mov rfl) ?_
                      refine ax_q (q_ibin rfl rfl rfl) ?_
                      exact ax_nil ⟨rfl, by repeat (first | exact trivial | refine ⟨rfl, ?_⟩ | refine ⟨?_, ?_⟩)⟩
                    refine ax_nil ?_
                    refine cx_keep rfl rfl ?_
                    refine cx_cond rfl (fun h13 => ?_) (fun h13 => ?_)
                    · have h13 := (fun h => (or_T h).imp (fun h => (or_T h).imp bT bT) dT) h13
                      refine cx_seq ?_
                      refine cx_ops ?_
                      refine ax_q (q_mov rfl) ?_
                      refine ax_q (q_mov rfl) ?_
                      refine ax_q (q_mov rfl) ?_
                      refine ax_nil ?_
                      refine cx_keep rfl rfl ?_
                      have hc : codeOK l = false := codeOK_no h0 hr h1x (h13.elim (fun h => stepK_2 (insOK_or h3 (by rw [insOK_rest5 h5 h7 h9 (by omega)]; exact h))) (fun h => stepK_3 (.inl (by unfold lowI; rw [if_neg (by omega), if_neg (by omega)]; exact h))))
                      refine cx_ret (retN (fun _ => 0) [13] rfl rfl rfl rfl rfl ?_)
                      exact ⟨ds, by rw [hc, hdl]; rfl, rfl, fun h => by rw [hc] at h; cases h⟩
                    · have h13 := (fun h => And.intro ((fun h => And.intro (bF (or_F h).1) (bF (or_F h).2)) (or_F h).1) (dF (or_F h).2)) h13
                      have hz : zeroV l[k].V = true := h13.1.2
                      have hi : insOK l[k] k l.length = true := by rw [insOK_v h3 hz, if_neg h5, if_neg h7, if_neg h9, if_pos (by omega)]; exact h13.1.1
                      have hN := inR_iff.1 h13.1.1
                      have hb : behI l[k] (ds.getD k 0) = (ds.getD k 0) := by unfold behI; rw [if_neg (by omega), if_neg (by omega)]
                      have hlw : lowI l[k] = 1 := by unfold lowI; rw [if_neg (by omega), if_neg (by omega)]
                      have ht : tosI l[k] (k : Int) = [(k : Int) + 1, l[k].N] := by unfold tosI; rw [if_pos (by omega)]
                      have htl : (tosI l[k] (k : Int)).length = 2 := by rw [ht]; rfl
                      have hl3 : ¬ ds.getD k 0 < lowI l[k] := by rw [hlw]; omega
                      refine cx_skip ?_
                      refine cx_keep rfl rfl ?_
                      refine cx_seq ?_
                      refine cx_seq ?_
                      refine cx_ops ?_
                      refine ax_q (q_mov rfl) ?_
                      first | refine ax_q (q_fadr_ptr rfl) ?_ | refine ax_q (q_fadr_rptr rfl) ?_ | refine ax_q (q_fadr_ip rfl) ?_
                      first | refine ax_q (q_load1_ptr rfl rfl rfl) ?_ | refine ax_q (q_load1_ip rfl) ?_ | refine ax_q (q_load1_rptr rfl rfl rfl rfl) ?_ | refine ax_q (q_load1_rptr rfl rfl (by assumption) rfl) ?_ | refine ax_q (q_load1_rptr rfl rfl (mapAt (by first | assumption | omega)) rfl) ?_
                      refine ax_q (q_ixoI rfl rfl (by omega) (by omega)) ?_
                      refine ax_q (q_load1_rptr rfl rfl (dAt (by first | omega | (simp only [List.length_set]; omega))) rfl) ?_
                      refine ax_q (q_ibin rfl rfl rfl) ?_
                      refine ax_q (q_mov rfl) ?_
                      apply ax_and rfl rfl
                      · intro g
                        have g := dT g
                        refine ax_q (q_mov rfl) ?_
                        first | refine ax_q (q_fadr_ptr rfl) ?_ | refine ax_q (q_fadr_rptr rfl) ?_ | refine ax_q (q_fadr_ip rfl) ?_
                        first | refine ax_q (q_load1_ptr rfl rfl rfl) ?_ | refine ax_q (q_load1_ip rfl) ?_ | refine ax_q (q_load1_rptr rfl rfl rfl rfl) ?_ | refine ax_q (q_load1_rptr rfl rfl (by assumption) rfl) ?_ | refine ax_q (q_load1_rptr rfl rfl (mapAt (by first | assumption | omega)) rfl) ?_
                        refine ax_q (q_ixoI rfl rfl (by omega) (by omega)) ?_
                        refine ax_q (q_load1_rptr rfl rfl (dAt (by first | omega | (simp only [List.length_set]; omega))) rfl) ?_
                        refine ax_q (q_mov rfl) ?_
                        refine ax_q (q_ibin rfl rfl rfl) ?_
                        exact ax_nil ⟨rfl, by repeat (first | exact trivial | refine ⟨rfl, ?_⟩ | refine ⟨?_, ?_⟩)⟩
                      refine ax_nil ?_
                      refine cx_keep rfl rfl ?_
                      refine cx_cond rfl (fun h14 => ?_) (fun h14 => ?_)
                      · have h14 := (fun h => And.intro (dT (and_T h).1) (nT (and_T h).2)) h14
                        refine cx_seq ?_
                        refine cx_ops ?_
                        refine ax_q (q_mov rfl) ?_
                        refine ax_q (q_mov rfl) ?_
                        refine ax_q (q_mov rfl) ?_
                        refine ax_nil ?_
                        refine cx_keep rfl rfl ?_
                        have hc : codeOK l = false := codeOK_no h0 hr h1x (stepJ_no1 h2 hi hl3 hb ht (by omega) (by omega) h14)
                        refine cx_ret (retN (fun _ => 0) [13] rfl rfl rfl rfl rfl ?_)
                        exact ⟨ds, by rw [hc, hdl]; rfl, rfl, fun h => by rw [hc] at h; cases h⟩
                      · have h14 := (fun h => (and_F h).imp dF nF) h14
                        refine cx_skip ?_
                        refine cx_keep rfl rfl ?_
                        refine cx_ops ?_
                        refine ax_q (q_mov rfl) ?_
                        first | refine ax_q (q_fadr_ptr rfl) ?_ | refine ax_q (q_fadr_rptr rfl) ?_ | refine ax_q (q_fadr_ip rfl) ?_
                        first | refine ax_q (q_load1_ptr rfl rfl rfl) ?_ | refine ax_q (q_load1_ip rfl) ?_ | refine ax_q (q_load1_rptr rfl rfl rfl rfl) ?_ | refine ax_q (q_load1_rptr rfl rfl (by assumption) rfl) ?_ | refine ax_q (q_load1_rptr rfl rfl (mapAt (by first | assumption | omega)) rfl) ?_
                        refine ax_q (q_mov rfl) ?_
                        refine ax_q (q_ixoI rfl rfl (by omega) (by omega)) ?_
                        refine ax_e (e_str (q := intRow (ds.getD k 0)) (row := intRow _) (rs' := (ds.set l[k].N.toNat (ds.getD k 0)).map intRow) rfl rfl rfl rfl rfl rfl (dAt (by omega)) rfl rfl setI) ?_
                        refine ax_nil ?_
                        refine cx_keep rfl rfl ?_
                        refine cx_seq ?_
                        refine cx_seq ?_
                        refine cx_ops ?_
                        refine ax_q (q_mov rfl) ?_
                        refine ax_q (q_ibin rfl rfl rfl) ?_
                        refine ax_q (q_mov rfl) ?_
                        apply ax_or rfl rfl
                        · intro g
                          have g := dF g
                          refine ax_q (q_mov rfl) ?_
                          refine ax_q (q_mov rfl) ?_
                          refine ax_qe (r' := int ((k + 1 : Nat) : Int)) (q_ibin rfl rfl rfl) (by rw [wi (by omega) (by omega)]; rfl) ?_
                          refine ax_q (q_ixo rfl rfl (by omega)) ?_
                          refine ax_q (q_load1_rptr rfl rfl (dAt (by first | omega | (simp only [List.length_set]; omega))) rfl) ?_
                          refine ax_q (q_ibin rfl rfl rfl) ?_
                          refine ax_q (q_mov rfl) ?_
                          apply ax_and rfl rfl
                          · intro g
                            have g := dT g
                            refine ax_q (q_mov rfl) ?_
                            refine ax_q (q_mov rfl) ?_
                            refine ax_qe (r' := int ((k + 1 : Nat) : Int)) (q_ibin rfl rfl rfl) (by rw [wi (by omega) (by omega)]; rfl) ?_
                            refine ax_q (q_ixo rfl rfl (by omega)) ?_
                            refine ax_q (q_load1_rptr rfl rfl (dAt (by first | omega | (simp only [List.length_set]; omega))) rfl) ?_
                            refine ax_q (q_mov rfl) ?_
                            refine ax_q (q_ibin rfl rfl rfl) ?_
                            exact ax_nil ⟨rfl, by repeat (first | exact trivial | refine ⟨rfl, ?_⟩ | refine ⟨?_, ?_⟩)⟩
                          exact ax_nil ⟨rfl, by repeat (first | exact trivial | refine ⟨rfl, ?_⟩ | refine ⟨?_, ?_⟩)⟩
                        refine ax_nil ?_
                        refine cx_keep rfl rfl ?_
                        refine cx_cond rfl (fun h15 => ?_) (fun h15 => ?_)
                        · have h15 := (fun h => (or_T h).imp dT (fun h => And.intro (dT (and_T h).1) (nT (and_T h).2))) h15
                          refine cx_seq ?_
                          refine cx_ops ?_
                          refine ax_q (q_mov rfl) ?_
                          refine ax_q (q_mov rfl) ?_
                          refine ax_q (q_mov rfl) ?_
                          refine ax_nil ?_
                          refine cx_keep rfl rfl ?_
                          have hc : codeOK l = false := codeOK_no h0 hr h1x (stepJ_no2 h2 hi hl3 hb ht (by omega) (by omega) h14 h15)
                          refine cx_ret (retN (fun _ => 0) [13] rfl rfl rfl rfl rfl ?_)
                          exact ⟨ds.set l[k].N.toNat (ds.getD k 0), by rw [hc, List.length_set, hdl]; rfl, rfl, fun h => by rw [hc] at h; cases h⟩
                        · have h15 := (fun h => And.intro (dF (or_F h).1) ((fun h => (and_F h).imp dF nF) (or_F h).2)) h15
                          refine cx_skip ?_
                          refine cx_keep rfl rfl ?_
                          refine cx_ops ?_
                          refine ax_q (q_mov rfl) ?_
                          refine ax_q (q_mov rfl) ?_
                          refine ax_qe (r' := int ((k + 1 : Nat) : Int)) (q_ibin rfl rfl rfl) (by rw [wi (by omega) (by omega)]; rfl) ?_
                          refine ax_q (q_mov rfl) ?_
                          refine ax_q (q_ixo rfl rfl (by omega)) ?_
                          refine ax_e (e_str (q := intRow ((ds.getD k 0))) (row := intRow _) (rs' := ((ds.set l[k].N.toNat (ds.getD k 0)).set (k + 1) ((ds.getD k 0))).map intRow) rfl rfl rfl rfl rfl rfl (dAt (by first | omega | (simp only [List.length_set]; omega))) rfl rfl setI) ?_
                          refine ax_nil ?_
                          refine cx_keep rfl rfl ?_
                          refine cx_ops ?_
                          refine ax_q (q_mov rfl) ?_
                          refine ax_qe (r' := int ((k + 1 : Nat) : Int)) (q_ibin rfl rfl rfl) (by rw [wi (by omega) (by omega)]; rfl) ?_
                          refine ax_q (q_mov rfl) ?_
                          refine ax_nil ?_
                          exact ⟨_, (k + 1, (ds.set l[k].N.toNat (ds.getD k 0)).set (k + 1) ((ds.getD k 0))), by simp only; omega, ⟨by simp only; omega, rfl, by simp only; rw [runH_next hr h1x]; exact stepJ_ok h2 hi hl3 hb ht (by omega) (by omega) h14 h15⟩, by repeat (first | exact trivial | refine ⟨rfl, ?_⟩ | refine ⟨?_, ?_⟩)⟩
                  · have h12 := dF h12
                    exfalso; omega
                · have h11 := dF h11
                  refine cx_ops ?_
                  refine ax_q (q_ibin rfl rfl rfl) ?_
                  refine ax_q (q_mov rfl) ?_
                  refine ax_nil ?_
                  refine cx_keep rfl rfl ?_
                  refine cx_cond rfl (fun h12 => ?_) (fun h12 => ?_)
                  · have h12 := dT h12
                    refine cx_seq ?_
                    refine cx_seq ?_
                    refine cx_ops ?_
                    first | refine ax_q (q_fadr_ptr rfl) ?_ | refine ax_q (q_fadr_rptr rfl) ?_ | refine ax_q (q_fadr_ip rfl) ?_
                    first | refine ax_q (q_load1_ptr rfl rfl rfl) ?_ | refine ax_q (q_load1_ip rfl) ?_ | refine ax_q (q_load1_rptr rfl rfl rfl rfl) ?_ | refine ax_q (q_load1_rptr rfl rfl (by assumption) rfl) ?_ | refine ax_q (q_load1_rptr rfl rfl (mapAt (by first | assumption | omega)) rfl) ?_
                    refine ax_q (q_mov rfl) ?_
                    refine ax_q (q_add rfl rfl (by omega)) ?_
                    refine ax_q (q_mov rfl) ?_
                    first | refine ax_q (q_lenS_map rfl) ?_ | refine ax_q (q_lenS_osl rfl) ?_ | refine ax_q (q_lenS_zs rfl) ?_ | refine ax_q (q_lenS rfl) ?_
                    first | refine ax_call rfl (vc_pure0 (c_l01In  ) hP rfl rfl ?_) | refine ax_call rfl (vc_lend0 (c_l01In  ) hP (by repeat (first | exact lal_id _ rfl | exact LAL.nil | refine LAL.cons ?_ ?_ | exact la_id _ rfl | exact LA.lend (lend_whole rfl (by first | (simp; done) | (rw [List.length_map]; rfl))) | refine LA.agg ?_ | refine LA.fn ?_ | refine LA.lend ?_ | exact Lend.d _ | exact Lend.zs _ | exact lend_whole rfl (by first | (simp; done) | (rw [List.length_map]; rfl)) | refine Lend.ptr rfl ?_ | refine Lend.fn ?_ | exact LendL.nil | refine LendL.cons ?_ ?_)) rfl rfl ?_)
                    refine ax_q (q_not rfl) ?_
                    refine ax_q (q_mov rfl) ?_
                    apply ax_or rfl rfl
                    · intro g
                      have g := bF g
                      first | refine ax_q (q_fadr_ptr rfl) ?_ | refine ax_q (q_fadr_rptr rfl) ?_ | refine ax_q (q_fadr_ip rfl) ?_
                      first | refine ax_q (q_ldN rfl rfl rfl) ?_ | refine ax_q (q_loadN_ip rfl (Nat.le_refl _)) ?_ | refine ax_q (q_loadN_ip rfl (by decide)) ?_ | refine ax_q (q_loadN_rptr rfl rfl (by assumption) (by decide)) ?_ | refine ax_q (q_loadN_rptr rfl rfl (mapAt (by first | assumption | omega)) (by decide)) ?_
                      refine ax_q (q_build rfl) ?_
                      first | refine ax_q (GValue.q_eqs rfl rfl) ?_ | refine ax_q (q_eqs rfl rfl rfl) ?_
                      exact ax_nil ⟨rfl, by repeat (first | exact trivial | refine ⟨rfl, ?_⟩ | refine ⟨?_, ?_⟩)⟩
                    refine ax_q (q_mov rfl) ?_
                    apply ax_or rfl rfl
                    · intro g
                      have g := (fun h => And.intro (bF (or_F h).1) (bF (or_F h).2)) g
                      refine ax_q (q_mov rfl) ?_
                      refine ax_q (q_ibin rfl rfl rfl) ?_
                      exact ax_nil ⟨rfl, by repeat (first | exact trivial | refine ⟨rfl, ?_⟩ | refine ⟨?_, ?_⟩)⟩
                    refine ax_nil ?_
                    refine cx_keep rfl rfl ?_
                    refine cx_cond rfl (fun h13 => ?_) (fun h13 => ?_)
                    · have h13 := (fun h => (or_T h).imp (fun h => (or_T h).imp bT bT) dT) h13
                      refine cx_seq ?_
                      refine cx_ops ?_
                      refine ax_q (q_mov rfl) ?_
                      refine ax_q (q_mov rfl) ?_
                      refine ax_q (q_mov rfl) ?_
                      refine ax_nil ?_
                      refine cx_keep rfl rfl ?_
                      have hc : codeOK l = false := codeOK_no h0 hr h1x (h13.elim (fun h => stepK_2 (insOK_or h3 (by rw [insOK_rest5 h5 h7 h9 (by omega)]; exact h))) (fun h => stepK_3 (.inl (by unfold lowI; rw [if_neg (by omega), if_neg (by omega)]; exact h))))
                      refine cx_ret (retN (fun _ => 0) [13] rfl rfl rfl rfl rfl ?_)
                      exact ⟨ds, by rw [hc, hdl]; rfl, rfl, fun h => by rw [hc] at h; cases h⟩
                    · have h13 := (fun h => And.intro ((fun h => And.intro (bF (or_F h).1) (bF (or_F h).2)) (or_F h).1) (dF (or_F h).2)) h13
                      have hz : zeroV l[k].V = true := h13.1.2
                      have hi : insOK l[k] k l.length = true := by rw [insOK_v h3 hz, if_neg h5, if_neg h7, if_neg h9, if_pos (by omega)]; exact h13.1.1
                      have hN := inR_iff.1 h13.1.1
                      have hb : behI l[k] (ds.getD k 0) = (ds.getD k 0) := by unfold behI; rw [if_neg (by omega), if_neg (by omega)]
                      have hlw : lowI l[k] = 1 := by unfold lowI; rw [if_neg (by omega), if_neg (by omega)]
                      have ht : tosI l[k] (k : Int) = [(k : Int) + 1, l[k].N] := by unfold tosI; rw [if_pos (by omega)]
                      have htl : (tosI l[k] (k : Int)).length = 2 := by rw [ht]; rfl
                      have hl3 : ¬ ds.getD k 0 < lowI l[k] := by rw [hlw]; omega
                      refine cx_skip ?_
                      refine cx_keep rfl rfl ?_
                      refine cx_seq ?_
                      refine cx_seq ?_
                      refine cx_ops ?_
                      refine ax_q (q_mov rfl) ?_
                      first | refine ax_q (q_fadr_ptr rfl) ?_ | refine ax_q (q_fadr_rptr rfl) ?_ | refine ax_q (q_fadr_ip rfl) ?_
                      first | refine ax_q (q_load1_ptr rfl rfl rfl) ?_ | refine ax_q (q_load1_ip rfl) ?_ | refine ax_q (q_load1_rptr rfl rfl rfl rfl) ?_ | refine ax_q (q_load1_rptr rfl rfl (by assumption) rfl) ?_ | refine ax_q (q_load1_rptr rfl rfl (mapAt (by first | assumption | omega)) rfl) ?_
                      refine ax_q (q_ixoI rfl rfl (by omega) (by omega)) ?_
                      refine ax_q (q_load1_rptr rfl rfl (dAt (by first | omega | (simp only [List.length_set]; omega))) rfl) ?_
                      refine ax_q (q_ibin rfl rfl rfl) ?_
                      refine ax_q (q_mov rfl) ?_
                      apply ax_and rfl rfl
                      · intro g
                        have g := dT g
                        refine ax_q (q_mov rfl) ?_
                        first | refine ax_q (q_fadr_ptr rfl) ?_ | refine ax_q (q_fadr_rptr rfl) ?_ | refine ax_q (q_fadr_ip rfl) ?_
                        first | refine ax_q (q_load1_ptr rfl rfl rfl) ?_ | refine ax_q (q_load1_ip rfl) ?_ | refine ax_q (q_load1_rptr rfl rfl rfl rfl) ?_ | refine ax_q (q_load1_rptr rfl rfl (by assumption) rfl) ?_ | refine ax_q (q_load1_rptr rfl rfl (mapAt (by first | assumption | omega)) rfl) ?_
                        refine ax_q (q_ixoI rfl rfl (by omega) (by omega)) ?_
                        refine ax_q (q_load1_rptr rfl rfl (dAt (by first | omega | (simp only [List.length_set]; omega))) rfl) ?_
                        refine ax_q (q_mov rfl) ?_
                        refine ax_q (q_ibin rfl rfl rfl) ?_
                        exact ax_nil ⟨rfl, by repeat (first | exact trivial | refine ⟨rfl, ?_⟩ | refine ⟨?_, ?_⟩)⟩
                      refine ax_nil ?_
                      refine cx_keep rfl rfl ?_
                      refine cx_cond rfl (fun h14 => ?_) (fun h14 => ?_)
                      · have h14 := (fun h => And.intro (dT (and_T h).1) (nT (and_T h).2)) h14
                        refine cx_seq ?_
                        refine cx_ops ?_
                        refine ax_q (q_mov rfl) ?_
                        refine ax_q (q_mov rfl) ?_
                        refine ax_q (q_mov rfl) ?_
                        refine ax_nil ?_
                        refine cx_keep rfl rfl ?_
                        have hc : codeOK l = false := codeOK_no h0 hr h1x (stepJ_no1 h2 hi hl3 hb ht (by omega) (by omega) h14)
                        refine cx_ret (retN (fun _ => 0) [13] rfl rfl rfl rfl rfl ?_)
                        exact ⟨ds, by rw [hc, hdl]; rfl, rfl, fun h => by rw [hc] at h; cases h⟩
                      · have h14 := (fun h => (and_F h).imp dF nF) h14
                        refine cx_skip ?_
                        refine cx_keep rfl rfl ?_
                        refine cx_ops ?_
                        refine ax_q (q_mov rfl) ?_
                        first | refine ax_q (q_fadr_ptr rfl) ?_ | refine ax_q (q_fadr_rptr rfl) ?_ | refine ax_q (q_fadr_ip rfl) ?_
                        first | refine ax_q (q_load1_ptr rfl rfl rfl) ?_ | refine ax_q (q_load1_ip rfl) ?_ | refine ax_q (q_load1_rptr rfl rfl rfl rfl) ?_ | refine ax_q (q_load1_rptr rfl rfl (by assumption) rfl) ?_ | refine ax_q (q_load1_rptr rfl rfl (mapAt (by first | assumption | omega)) rfl) ?_
                        refine ax_q (q_mov rfl) ?_
                        refine ax_q (q_ixoI rfl rfl (by omega) (by omega)) ?_
                        refine ax_e (e_str (q := intRow (ds.getD k 0)) (row := intRow _) (rs' := (ds.set l[k].N.toNat (ds.getD k 0)).map intRow) rfl rfl rfl rfl rfl rfl (dAt (by omega)) rfl rfl setI) ?_
                        refine ax_nil ?_
                        refine cx_keep rfl rfl ?_
                        refine cx_seq ?_
                        refine cx_seq ?_
                        refine cx_ops ?_
                        refine ax_q (q_mov rfl) ?_
                        refine ax_q (q_ibin rfl rfl rfl) ?_
                        refine ax_q (q_mov rfl) ?_
                        apply ax_or rfl rfl
                        · intro g
                          have g := dF g
                          refine ax_q (q_mov rfl) ?_
                          refine ax_q (q_mov rfl) ?_
                          refine ax_qe (r' := int ((k + 1 : Nat) : Int)) (q_ibin rfl rfl rfl) (by rw [wi (by omega) (by omega)]; rfl) ?_
                          refine ax_q (q_ixo rfl rfl (by omega)) ?_
                          refine ax_q (q_load1_rptr rfl rfl (dAt (by first | omega | (simp only [List.length_set]; omega))) rfl) ?_
                          refine ax_q (q_ibin rfl rfl rfl) ?_
                          refine ax_q (q_mov rfl) ?_
                          apply ax_and rfl rfl
                          · intro g
                            have g := dT g
                            refine ax_q (q_mov rfl) ?_
                            refine ax_q (q_mov rfl) ?_
                            refine ax_qe (r' := int ((k + 1 : Nat) : Int)) (q_ibin rfl rfl rfl) (by rw [wi (by omega) (by omega)]; rfl) ?_
                            refine ax_q (q_ixo rfl rfl (by omega)) ?_
                            refine ax_q (q_load1_rptr rfl rfl (dAt (by first | omega | (simp only [List.length_set]; omega))) rfl) ?_
                            refine ax_q (q_mov rfl) ?_
                            refine ax_q (q_ibin rfl rfl rfl) ?_
                            exact ax_nil ⟨rfl, by repeat (first | exact trivial | refine ⟨rfl, ?_⟩ | refine ⟨?_, ?_⟩)⟩
                          exact ax_nil ⟨rfl, by repeat (first | exact trivial | refine ⟨rfl, ?_⟩ | refine ⟨?_, ?_⟩)⟩
                        refine ax_nil ?_
                        refine cx_keep rfl rfl ?_
                        refine cx_cond rfl (fun h15 => ?_) (fun h15 => ?_)
                        · have h15 := (fun h => (or_T h).imp dT (fun h => And.intro (dT (and_T h).1) (nT (and_T h).2))) h15
                          refine cx_seq ?_
                          refine cx_ops ?_
                          refine ax_q (q_mov rfl) ?_
                          refine ax_q (q_mov rfl) ?_
                          refine ax_q (q_mov rfl) ?_
                          refine ax_nil ?_
                          refine cx_keep rfl rfl ?_
                          have hc : codeOK l = false := codeOK_no h0 hr h1x (stepJ_no2 h2 hi hl3 hb ht (by omega) (by omega) h14 h15)
                          refine cx_ret (retN (fun _ => 0) [13] rfl rfl rfl rfl rfl ?_)
                          exact ⟨ds.set l[k].N.toNat (ds.getD k 0), by rw [hc, List.length_set, hdl]; rfl, rfl, fun h => by rw [hc] at h; cases h⟩
                        · have h15 := (fun h => And.intro (dF (or_F h).1) ((fun h => (and_F h).imp dF nF) (or_F h).2)) h15
                          refine cx_skip ?_
                          refine cx_keep rfl rfl ?_
                          refine cx_ops ?_
                          refine ax_q (q_mov rfl) ?_
                          refine ax_q (q_mov rfl) ?_
                          refine ax_qe (r' := int ((k + 1 : Nat) : Int)) (q_ibin rfl rfl rfl) (by rw [wi (by omega) (by omega)]; rfl) ?_
                          refine ax_q (q_mov rfl) ?_
                          refine ax_q (q_ixo rfl rfl (by omega)) ?_
                          refine ax_e (e_str (q := intRow ((ds.getD k 0))) (row := intRow _) (rs' := ((ds.set l[k].N.toNat (ds.getD k 0)).set (k + 1) ((ds.getD k 0))).map intRow) rfl rfl rfl rfl rfl rfl (dAt (by first | omega | (simp only [List.length_set]; omega))) rfl rfl setI) ?_
                          refine ax_nil ?_
                          refine cx_keep rfl rfl ?_
                          refine cx_ops ?_
                          refine ax_q (q_mov rfl) ?_
                          refine ax_qe (r' := int ((k + 1 : Nat) : Int)) (q_ibin rfl rfl rfl) (by rw [wi (by omega) (by omega)]; rfl) ?_
                          refine ax_q (q_mov rfl) ?_
                          refine ax_nil ?_
                          exact ⟨_, (k + 1, (ds.set l[k].N.toNat (ds.getD k 0)).set (k + 1) ((ds.getD k 0))), by simp only; omega, ⟨by simp only; omega, rfl, by simp only; rw [runH_next hr h1x]; exact stepJ_ok h2 hi hl3 hb ht (by omega) (by omega) h14 h15⟩, by repeat (first | exact trivial | refine ⟨rfl, ?_⟩ | refine ⟨?_, ?_⟩)⟩
                  · have h12 := dF h12
                    refine cx_seq ?_
                    refine cx_ops ?_
                    refine ax_q (q_mov rfl) ?_
                    refine ax_q (q_mov rfl) ?_
                    refine ax_q (q_mov rfl) ?_
                    refine ax_nil ?_
                    refine cx_keep rfl rfl ?_
                    have hc : codeOK l = false := codeOK_no h0 hr h1x (stepK_2 (insOK_no h3 h5 h7 h9 h11 h12))
                    refine cx_ret (retN (fun _ => 0) [13] rfl rfl rfl rfl rfl ?_)
                    exact ⟨ds, by rw [hc, hdl]; rfl, rfl, fun h => by rw [hc] at h; cases h⟩
    · have h1 := dF h1
      have h1x : k = l.length := by omega
      subst h1x
      refine cx_exit rfl ?_
      refine cx_keep rfl rfl ?_
      refine cx_seq ?_
      refine cx_draw ?_
      refine ax_q (q_mov rfl) ?_
      refine ax_q (q_mov rfl) ?_
      refine ax_q (q_mov rfl) ?_
      first | refine ax_q (q_lenS_map rfl) ?_ | refine ax_q (q_lenS_osl rfl) ?_ | refine ax_q (q_lenS_zs rfl) ?_ | refine ax_q (q_lenS rfl) ?_
      refine ax_q (q_ixo rfl rfl (by omega)) ?_
      refine ax_q (q_load1_rptr (r := intRow (ds.getD l.length 0)) rfl rfl (dAt (by omega)) rfl) ?_
      refine ax_q (q_ibin rfl rfl rfl) ?_
      refine ax_q (q_mov rfl) ?_
      refine ax_q (q_mov rfl) ?_
      refine ax_nil ?_
      refine cx_keep rfl rfl ?_
      refine cx_ret (retN (fun _ => 0) [13] rfl rfl rfl rfl rfl ?_)
      exact ⟨ds, by rw [codeOK_end h0 hr, hdl]; rfl, rfl, fun _ => hr⟩


/- loop.example/g00332/spec.CodeOK -/
def k_c_sCodeOK : XCode :=
  .seq (.ops [.op (some 2) (.mov (.k (.bool false)))])
  (.keep [0] (.seq (.seq (.ops [.op (some 5) (.mov (.t 0)),
      .op (some 6) (.lenS (.t 5)),
      .op (some 7) (.bin .gtr (.t 6) (.k (.int .i64 4096)))])
   (.keep [0, 7] (.cond (.t 7)
    (.seq (.ops [.op (some 2) (.mov (.k (.bool false)))])
     (.keep [2] (.ret)))
    (.skip))))
  (.keep [0] (.seq (.seq (.ops [.op (some 8) (.mov (.t 0)),
      .op (some 9) (.lenS (.t 8)),
      .op (some 10) (.bin .gtr (.t 9) (.k (.int .i64 80)))])
   (.keep [0, 10] (.cond (.t 10)
    (.seq (.ops [.op (some 2) (.mov (.k (.bool false)))])
     (.keep [2] (.ret)))
    (.skip))))
  (.keep [0] (.seq (.ops [.op (some 12) (.mov (.t 0)),
     .call (some 13) 40 [.t 12],
     .op (some 11) (.mov (.t 13)),
     .op (some 14) (.ext (.t 11) 0),
     .op (some 15) (.ext (.t 11) 1),
     .op (some 3) (.mov (.t 14)),
     .op (some 4) (.mov (.t 15))])
  (.keep [4] (.seq (.ops [.op (some 16) (.mov (.t 4)),
     .op (some 2) (.mov (.t 16))])
  (.keep [2] (.ret))))))))))
theorem k_c_sCodeOK_fits : fitsF Try.prog 11 ⟨17, k_c_sCodeOK, [.t 2]⟩ = true := by kernel_rfl
theorem c_sCodeOK {l : List GIns} (hw : l.length ≤ 1048576) (hv : ∀ x ∈ l, x.V.T.length ≤ 1048576) : Con Try.prog noMv 11 [.d (.sl 5 (l.map GIns.row))] [] (fun r h => r = bool (codeOK l) ∧ h = []) := by
  refine con_of2 k_c_sCodeOK_fits rfl fun C hP hmv => ?_
  unfold k_c_sCodeOK
  refine cx_seq ?_
  refine cx_ops ?_
  refine ax_q (q_mov rfl) ?_
  refine ax_nil ?_
  refine cx_keep rfl rfl ?_
  refine cx_seq ?_
  refine cx_seq ?_
  refine cx_ops ?_
  refine ax_q (q_mov rfl) ?_
  first | refine ax_q (q_lenS_map rfl) ?_ | refine ax_q (q_lenS_osl rfl) ?_ | refine ax_q (q_lenS_zs rfl) ?_ | refine ax_q (q_lenS rfl) ?_
  refine ax_q (q_ibin rfl rfl rfl) ?_
  refine ax_nil ?_
  refine cx_keep rfl rfl ?_
  refine cx_cond rfl (fun h0 => ?_) (fun h0 => ?_)
  · have h0 := dT h0
    refine cx_seq ?_
    refine cx_ops ?_
    refine ax_q (q_mov rfl) ?_
    refine ax_nil ?_
    refine cx_keep rfl rfl ?_
    refine cx_ret (ret0 rfl rfl ?_)
    exact ⟨by rw [codeOK_0 (by omega)]; rfl, rfl⟩
  · have h0 := dF h0
    refine cx_skip ?_
    refine cx_keep rfl rfl ?_
    refine cx_seq ?_
    refine cx_seq ?_
    refine cx_ops ?_
    refine ax_q (q_mov rfl) ?_
    first | refine ax_q (q_lenS_map rfl) ?_ | refine ax_q (q_lenS_osl rfl) ?_ | refine ax_q (q_lenS_zs rfl) ?_ | refine ax_q (q_lenS rfl) ?_
    refine ax_q (q_ibin rfl rfl rfl) ?_
    refine ax_nil ?_
    refine cx_keep rfl rfl ?_
    refine cx_cond rfl (fun h1 => ?_) (fun h1 => ?_)
    · have h1 := dT h1
      refine cx_seq ?_
      refine cx_ops ?_
      refine ax_q (q_mov rfl) ?_
      refine ax_nil ?_
      refine cx_keep rfl rfl ?_
      refine cx_ret (ret0 rfl rfl ?_)
      exact ⟨by rw [codeOK_0 (by omega)]; rfl, rfl⟩
    · have h1 := dF h1
      have h1 : l.length ≤ 80 := by omega
      refine cx_skip ?_
      refine cx_keep rfl rfl ?_
      refine cx_seq ?_
      refine cx_ops ?_
      refine ax_q (q_mov rfl) ?_
      first | refine ax_call rfl (vc_pure (c_l11Depths  ?_ ?_) hP rfl ?_) | refine ax_call rfl (vc_lend (c_l11Depths  ?_ ?_) hP (by repeat (first | exact lal_id _ rfl | exact LAL.nil | refine LAL.cons ?_ ?_ | exact la_id _ rfl | exact LA.lend (lend_whole rfl (by first | (simp; done) | (rw [List.length_map]; rfl))) | refine LA.agg ?_ | refine LA.fn ?_ | refine LA.lend ?_ | exact Lend.d _ | exact Lend.zs _ | exact lend_whole rfl (by first | (simp; done) | (rw [List.length_map]; rfl)) | refine Lend.ptr rfl ?_ | refine Lend.fn ?_ | exact LendL.nil | refine LendL.cons ?_ ?_)) ?_)
      · first | assumption | omega | (simp; done) | (simp; omega)
      · first | assumption | omega | (simp; done) | (simp; omega)
      rintro r h ⟨ds, rfl, rfl, hd⟩
      refine ⟨fun i => 13 + 200 * i, [0], ⟨rfl, rfl, rfl, rfl, rfl, (by first | exact (fun h => absurd h Bool.false_ne_true) | exact (fun _ => ⟨rfl, (noisl_of ⟨noisl_map (fun _ => rfl), trivial⟩)⟩))⟩, ?_⟩
      skip
      refine ax_q (q_mov rfl) ?_
      refine ax_q (q_ext rfl rfl) ?_
      refine ax_q (q_ext rfl rfl) ?_
      refine ax_q (q_mov rfl) ?_
      refine ax_q (q_mov rfl) ?_
      refine ax_nil ?_
      refine cx_keep rfl rfl ?_
      refine cx_seq ?_
      refine cx_ops ?_
      refine ax_q (q_mov rfl) ?_
      refine ax_q (q_mov rfl) ?_
      refine ax_nil ?_
      refine cx_keep rfl rfl ?_
      refine cx_ret (ret0 rfl rfl ?_)
      exact ⟨rfl, rfl⟩


/- loop.example/g00332/spec.l07Row -/
def k_c_l07Row : XCode :=
  .seq (.ops [.op (some 1) (.box (.t 0)),
     .op (some 2) (.mov (.k (.bool false)))])
  (.keep [1] (.seq (.ops [.op (some 3) (.fadr (.t 1) 0),
     .op (some 4) (.load1 (.t 3)),
     .call (some 5) 45 [.t 4, .k (.int .i64 0), .k (.int .i64 1000)],
     .op (some 6) (.mov (.t 5)),
     .andor 10 true 3 6 [.op (some 7) (.fadr (.t 1) 1), .op (some 8) (.loadN 3 (.t 7)), .call (some 9) 72 [.t 8]] (.t 9),
     .op (some 11) (.mov (.t 10)),
     .andor 15 true 8 11 [.op (some 12) (.fadr (.t 1) 4), .op (some 13) (.loadN 3 (.t 12)), .call (some 14) 72 [.t 13]] (.t 14),
     .op (some 16) (.mov (.t 15)),
     .andor 21 true 13 16 [.op (some 17) (.fadr (.t 1) 1), .op (some 18) (.fadr (.t 17) 0), .op (some 19) (.load1 (.t 18)), .op (some 20) (.bin .neq (.t 19) (.k (.int .i64 2)))] (.t 20),
     .op (some 22) (.mov (.t 21)),
     .andor 27 true 19 22 [.op (some 23) (.fadr (.t 1) 4), .op (some 24) (.fadr (.t 23) 0), .op (some 25) (.load1 (.t 24)), .op (some 26) (.bin .neq (.t 25) (.k (.int .i64 1)))] (.t 26),
     .op (some 2) (.mov (.t 27))])
  (.keep [2] (.ret))))
theorem k_c_l07Row_fits : fitsF Try.prog 48 ⟨28, k_c_l07Row, [.t 2]⟩ = true := by kernel_rfl
theorem c_l07Row {a : GRow} (hv : a.N.T.length ≤ 1048576) (hw : a.Name.T.length ≤ 1048576) : Con Try.prog noMv 48 [a.av] [] (fun r h => r = bool (rowOK a) ∧ h = []) := by
  refine con_of2 k_c_l07Row_fits rfl fun C hP hmv => ?_
  unfold k_c_l07Row
  refine cx_seq ?_
  refine cx_ops ?_
  refine ax_e (e_box rfl rfl (by decide) rfl rfl rfl) ?_
  refine ax_q (q_mov rfl) ?_
  refine ax_nil ?_
  refine cx_keep rfl rfl ?_
  refine cx_seq ?_
  refine cx_ops ?_
  first | refine ax_q (q_fadr_ptr rfl) ?_ | refine ax_q (q_fadr_rptr rfl) ?_ | refine ax_q (q_fadr_ip rfl) ?_
  first | refine ax_q (q_load1_ptr rfl rfl rfl) ?_ | refine ax_q (q_load1_ip rfl) ?_ | refine ax_q (q_load1_rptr rfl rfl rfl rfl) ?_ | refine ax_q (q_load1_rptr rfl rfl (by assumption) rfl) ?_ | refine ax_q (q_load1_rptr rfl rfl (mapAt (by first | assumption | omega)) rfl) ?_
  first | refine ax_call rfl (vc_pure0 (c_l01In  ) hP rfl rfl ?_) | refine ax_call rfl (vc_lend0 (c_l01In  ) hP (by repeat (first | exact lal_id _ rfl | exact LAL.nil | refine LAL.cons ?_ ?_ | exact la_id _ rfl | exact LA.lend (lend_whole rfl (by first | (simp; done) | (rw [List.length_map]; rfl))) | refine LA.agg ?_ | refine LA.fn ?_ | refine LA.lend ?_ | exact Lend.d _ | exact Lend.zs _ | exact lend_whole rfl (by first | (simp; done) | (rw [List.length_map]; rfl)) | refine Lend.ptr rfl ?_ | refine Lend.fn ?_ | exact LendL.nil | refine LendL.cons ?_ ?_)) rfl rfl ?_)
  refine ax_q (q_mov rfl) ?_
  apply ax_and rfl rfl
  · intro g
    first | refine ax_q (q_fadr_ptr rfl) ?_ | refine ax_q (q_fadr_rptr rfl) ?_ | refine ax_q (q_fadr_ip rfl) ?_
    first | refine ax_q (q_ldN rfl rfl rfl) ?_ | refine ax_q (q_loadN_ip rfl (Nat.le_refl _)) ?_ | refine ax_q (q_loadN_ip rfl (by decide)) ?_ | refine ax_q (q_loadN_rptr rfl rfl (by assumption) (by decide)) ?_ | refine ax_q (q_loadN_rptr rfl rfl (mapAt (by first | assumption | omega)) (by decide)) ?_
    first | refine ax_call rfl (vc_pure0 (c_sValueOK (v := a.N) ?_) hP rfl rfl ?_) | refine ax_call rfl (vc_lend0 (c_sValueOK (v := a.N) ?_) hP (by repeat (first | exact lal_id _ rfl | exact LAL.nil | refine LAL.cons ?_ ?_ | exact la_id _ rfl | exact LA.lend (lend_whole rfl (by first | (simp; done) | (rw [List.length_map]; rfl))) | refine LA.agg ?_ | refine LA.fn ?_ | refine LA.lend ?_ | exact Lend.d _ | exact Lend.zs _ | exact lend_whole rfl (by first | (simp; done) | (rw [List.length_map]; rfl)) | refine Lend.ptr rfl ?_ | refine Lend.fn ?_ | exact LendL.nil | refine LendL.cons ?_ ?_)) rfl rfl ?_)
    · first | assumption | omega | (simp; done) | (simp; omega)
    exact ax_nil ⟨rfl, by repeat (first | exact trivial | refine ⟨rfl, ?_⟩ | refine ⟨?_, ?_⟩)⟩
  refine ax_q (q_mov rfl) ?_
  apply ax_and rfl rfl
  · intro g
    have g := (fun h => And.intro (id (and_T h).1) (id (and_T h).2)) g
    first | refine ax_q (q_fadr_ptr rfl) ?_ | refine ax_q (q_fadr_rptr rfl) ?_ | refine ax_q (q_fadr_ip rfl) ?_
    first | refine ax_q (q_ldN rfl rfl rfl) ?_ | refine ax_q (q_loadN_ip rfl (Nat.le_refl _)) ?_ | refine ax_q (q_loadN_ip rfl (by decide)) ?_ | refine ax_q (q_loadN_rptr rfl rfl (by assumption) (by decide)) ?_ | refine ax_q (q_loadN_rptr rfl rfl (mapAt (by first | assumption | omega)) (by decide)) ?_
    first | refine ax_call rfl (vc_pure0 (c_sValueOK (v := a.Name) ?_) hP rfl rfl ?_) | refine ax_call rfl (vc_lend0 (c_sValueOK (v := a.Name) ?_) hP (by repeat (first | exact lal_id _ rfl | exact LAL.nil | refine LAL.cons ?_ ?_ | exact la_id _ rfl | exact LA.lend (lend_whole rfl (by first | (simp; done) | (rw [List.length_map]; rfl))) | refine LA.agg ?_ | refine LA.fn ?_ | refine LA.lend ?_ | exact Lend.d _ | exact Lend.zs _ | exact lend_whole rfl (by first | (simp; done) | (rw [List.length_map]; rfl)) | refine Lend.ptr rfl ?_ | refine Lend.fn ?_ | exact LendL.nil | refine LendL.cons ?_ ?_)) rfl rfl ?_)
    · first | assumption | omega | (simp; done) | (simp; omega)
    exact ax_nil ⟨rfl, by repeat (first | exact trivial | refine ⟨rfl, ?_⟩ | refine ⟨?_, ?_⟩)⟩
  refine ax_q (q_mov rfl) ?_
  apply ax_and rfl rfl
  · intro g
    have g := (fun h => And.intro ((fun h => And.intro (id (and_T h).1) (id (and_T h).2)) (and_T h).1) (id (and_T h).2)) g
    first | refine ax_q (q_fadr_ptr rfl) ?_ | refine ax_q (q_fadr_rptr rfl) ?_ | refine ax_q (q_fadr_ip rfl) ?_
    first | refine ax_q (q_fadr_ptr rfl) ?_ | refine ax_q (q_fadr_rptr rfl) ?_ | refine ax_q (q_fadr_ip rfl) ?_
    first | refine ax_q (q_load1_ptr rfl rfl rfl) ?_ | refine ax_q (q_load1_ip rfl) ?_ | refine ax_q (q_load1_rptr rfl rfl rfl rfl) ?_ | refine ax_q (q_load1_rptr rfl rfl (by assumption) rfl) ?_ | refine ax_q (q_load1_rptr rfl rfl (mapAt (by first | assumption | omega)) rfl) ?_
    refine ax_q (q_ibin rfl rfl rfl) ?_
    exact ax_nil ⟨rfl, by repeat (first | exact trivial | refine ⟨rfl, ?_⟩ | refine ⟨?_, ?_⟩)⟩
  refine ax_q (q_mov rfl) ?_
  apply ax_and rfl rfl
  · intro g
    have g := (fun h => And.intro ((fun h => And.intro ((fun h => And.intro (id (and_T h).1) (id (and_T h).2)) (and_T h).1) (id (and_T h).2)) (and_T h).1) (nT (and_T h).2)) g
    first | refine ax_q (q_fadr_ptr rfl) ?_ | refine ax_q (q_fadr_rptr rfl) ?_ | refine ax_q (q_fadr_ip rfl) ?_
    first | refine ax_q (q_fadr_ptr rfl) ?_ | refine ax_q (q_fadr_rptr rfl) ?_ | refine ax_q (q_fadr_ip rfl) ?_
    first | refine ax_q (q_load1_ptr rfl rfl rfl) ?_ | refine ax_q (q_load1_ip rfl) ?_ | refine ax_q (q_load1_rptr rfl rfl rfl rfl) ?_ | refine ax_q (q_load1_rptr rfl rfl (by assumption) rfl) ?_ | refine ax_q (q_load1_rptr rfl rfl (mapAt (by first | assumption | omega)) rfl) ?_
    refine ax_q (q_ibin rfl rfl rfl) ?_
    exact ax_nil ⟨rfl, by repeat (first | exact trivial | refine ⟨rfl, ?_⟩ | refine ⟨?_, ?_⟩)⟩
  refine ax_q (q_mov rfl) ?_
  refine ax_nil ?_
  refine cx_keep rfl rfl ?_
  refine cx_ret (ret0 rfl rfl ?_)
  exact ⟨rfl, rfl⟩


/- loop.example/g00332/spec.l01Bit -/
def k_c_l01Bit : XCode :=
  .seq (.ops [.op (some 2) (.mov (.k (.int .i64 0)))])
  (.keep [0] (.seq (.seq (.ops [.op (some 3) (.mov (.t 0))])
   (.keep [3] (.cond (.t 3)
    (.seq (.ops [.op (some 2) (.mov (.k (.int .i64 1)))])
     (.keep [2] (.ret)))
    (.skip))))
  (.keep [] (.seq (.ops [.op (some 2) (.mov (.k (.int .i64 0)))])
  (.keep [2] (.ret))))))
theorem k_c_l01Bit_fits : fitsF Try.prog 80 ⟨4, k_c_l01Bit, [.t 2]⟩ = true := by kernel_rfl
theorem c_l01Bit {b : Bool} : Con Try.prog noMv 80 [bool b] [] (fun r h => r = int (bitI b) ∧ h = []) := by
  refine con_of2 k_c_l01Bit_fits rfl fun C hP hmv => ?_
  unfold k_c_l01Bit
  refine cx_seq ?_
  refine cx_ops ?_
  refine ax_q (q_mov rfl) ?_
  refine ax_nil ?_
  refine cx_keep rfl rfl ?_
  refine cx_seq ?_
  refine cx_seq ?_
  refine cx_ops ?_
  refine ax_q (q_mov rfl) ?_
  refine ax_nil ?_
  refine cx_keep rfl rfl ?_
  refine cx_cond rfl (fun h0 => ?_) (fun h0 => ?_)
  · skip
    refine cx_seq ?_
    refine cx_ops ?_
    refine ax_q (q_mov rfl) ?_
    refine ax_nil ?_
    refine cx_keep rfl rfl ?_
    refine cx_ret (ret0 rfl rfl ?_)
    exact ⟨by rw [h0]; rfl, rfl⟩
  · skip
    refine cx_skip ?_
    refine cx_keep rfl rfl ?_
    refine cx_seq ?_
    refine cx_ops ?_
    refine ax_q (q_mov rfl) ?_
    refine ax_nil ?_
    refine cx_keep rfl rfl ?_
    refine cx_ret (ret0 rfl rfl ?_)
    exact ⟨by rw [h0]; rfl, rfl⟩


/- loop.example/g00332/spec.l10Int -/
def k_c_sInt : XCode :=
  .seq (.ops [.op (some 2) (.alloc [.int .i64 0, .int .i64 0, .str []])])
  (.keep [0, 2] (.seq (.ops [.op (some 3) (.mov (.t 0)),
     .op (some 4) (.build [.int .i64 0, .int .i64 0, .str []] [(0, 1, .k (.int .i64 1)), (1, 1, .t 3)]),
     .op none (.store 3 (.t 2) (.t 4))])
  (.keep [2] (.ret))))
theorem k_c_sInt_fits : fitsF Try.prog 86 ⟨5, k_c_sInt, [.cN 2 3]⟩ = true := by kernel_rfl
theorem c_sInt {n : Int} : Con Try.prog noMv 86 [int n] [] (fun r h => r = (vI n).av ∧ h = []) := by
  refine con_of2 k_c_sInt_fits rfl fun C hP hmv => ?_
  unfold k_c_sInt
  refine cx_seq ?_
  refine cx_ops ?_
  refine ax_e (e_alloc (by decide) rfl rfl) ?_
  refine ax_nil ?_
  refine cx_keep rfl rfl ?_
  refine cx_seq ?_
  refine cx_ops ?_
  refine ax_q (q_mov rfl) ?_
  refine ax_q (q_build rfl) ?_
  refine ax_e (e_st rfl rfl rfl rfl rfl rfl rfl) ?_
  refine ax_nil ?_
  refine cx_keep rfl rfl ?_
  refine cx_ret (ret0 rfl rfl ?_)
  exact ⟨rfl, rfl⟩


/- loop.example/g00332/spec.l10Column -/
def k_c_sColumn : XCode :=
  .seq (.ops [.op (some 2) (.box (.t 0)),
     .op (some 4) (.alloc [.int .i64 0, .int .i64 0, .str []])])
  (.keep [1, 2, 4] (.seq (.seq (.ops [.op (some 5) (.mov (.t 1))])
   (.keep [2, 4, 5] (.block 0 (.seq (.ops [.op (some 7) (.bin .eql (.t 5) (.k (.int .i64 0))),
       .op (some 6) (.mov (.t 7))])
    (.keep [2, 4, 5, 6] (.cond (.t 6)
     (.seq (.ops [.op (some 8) (.fadr (.t 2) 0),
         .op (some 9) (.load1 (.t 8)),
         .call (some 10) 86 [.t 9],
         .op none (.store 3 (.t 4) (.t 10))])
      (.keep [4] (.ret)))
     (.seq (.ops [.op (some 12) (.bin .eql (.t 5) (.k (.int .i64 1))),
         .op (some 11) (.mov (.t 12))])
      (.keep [2, 4, 11] (.cond (.t 11)
       (.seq (.ops [.op (some 13) (.fadr (.t 2) 1),
           .op (some 14) (.loadN 3 (.t 13)),
           .op none (.store 3 (.t 4) (.t 14))])
        (.keep [4] (.ret)))
       (.skip))))))))))
  (.keep [2, 4] (.seq (.ops [.op (some 15) (.fadr (.t 2) 4),
     .op (some 16) (.loadN 3 (.t 15)),
     .op none (.store 3 (.t 4) (.t 16))])
  (.keep [4] (.ret))))))
theorem k_c_sColumn_fits : fitsF Try.prog 84 ⟨17, k_c_sColumn, [.cN 4 3]⟩ = true := by kernel_rfl
theorem c_sColumn {w : GRow} {k : Int} : Con Try.prog noMv 84 [w.av, int k] [] (fun r h => r = (colF w k).av ∧ h = []) := by
  refine con_of2 k_c_sColumn_fits rfl fun C hP hmv => ?_
  unfold k_c_sColumn
  refine cx_seq ?_
  refine cx_ops ?_
  refine ax_e (e_box rfl rfl (by decide) rfl rfl rfl) ?_
  refine ax_e (e_alloc (by decide) rfl rfl) ?_
  refine ax_nil ?_
  refine cx_keep rfl rfl ?_
  refine cx_seq ?_
  refine cx_seq ?_
  refine cx_ops ?_
  refine ax_q (q_mov rfl) ?_
  refine ax_nil ?_
  refine cx_keep rfl rfl ?_
  refine cx_block ?_
  refine cx_seq ?_
  refine cx_ops ?_
  refine ax_q (q_ibin rfl rfl rfl) ?_
  refine ax_q (q_mov rfl) ?_
  refine ax_nil ?_
  refine cx_keep rfl rfl ?_
  refine cx_cond rfl (fun h0 => ?_) (fun h0 => ?_)
  · have h0 := dT h0
    refine cx_seq ?_
    refine cx_ops ?_
    first | refine ax_q (q_fadr_ptr rfl) ?_ | refine ax_q (q_fadr_rptr rfl) ?_ | refine ax_q (q_fadr_ip rfl) ?_
    first | refine ax_q (q_load1_ptr rfl rfl rfl) ?_ | refine ax_q (q_load1_ip rfl) ?_ | refine ax_q (q_load1_rptr rfl rfl rfl rfl) ?_ | refine ax_q (q_load1_rptr rfl rfl (by assumption) rfl) ?_ | refine ax_q (q_load1_rptr rfl rfl (mapAt (by first | assumption | omega)) rfl) ?_
    first | refine ax_call rfl (vc_pure0 (c_sInt  ) hP rfl rfl ?_) | refine ax_call rfl (vc_lend0 (c_sInt  ) hP (by repeat (first | exact lal_id _ rfl | exact LAL.nil | refine LAL.cons ?_ ?_ | exact la_id _ rfl | exact LA.lend (lend_whole rfl (by first | (simp; done) | (rw [List.length_map]; rfl))) | refine LA.agg ?_ | refine LA.fn ?_ | refine LA.lend ?_ | exact Lend.d _ | exact Lend.zs _ | exact lend_whole rfl (by first | (simp; done) | (rw [List.length_map]; rfl)) | refine Lend.ptr rfl ?_ | refine Lend.fn ?_ | exact LendL.nil | refine LendL.cons ?_ ?_)) rfl rfl ?_)
    refine ax_e (e_st rfl rfl rfl rfl rfl rfl rfl) ?_
    refine ax_nil ?_
    refine cx_keep rfl rfl ?_
    refine cx_ret (ret0 rfl rfl ?_)
    exact ⟨by unfold colF; rw [if_pos h0]; rfl, rfl⟩
  · have h0 := dF h0
    refine cx_seq ?_
    refine cx_ops ?_
    refine ax_q (q_ibin rfl rfl rfl) ?_
    refine ax_q (q_mov rfl) ?_
    refine ax_nil ?_
    refine cx_keep rfl rfl ?_
    refine cx_cond rfl (fun h1 => ?_) (fun h1 => ?_)
    · have h1 := dT h1
      refine cx_seq ?_
      refine cx_ops ?_
      first | refine ax_q (q_fadr_ptr rfl) ?_ | refine ax_q (q_fadr_rptr rfl) ?_ | refine ax_q (q_fadr_ip rfl) ?_
      first | refine ax_q (q_ldN rfl rfl rfl) ?_ | refine ax_q (q_loadN_ip rfl (Nat.le_refl _)) ?_ | refine ax_q (q_loadN_ip rfl (by decide)) ?_ | refine ax_q (q_loadN_rptr rfl rfl (by assumption) (by decide)) ?_ | refine ax_q (q_loadN_rptr rfl rfl (mapAt (by first | assumption | omega)) (by decide)) ?_
      refine ax_e (e_st rfl rfl rfl rfl rfl rfl rfl) ?_
      refine ax_nil ?_
      refine cx_keep rfl rfl ?_
      refine cx_ret (ret0 rfl rfl ?_)
      exact ⟨by unfold colF; rw [if_neg h0, if_pos h1]; rfl, rfl⟩
    · have h1 := dF h1
      refine cx_skip ?_
      refine cx_keep rfl rfl ?_
      refine cx_seq ?_
      refine cx_ops ?_
      first | refine ax_q (q_fadr_ptr rfl) ?_ | refine ax_q (q_fadr_rptr rfl) ?_ | refine ax_q (q_fadr_ip rfl) ?_
      first | refine ax_q (q_ldN rfl rfl rfl) ?_ | refine ax_q (q_loadN_ip rfl (Nat.le_refl _)) ?_ | refine ax_q (q_loadN_ip rfl (by decide)) ?_ | refine ax_q (q_loadN_rptr rfl rfl (by assumption) (by decide)) ?_ | refine ax_q (q_loadN_rptr rfl rfl (mapAt (by first | assumption | omega)) (by decide)) ?_
      refine ax_e (e_st rfl rfl rfl rfl rfl rfl rfl) ?_
      refine ax_nil ?_
      refine cx_keep rfl rfl ?_
      refine cx_ret (ret0 rfl rfl ?_)
      exact ⟨by unfold colF; rw [if_neg h0, if_neg h1]; rfl, rfl⟩


/- loop.example/g00332/spec.l10Unary -/
def k_c_sUnary : XCode :=
  .seq (.ops [.op (some 3) (.box (.t 1)),
     .op (some 4) (.alloc [.int .i64 0, .int .i64 0, .str []]),
     .op (some 5) (.mov (.k (.int .i64 0)))])
  (.keep [0, 3, 4] (.seq (.block 0 (.seq (.ops [.op (some 7) (.mov (.t 0)),
       .op (some 8) (.bin .eql (.t 7) (.k (.int .i64 4))),
       .op (some 6) (.mov (.t 8))])
    (.keep [0, 3, 4, 6] (.cond (.t 6)
     (.seq (.ops [.op (some 9) (.fadr (.t 3) 0),
         .op (some 10) (.load1 (.t 9)),
         .op (some 11) (.bin .eql (.t 10) (.k (.int .i64 0))),
         .call (some 12) 80 [.t 11],
         .call (some 13) 86 [.t 12],
         .op none (.store 3 (.t 4) (.t 13)),
         .op (some 5) (.mov (.k (.int .i64 0)))])
      (.keep [4, 5] (.ret)))
     (.seq (.ops [.op (some 15) (.fadr (.t 3) 0),
         .op (some 16) (.load1 (.t 15)),
         .op (some 17) (.bin .eql (.t 16) (.k (.int .i64 2))),
         .op (some 14) (.mov (.t 17))])
      (.keep [0, 3, 4, 14] (.cond (.t 14)
       (.seq (.ops [.op (some 18) (.build [.int .i64 0, .int .i64 0, .str []] []),
           .op none (.store 3 (.t 4) (.t 18)),
           .op (some 5) (.mov (.k (.int .i64 10)))])
        (.keep [4, 5] (.ret)))
       (.seq (.ops [.op (some 20) (.fadr (.t 3) 0),
           .op (some 21) (.load1 (.t 20)),
           .op (some 22) (.bin .eql (.t 21) (.k (.int .i64 0))),
           .op (some 19) (.mov (.t 22))])
        (.keep [0, 3, 4, 19] (.cond (.t 19)
         (.seq (.ops [.op (some 23) (.loadN 3 (.t 3)),
             .op none (.store 3 (.t 4) (.t 23)),
             .op (some 5) (.mov (.k (.int .i64 0)))])
          (.keep [4, 5] (.ret)))
         (.seq (.ops [.op (some 25) (.mov (.t 0)),
             .op (some 26) (.bin .eql (.t 25) (.k (.int .i64 3))),
             .op (some 24) (.mov (.t 26))])
          (.keep [3, 4, 24] (.cond (.t 24)
           (.seq (.ops [.op (some 27) (.fadr (.t 3) 1),
               .op (some 28) (.load1 (.t 27)),
               .op (some 29) (.bin .eql (.t 28) (.k (.int .i64 0))),
               .call (some 30) 80 [.t 29],
               .call (some 31) 86 [.t 30],
               .op none (.store 3 (.t 4) (.t 31)),
               .op (some 5) (.mov (.k (.int .i64 0)))])
            (.keep [4, 5] (.ret)))
           (.skip))))))))))))))
  (.keep [3, 4] (.seq (.ops [.op (some 32) (.fadr (.t 3) 1),
     .op (some 33) (.load1 (.t 32)),
     .op (some 34) (.neg (.t 33)),
     .call (some 35) 86 [.t 34],
     .op none (.store 3 (.t 4) (.t 35)),
     .op (some 5) (.mov (.k (.int .i64 0)))])
  (.keep [4, 5] (.ret))))))
theorem k_c_sUnary_fits : fitsF Try.prog 85 ⟨36, k_c_sUnary, [.cN 4 3, .t 5]⟩ = true := by kernel_rfl
theorem c_sUnary {op : Int} {a : GValue} (ha : RV a) : Con Try.prog noMv 85 [int op, a.av] [] (fun r h => r = .tup [(unF op a).1.av, int (unF op a).2] ∧ h = []) := by
  refine con_of2 k_c_sUnary_fits rfl fun C hP hmv => ?_
  unfold k_c_sUnary
  have hn := ha.n
  refine cx_seq ?_
  refine cx_ops ?_
  refine ax_e (e_box rfl rfl (by decide) rfl rfl rfl) ?_
  refine ax_e (e_alloc (by decide) rfl rfl) ?_
  refine ax_q (q_mov rfl) ?_
  refine ax_nil ?_
  refine cx_keep rfl rfl ?_
  refine cx_seq ?_
  refine cx_block ?_
  refine cx_seq ?_
  refine cx_ops ?_
  refine ax_q (q_mov rfl) ?_
  refine ax_q (q_ibin rfl rfl rfl) ?_
  refine ax_q (q_mov rfl) ?_
  refine ax_nil ?_
  refine cx_keep rfl rfl ?_
  refine cx_cond rfl (fun h0 => ?_) (fun h0 => ?_)
  · have h0 := dT h0
    refine cx_seq ?_
    refine cx_ops ?_
    first | refine ax_q (q_fadr_ptr rfl) ?_ | refine ax_q (q_fadr_rptr rfl) ?_ | refine ax_q (q_fadr_ip rfl) ?_
    first | refine ax_q (q_load1_ptr rfl rfl rfl) ?_ | refine ax_q (q_load1_ip rfl) ?_ | refine ax_q (q_load1_rptr rfl rfl rfl rfl) ?_ | refine ax_q (q_load1_rptr rfl rfl (by assumption) rfl) ?_ | refine ax_q (q_load1_rptr rfl rfl (mapAt (by first | assumption | omega)) rfl) ?_
    refine ax_q (q_ibin rfl rfl rfl) ?_
    first | refine ax_call rfl (vc_pure0 (c_l01Bit  ) hP rfl rfl ?_) | refine ax_call rfl (vc_lend0 (c_l01Bit  ) hP (by repeat (first | exact lal_id _ rfl | exact LAL.nil | refine LAL.cons ?_ ?_ | exact la_id _ rfl | exact LA.lend (lend_whole rfl (by first | (simp; done) | (rw [List.length_map]; rfl))) | refine LA.agg ?_ | refine LA.fn ?_ | refine LA.lend ?_ | exact Lend.d _ | exact Lend.zs _ | exact lend_whole rfl (by first | (simp; done) | (rw [List.length_map]; rfl)) | refine Lend.ptr rfl ?_ | refine Lend.fn ?_ | exact LendL.nil | refine LendL.cons ?_ ?_)) rfl rfl ?_)
    first | refine ax_call rfl (vc_pure0 (c_sInt  ) hP rfl rfl ?_) | refine ax_call rfl (vc_lend0 (c_sInt  ) hP (by repeat (first | exact lal_id _ rfl | exact LAL.nil | refine LAL.cons ?_ ?_ | exact la_id _ rfl | exact LA.lend (lend_whole rfl (by first | (simp; done) | (rw [List.length_map]; rfl))) | refine LA.agg ?_ | refine LA.fn ?_ | refine LA.lend ?_ | exact Lend.d _ | exact Lend.zs _ | exact lend_whole rfl (by first | (simp; done) | (rw [List.length_map]; rfl)) | refine Lend.ptr rfl ?_ | refine Lend.fn ?_ | exact LendL.nil | refine LendL.cons ?_ ?_)) rfl rfl ?_)
    refine ax_e (e_st rfl rfl rfl rfl rfl rfl rfl) ?_
    refine ax_q (q_mov rfl) ?_
    refine ax_nil ?_
    refine cx_keep rfl rfl ?_
    refine cx_ret (ret0 rfl rfl ?_)
    have e : unF op a = (vB (decide (a.Kind = 0)), 0) := by unfold unF; rw [if_pos (by omega)]
    exact ⟨by rw [e]; rfl, rfl⟩
  · have h0 := dF h0
    refine cx_seq ?_
    refine cx_ops ?_
    first | refine ax_q (q_fadr_ptr rfl) ?_ | refine ax_q (q_fadr_rptr rfl) ?_ | refine ax_q (q_fadr_ip rfl) ?_
    first | refine ax_q (q_load1_ptr rfl rfl rfl) ?_ | refine ax_q (q_load1_ip rfl) ?_ | refine ax_q (q_load1_rptr rfl rfl rfl rfl) ?_ | refine ax_q (q_load1_rptr rfl rfl (by assumption) rfl) ?_ | refine ax_q (q_load1_rptr rfl rfl (mapAt (by first | assumption | omega)) rfl) ?_
    refine ax_q (q_ibin rfl rfl rfl) ?_
    refine ax_q (q_mov rfl) ?_
    refine ax_nil ?_
    refine cx_keep rfl rfl ?_
    refine cx_cond rfl (fun h1 => ?_) (fun h1 => ?_)
    · have h1 := dT h1
      refine cx_seq ?_
      refine cx_ops ?_
      refine ax_q (q_build rfl) ?_
      refine ax_e (e_st rfl rfl rfl rfl rfl rfl rfl) ?_
      refine ax_q (q_mov rfl) ?_
      refine ax_nil ?_
      refine cx_keep rfl rfl ?_
      refine cx_ret (ret0 rfl rfl ?_)
      have e : unF op a = (.zero, 10) := by unfold unF; rw [if_neg (by omega), if_pos (by omega)]
      exact ⟨by rw [e]; rfl, rfl⟩
    · have h1 := dF h1
      refine cx_seq ?_
      refine cx_ops ?_
      first | refine ax_q (q_fadr_ptr rfl) ?_ | refine ax_q (q_fadr_rptr rfl) ?_ | refine ax_q (q_fadr_ip rfl) ?_
      first | refine ax_q (q_load1_ptr rfl rfl rfl) ?_ | refine ax_q (q_load1_ip rfl) ?_ | refine ax_q (q_load1_rptr rfl rfl rfl rfl) ?_ | refine ax_q (q_load1_rptr rfl rfl (by assumption) rfl) ?_ | refine ax_q (q_load1_rptr rfl rfl (mapAt (by first | assumption | omega)) rfl) ?_
      refine ax_q (q_ibin rfl rfl rfl) ?_
      refine ax_q (q_mov rfl) ?_
      refine ax_nil ?_
      refine cx_keep rfl rfl ?_
      refine cx_cond rfl (fun h2 => ?_) (fun h2 => ?_)
      · have h2 := dT h2
        refine cx_seq ?_
        refine cx_ops ?_
        first | refine ax_q (q_ldN rfl rfl rfl) ?_ | refine ax_q (q_loadN_ip rfl (Nat.le_refl _)) ?_ | refine ax_q (q_loadN_ip rfl (by decide)) ?_ | refine ax_q (q_loadN_rptr rfl rfl (by assumption) (by decide)) ?_ | refine ax_q (q_loadN_rptr rfl rfl (mapAt (by first | assumption | omega)) (by decide)) ?_
        refine ax_e (e_st rfl rfl rfl rfl rfl rfl rfl) ?_
        refine ax_q (q_mov rfl) ?_
        refine ax_nil ?_
        refine cx_keep rfl rfl ?_
        refine cx_ret (ret0 rfl rfl ?_)
        have e : unF op a = (.zero, 0) := by unfold unF; rw [if_neg (by omega), if_neg (by omega), if_pos (by omega)]
        exact ⟨by rw [e, ha.z h2]; rfl, rfl⟩
      · have h2 := dF h2
        refine cx_seq ?_
        refine cx_ops ?_
        refine ax_q (q_mov rfl) ?_
        refine ax_q (q_ibin rfl rfl rfl) ?_
        refine ax_q (q_mov rfl) ?_
        refine ax_nil ?_
        refine cx_keep rfl rfl ?_
        refine cx_cond rfl (fun h3 => ?_) (fun h3 => ?_)
        · have h3 := dT h3
          refine cx_seq ?_
          refine cx_ops ?_
          first | refine ax_q (q_fadr_ptr rfl) ?_ | refine ax_q (q_fadr_rptr rfl) ?_ | refine ax_q (q_fadr_ip rfl) ?_
          first | refine ax_q (q_load1_ptr rfl rfl rfl) ?_ | refine ax_q (q_load1_ip rfl) ?_ | refine ax_q (q_load1_rptr rfl rfl rfl rfl) ?_ | refine ax_q (q_load1_rptr rfl rfl (by assumption) rfl) ?_ | refine ax_q (q_load1_rptr rfl rfl (mapAt (by first | assumption | omega)) rfl) ?_
          refine ax_q (q_ibin rfl rfl rfl) ?_
          first | refine ax_call rfl (vc_pure0 (c_l01Bit  ) hP rfl rfl ?_) | refine ax_call rfl (vc_lend0 (c_l01Bit  ) hP (by repeat (first | exact lal_id _ rfl | exact LAL.nil | refine LAL.cons ?_ ?_ | exact la_id _ rfl | exact LA.lend (lend_whole rfl (by first | (simp; done) | (rw [List.length_map]; rfl))) | refine LA.agg ?_ | refine LA.fn ?_ | refine LA.lend ?_ | exact Lend.d _ | exact Lend.zs _ | exact lend_whole rfl (by first | (simp; done) | (rw [List.length_map]; rfl)) | refine Lend.ptr rfl ?_ | refine Lend.fn ?_ | exact LendL.nil | refine LendL.cons ?_ ?_)) rfl rfl ?_)
          first | refine ax_call rfl (vc_pure0 (c_sInt  ) hP rfl rfl ?_) | refine ax_call rfl (vc_lend0 (c_sInt  ) hP (by repeat (first | exact lal_id _ rfl | exact LAL.nil | refine LAL.cons ?_ ?_ | exact la_id _ rfl | exact LA.lend (lend_whole rfl (by first | (simp; done) | (rw [List.length_map]; rfl))) | refine LA.agg ?_ | refine LA.fn ?_ | refine LA.lend ?_ | exact Lend.d _ | exact Lend.zs _ | exact lend_whole rfl (by first | (simp; done) | (rw [List.length_map]; rfl)) | refine Lend.ptr rfl ?_ | refine Lend.fn ?_ | exact LendL.nil | refine LendL.cons ?_ ?_)) rfl rfl ?_)
          refine ax_e (e_st rfl rfl rfl rfl rfl rfl rfl) ?_
          refine ax_q (q_mov rfl) ?_
          refine ax_nil ?_
          refine cx_keep rfl rfl ?_
          refine cx_ret (ret0 rfl rfl ?_)
          have e : unF op a = (vB (decide (a.N = 0)), 0) := by unfold unF; rw [if_neg (by omega), if_neg (by omega), if_neg (by omega), if_pos (by omega)]
          exact ⟨by rw [e]; rfl, rfl⟩
        · have h3 := dF h3
          refine cx_skip ?_
          refine cx_keep rfl rfl ?_
          refine cx_seq ?_
          refine cx_ops ?_
          first | refine ax_q (q_fadr_ptr rfl) ?_ | refine ax_q (q_fadr_rptr rfl) ?_ | refine ax_q (q_fadr_ip rfl) ?_
          first | refine ax_q (q_load1_ptr rfl rfl rfl) ?_ | refine ax_q (q_load1_ip rfl) ?_ | refine ax_q (q_load1_rptr rfl rfl rfl rfl) ?_ | refine ax_q (q_load1_rptr rfl rfl (by assumption) rfl) ?_ | refine ax_q (q_load1_rptr rfl rfl (mapAt (by first | assumption | omega)) rfl) ?_
          first | refine ax_q (q_negI rfl (by omega)) ?_ | refine ax_q (q_neg rfl) ?_
          first | refine ax_call rfl (vc_pure0 (c_sInt  ) hP rfl rfl ?_) | refine ax_call rfl (vc_lend0 (c_sInt  ) hP (by repeat (first | exact lal_id _ rfl | exact LAL.nil | refine LAL.cons ?_ ?_ | exact la_id _ rfl | exact LA.lend (lend_whole rfl (by first | (simp; done) | (rw [List.length_map]; rfl))) | refine LA.agg ?_ | refine LA.fn ?_ | refine LA.lend ?_ | exact Lend.d _ | exact Lend.zs _ | exact lend_whole rfl (by first | (simp; done) | (rw [List.length_map]; rfl)) | refine Lend.ptr rfl ?_ | refine Lend.fn ?_ | exact LendL.nil | refine LendL.cons ?_ ?_)) rfl rfl ?_)
          refine ax_e (e_st rfl rfl rfl rfl rfl rfl rfl) ?_
          refine ax_q (q_mov rfl) ?_
          refine ax_nil ?_
          refine cx_keep rfl rfl ?_
          refine cx_ret (ret0 rfl rfl ?_)
          have e : unF op a = (vI (-a.N), 0) := by unfold unF; rw [if_neg (by omega), if_neg (by omega), if_neg (by omega), if_neg (by omega)]
          exact ⟨by rw [e]; rfl, rfl⟩


/- loop.example/g00332/spec.l01Compare -/
def k_c_l01Compare : XCode :=
  .seq (.ops [.op (some 2) (.box (.t 0)),
     .op (some 3) (.box (.t 1)),
     .op (some 4) (.mov (.k (.int .i64 0)))])
  (.keep [2, 3] (.seq (.block 0 (.seq (.ops [.op (some 6) (.fadr (.t 2) 0),
       .op (some 7) (.load1 (.t 6)),
       .op (some 8) (.fadr (.t 3) 0),
       .op (some 9) (.load1 (.t 8)),
       .op (some 10) (.bin .neq (.t 7) (.t 9)),
       .op (some 5) (.mov (.t 10))])
    (.keep [2, 3, 5] (.cond (.t 5)
     (.seq (.ops [.op (some 11) (.fadr (.t 2) 0),
         .op (some 12) (.load1 (.t 11)),
         .op (some 13) (.fadr (.t 3) 0),
         .op (some 14) (.load1 (.t 13)),
         .op (some 15) (.bin .gtr (.t 12) (.t 14)),
         .call (some 16) 80 [.t 15],
         .op (some 17) (.bin .mul (.k (.int .i64 2)) (.t 16)),
         .op (some 18) (.bin .sub (.t 17) (.k (.int .i64 1))),
         .op (some 4) (.mov (.t 18))])
      (.keep [4] (.ret)))
     (.seq (.ops [.op (some 20) (.fadr (.t 2) 1),
         .op (some 21) (.load1 (.t 20)),
         .op (some 22) (.fadr (.t 3) 1),
         .op (some 23) (.load1 (.t 22)),
         .op (some 24) (.bin .neq (.t 21) (.t 23)),
         .op (some 19) (.mov (.t 24))])
      (.keep [2, 3, 19] (.cond (.t 19)
       (.seq (.ops [.op (some 25) (.fadr (.t 2) 1),
           .op (some 26) (.load1 (.t 25)),
           .op (some 27) (.fadr (.t 3) 1),
           .op (some 28) (.load1 (.t 27)),
           .op (some 29) (.bin .gtr (.t 26) (.t 28)),
           .call (some 30) 80 [.t 29],
           .op (some 31) (.bin .mul (.k (.int .i64 2)) (.t 30)),
           .op (some 32) (.bin .sub (.t 31) (.k (.int .i64 1))),
           .op (some 4) (.mov (.t 32))])
        (.keep [4] (.ret)))
       (.seq (.ops [.op (some 34) (.fadr (.t 2) 2),
           .op (some 35) (.load1 (.t 34)),
           .op (some 36) (.fadr (.t 3) 2),
           .op (some 37) (.load1 (.t 36)),
           .op (some 38) (.bin .neq (.t 35) (.t 37)),
           .op (some 33) (.mov (.t 38))])
        (.keep [2, 3, 33] (.cond (.t 33)
         (.seq (.ops [.op (some 39) (.fadr (.t 2) 2),
             .op (some 40) (.load1 (.t 39)),
             .op (some 41) (.fadr (.t 3) 2),
             .op (some 42) (.load1 (.t 41)),
             .op (some 43) (.bin .gtr (.t 40) (.t 42)),
             .call (some 44) 80 [.t 43],
             .op (some 45) (.bin .mul (.k (.int .i64 2)) (.t 44)),
             .op (some 46) (.bin .sub (.t 45) (.k (.int .i64 1))),
             .op (some 4) (.mov (.t 46))])
          (.keep [4] (.ret)))
         (.skip)))))))))))
  (.keep [] (.seq (.ops [.op (some 4) (.mov (.k (.int .i64 0)))])
  (.keep [4] (.ret))))))
theorem k_c_l01Compare_fits : fitsF Try.prog 104 ⟨47, k_c_l01Compare, [.t 4]⟩ = true := by kernel_rfl
theorem c_l01Compare {a b : GValue} : Con Try.prog noMv 104 [a.av, b.av] [] (fun r h => r = int (cmpV a b) ∧ h = []) := by
  refine con_of2 k_c_l01Compare_fits rfl fun C hP hmv => ?_
  unfold k_c_l01Compare
  refine cx_seq ?_
  refine cx_ops ?_
  refine ax_e (e_box rfl rfl (by decide) rfl rfl rfl) ?_
  refine ax_e (e_box rfl rfl (by decide) rfl rfl rfl) ?_
  refine ax_q (q_mov rfl) ?_
  refine ax_nil ?_
  refine cx_keep rfl rfl ?_
  refine cx_seq ?_
  refine cx_block ?_
  refine cx_seq ?_
  refine cx_ops ?_
  first | refine ax_q (q_fadr_ptr rfl) ?_ | refine ax_q (q_fadr_rptr rfl) ?_ | refine ax_q (q_fadr_ip rfl) ?_
  first | refine ax_q (q_load1_ptr rfl rfl rfl) ?_ | refine ax_q (q_load1_ip rfl) ?_ | refine ax_q (q_load1_rptr rfl rfl rfl rfl) ?_ | refine ax_q (q_load1_rptr rfl rfl (by assumption) rfl) ?_ | refine ax_q (q_load1_rptr rfl rfl (mapAt (by first | assumption | omega)) rfl) ?_
  first | refine ax_q (q_fadr_ptr rfl) ?_ | refine ax_q (q_fadr_rptr rfl) ?_ | refine ax_q (q_fadr_ip rfl) ?_
  first | refine ax_q (q_load1_ptr rfl rfl rfl) ?_ | refine ax_q (q_load1_ip rfl) ?_ | refine ax_q (q_load1_rptr rfl rfl rfl rfl) ?_ | refine ax_q (q_load1_rptr rfl rfl (by assumption) rfl) ?_ | refine ax_q (q_load1_rptr rfl rfl (mapAt (by first | assumption | omega)) rfl) ?_
  refine ax_q (q_ibin rfl rfl rfl) ?_
  refine ax_q (q_mov rfl) ?_
  refine ax_nil ?_
  refine cx_keep rfl rfl ?_
  refine cx_cond rfl (fun h0 => ?_) (fun h0 => ?_)
  · have h0 := nT h0
    refine cx_seq ?_
    refine cx_ops ?_
    first | refine ax_q (q_fadr_ptr rfl) ?_ | refine ax_q (q_fadr_rptr rfl) ?_ | refine ax_q (q_fadr_ip rfl) ?_
    first | refine ax_q (q_load1_ptr rfl rfl rfl) ?_ | refine ax_q (q_load1_ip rfl) ?_ | refine ax_q (q_load1_rptr rfl rfl rfl rfl) ?_ | refine ax_q (q_load1_rptr rfl rfl (by assumption) rfl) ?_ | refine ax_q (q_load1_rptr rfl rfl (mapAt (by first | assumption | omega)) rfl) ?_
    first | refine ax_q (q_fadr_ptr rfl) ?_ | refine ax_q (q_fadr_rptr rfl) ?_ | refine ax_q (q_fadr_ip rfl) ?_
    first | refine ax_q (q_load1_ptr rfl rfl rfl) ?_ | refine ax_q (q_load1_ip rfl) ?_ | refine ax_q (q_load1_rptr rfl rfl rfl rfl) ?_ | refine ax_q (q_load1_rptr rfl rfl (by assumption) rfl) ?_ | refine ax_q (q_load1_rptr rfl rfl (mapAt (by first | assumption | omega)) rfl) ?_
    refine ax_q (q_ibin rfl rfl rfl) ?_
    first | refine ax_call rfl (vc_pure0 (c_l01Bit  ) hP rfl rfl ?_) | refine ax_call rfl (vc_lend0 (c_l01Bit  ) hP (by repeat (first | exact lal_id _ rfl | exact LAL.nil | refine LAL.cons ?_ ?_ | exact la_id _ rfl | exact LA.lend (lend_whole rfl (by first | (simp; done) | (rw [List.length_map]; rfl))) | refine LA.agg ?_ | refine LA.fn ?_ | refine LA.lend ?_ | exact Lend.d _ | exact Lend.zs _ | exact lend_whole rfl (by first | (simp; done) | (rw [List.length_map]; rfl)) | refine Lend.ptr rfl ?_ | refine Lend.fn ?_ | exact LendL.nil | refine LendL.cons ?_ ?_)) rfl rfl ?_)
    have hbb := @bitI_b (decide (b.Kind < a.Kind))
    refine ax_q (q_mul rfl rfl (by omega)) ?_
    refine ax_q (q_sub rfl rfl (by omega)) ?_
    refine ax_q (q_mov rfl) ?_
    refine ax_nil ?_
    refine cx_keep rfl rfl ?_
    refine cx_ret (ret0 rfl rfl ?_)
    exact ⟨by rw [show cmpV a b = cmpI a.Kind b.Kind from by unfold cmpV; rw [if_pos h0], cmpI_ne h0]; rfl, rfl⟩
  · have h0 := nF h0
    refine cx_seq ?_
    refine cx_ops ?_
    first | refine ax_q (q_fadr_ptr rfl) ?_ | refine ax_q (q_fadr_rptr rfl) ?_ | refine ax_q (q_fadr_ip rfl) ?_
    first | refine ax_q (q_load1_ptr rfl rfl rfl) ?_ | refine ax_q (q_load1_ip rfl) ?_ | refine ax_q (q_load1_rptr rfl rfl rfl rfl) ?_ | refine ax_q (q_load1_rptr rfl rfl (by assumption) rfl) ?_ | refine ax_q (q_load1_rptr rfl rfl (mapAt (by first | assumption | omega)) rfl) ?_
    first | refine ax_q (q_fadr_ptr rfl) ?_ | refine ax_q (q_fadr_rptr rfl) ?_ | refine ax_q (q_fadr_ip rfl) ?_
    first | refine ax_q (q_load1_ptr rfl rfl rfl) ?_ | refine ax_q (q_load1_ip rfl) ?_ | refine ax_q (q_load1_rptr rfl rfl rfl rfl) ?_ | refine ax_q (q_load1_rptr rfl rfl (by assumption) rfl) ?_ | refine ax_q (q_load1_rptr rfl rfl (mapAt (by first | assumption | omega)) rfl) ?_
    refine ax_q (q_ibin rfl rfl rfl) ?_
    refine ax_q (q_mov rfl) ?_
    refine ax_nil ?_
    refine cx_keep rfl rfl ?_
    refine cx_cond rfl (fun h1 => ?_) (fun h1 => ?_)
    · have h1 := nT h1
      refine cx_seq ?_
      refine cx_ops ?_
      first | refine ax_q (q_fadr_ptr rfl) ?_ | refine ax_q (q_fadr_rptr rfl) ?_ | refine ax_q (q_fadr_ip rfl) ?_
      first | refine ax_q (q_load1_ptr rfl rfl rfl) ?_ | refine ax_q (q_load1_ip rfl) ?_ | refine ax_q (q_load1_rptr rfl rfl rfl rfl) ?_ | refine ax_q (q_load1_rptr rfl rfl (by assumption) rfl) ?_ | refine ax_q (q_load1_rptr rfl rfl (mapAt (by first | assumption | omega)) rfl) ?_
      first | refine ax_q (q_fadr_ptr rfl) ?_ | refine ax_q (q_fadr_rptr rfl) ?_ | refine ax_q (q_fadr_ip rfl) ?_
      first | refine ax_q (q_load1_ptr rfl rfl rfl) ?_ | refine ax_q (q_load1_ip rfl) ?_ | refine ax_q (q_load1_rptr rfl rfl rfl rfl) ?_ | refine ax_q (q_load1_rptr rfl rfl (by assumption) rfl) ?_ | refine ax_q (q_load1_rptr rfl rfl (mapAt (by first | assumption | omega)) rfl) ?_
      refine ax_q (q_ibin rfl rfl rfl) ?_
      first | refine ax_call rfl (vc_pure0 (c_l01Bit  ) hP rfl rfl ?_) | refine ax_call rfl (vc_lend0 (c_l01Bit  ) hP (by repeat (first | exact lal_id _ rfl | exact LAL.nil | refine LAL.cons ?_ ?_ | exact la_id _ rfl | exact LA.lend (lend_whole rfl (by first | (simp; done) | (rw [List.length_map]; rfl))) | refine LA.agg ?_ | refine LA.fn ?_ | refine LA.lend ?_ | exact Lend.d _ | exact Lend.zs _ | exact lend_whole rfl (by first | (simp; done) | (rw [List.length_map]; rfl)) | refine Lend.ptr rfl ?_ | refine Lend.fn ?_ | exact LendL.nil | refine LendL.cons ?_ ?_)) rfl rfl ?_)
      have hbb := @bitI_b (decide (b.N < a.N))
      refine ax_q (q_mul rfl rfl (by omega)) ?_
      refine ax_q (q_sub rfl rfl (by omega)) ?_
      refine ax_q (q_mov rfl) ?_
      refine ax_nil ?_
      refine cx_keep rfl rfl ?_
      refine cx_ret (ret0 rfl rfl ?_)
      exact ⟨by rw [show cmpV a b = cmpI a.N b.N from by unfold cmpV; rw [if_neg (by omega), if_pos h1], cmpI_ne h1]; rfl, rfl⟩
    · have h1 := nF h1
      refine cx_seq ?_
      refine cx_ops ?_
      first | refine ax_q (q_fadr_ptr rfl) ?_ | refine ax_q (q_fadr_rptr rfl) ?_ | refine ax_q (q_fadr_ip rfl) ?_
      first | refine ax_q (q_load1_ptr rfl rfl rfl) ?_ | refine ax_q (q_load1_ip rfl) ?_ | refine ax_q (q_load1_rptr rfl rfl rfl rfl) ?_ | refine ax_q (q_load1_rptr rfl rfl (by assumption) rfl) ?_ | refine ax_q (q_load1_rptr rfl rfl (mapAt (by first | assumption | omega)) rfl) ?_
      first | refine ax_q (q_fadr_ptr rfl) ?_ | refine ax_q (q_fadr_rptr rfl) ?_ | refine ax_q (q_fadr_ip rfl) ?_
      first | refine ax_q (q_load1_ptr rfl rfl rfl) ?_ | refine ax_q (q_load1_ip rfl) ?_ | refine ax_q (q_load1_rptr rfl rfl rfl rfl) ?_ | refine ax_q (q_load1_rptr rfl rfl (by assumption) rfl) ?_ | refine ax_q (q_load1_rptr rfl rfl (mapAt (by first | assumption | omega)) rfl) ?_
      refine ax_q (q_sbin rfl rfl rfl) ?_
      refine ax_q (q_mov rfl) ?_
      refine ax_nil ?_
      refine cx_keep rfl rfl ?_
      refine cx_cond rfl (fun h2 => ?_) (fun h2 => ?_)
      · have h2 := nT h2
        refine cx_seq ?_
        refine cx_ops ?_
        first | refine ax_q (q_fadr_ptr rfl) ?_ | refine ax_q (q_fadr_rptr rfl) ?_ | refine ax_q (q_fadr_ip rfl) ?_
        first | refine ax_q (q_load1_ptr rfl rfl rfl) ?_ | refine ax_q (q_load1_ip rfl) ?_ | refine ax_q (q_load1_rptr rfl rfl rfl rfl) ?_ | refine ax_q (q_load1_rptr rfl rfl (by assumption) rfl) ?_ | refine ax_q (q_load1_rptr rfl rfl (mapAt (by first | assumption | omega)) rfl) ?_
        first | refine ax_q (q_fadr_ptr rfl) ?_ | refine ax_q (q_fadr_rptr rfl) ?_ | refine ax_q (q_fadr_ip rfl) ?_
        first | refine ax_q (q_load1_ptr rfl rfl rfl) ?_ | refine ax_q (q_load1_ip rfl) ?_ | refine ax_q (q_load1_rptr rfl rfl rfl rfl) ?_ | refine ax_q (q_load1_rptr rfl rfl (by assumption) rfl) ?_ | refine ax_q (q_load1_rptr rfl rfl (mapAt (by first | assumption | omega)) rfl) ?_
        refine ax_q (q_sbin rfl rfl rfl) ?_
        first | refine ax_call rfl (vc_pure0 (c_l01Bit  ) hP rfl rfl ?_) | refine ax_call rfl (vc_lend0 (c_l01Bit  ) hP (by repeat (first | exact lal_id _ rfl | exact LAL.nil | refine LAL.cons ?_ ?_ | exact la_id _ rfl | exact LA.lend (lend_whole rfl (by first | (simp; done) | (rw [List.length_map]; rfl))) | refine LA.agg ?_ | refine LA.fn ?_ | refine LA.lend ?_ | exact Lend.d _ | exact Lend.zs _ | exact lend_whole rfl (by first | (simp; done) | (rw [List.length_map]; rfl)) | refine Lend.ptr rfl ?_ | refine Lend.fn ?_ | exact LendL.nil | refine LendL.cons ?_ ?_)) rfl rfl ?_)
        have hbb := @bitI_b (!(Op.bytesLess a.T b.T || decide (a.T = b.T)))
        refine ax_q (q_mul rfl rfl (by omega)) ?_
        refine ax_q (q_sub rfl rfl (by omega)) ?_
        refine ax_q (q_mov rfl) ?_
        refine ax_nil ?_
        refine cx_keep rfl rfl ?_
        refine cx_ret (ret0 rfl rfl ?_)
        exact ⟨by rw [show cmpV a b = cmpS a.T b.T from by unfold cmpV; rw [if_neg (by omega), if_neg (by omega)], cmpS_ne h2]; rfl, rfl⟩
      · have h2 := nF h2
        refine cx_skip ?_
        refine cx_keep rfl rfl ?_
        refine cx_seq ?_
        refine cx_ops ?_
        refine ax_q (q_mov rfl) ?_
        refine ax_nil ?_
        refine cx_keep rfl rfl ?_
        refine cx_ret (ret0 rfl rfl ?_)
        exact ⟨by rw [show cmpV a b = cmpS a.T b.T from by unfold cmpV; rw [if_neg (by omega), if_neg (by omega)], show cmpS a.T b.T = 0 from by unfold cmpS; rw [if_pos h2]]; rfl, rfl⟩


/- loop.example/g00332/spec.l10Bounded -/
def k_c_l10Bounded : XCode :=
  .seq (.ops [.op (some 2) (.alloc [.int .i64 0, .int .i64 0, .str []]),
     .op (some 3) (.mov (.k (.int .i64 0)))])
  (.keep [0, 2] (.seq (.seq (.ops [.op (some 4) (.mov (.t 0)),
      .call (some 5) 45 [.t 4, .k (.int .i64 (-1000000000)), .k (.int .i64 1000000000)],
      .op (some 6) (.not (.t 5))])
   (.keep [0, 2, 6] (.cond (.t 6)
    (.seq (.ops [.op (some 7) (.build [.int .i64 0, .int .i64 0, .str []] []),
        .op none (.store 3 (.t 2) (.t 7)),
        .op (some 3) (.mov (.k (.int .i64 12)))])
     (.keep [2, 3] (.ret)))
    (.skip))))
  (.keep [0, 2] (.seq (.ops [.op (some 8) (.mov (.t 0)),
     .call (some 9) 86 [.t 8],
     .op none (.store 3 (.t 2) (.t 9)),
     .op (some 3) (.mov (.k (.int .i64 0)))])
  (.keep [2, 3] (.ret))))))
theorem k_c_l10Bounded_fits : fitsF Try.prog 105 ⟨10, k_c_l10Bounded, [.cN 2 3, .t 3]⟩ = true := by kernel_rfl
theorem c_l10Bounded {n : Int} : Con Try.prog noMv 105 [int n] [] (fun r h => r = .tup [(bndF n).1.av, int (bndF n).2] ∧ h = []) := by
  refine con_of2 k_c_l10Bounded_fits rfl fun C hP hmv => ?_
  unfold k_c_l10Bounded
  refine cx_seq ?_
  refine cx_ops ?_
  refine ax_e (e_alloc (by decide) rfl rfl) ?_
  refine ax_q (q_mov rfl) ?_
  refine ax_nil ?_
  refine cx_keep rfl rfl ?_
  refine cx_seq ?_
  refine cx_seq ?_
  refine cx_ops ?_
  refine ax_q (q_mov rfl) ?_
  first | refine ax_call rfl (vc_pure0 (c_l01In  ) hP rfl rfl ?_) | refine ax_call rfl (vc_lend0 (c_l01In  ) hP (by repeat (first | exact lal_id _ rfl | exact LAL.nil | refine LAL.cons ?_ ?_ | exact la_id _ rfl | exact LA.lend (lend_whole rfl (by first | (simp; done) | (rw [List.length_map]; rfl))) | refine LA.agg ?_ | refine LA.fn ?_ | refine LA.lend ?_ | exact Lend.d _ | exact Lend.zs _ | exact lend_whole rfl (by first | (simp; done) | (rw [List.length_map]; rfl)) | refine Lend.ptr rfl ?_ | refine Lend.fn ?_ | exact LendL.nil | refine LendL.cons ?_ ?_)) rfl rfl ?_)
  refine ax_q (q_not rfl) ?_
  refine ax_nil ?_
  refine cx_keep rfl rfl ?_
  refine cx_cond rfl (fun h0 => ?_) (fun h0 => ?_)
  · have h0 := bT h0
    refine cx_seq ?_
    refine cx_ops ?_
    refine ax_q (q_build rfl) ?_
    refine ax_e (e_st rfl rfl rfl rfl rfl rfl rfl) ?_
    refine ax_q (q_mov rfl) ?_
    refine ax_nil ?_
    refine cx_keep rfl rfl ?_
    refine cx_ret (ret0 rfl rfl ?_)
    exact ⟨by rw [bnd_no h0]; rfl, rfl⟩
  · have h0 := bF h0
    refine cx_skip ?_
    refine cx_keep rfl rfl ?_
    refine cx_seq ?_
    refine cx_ops ?_
    refine ax_q (q_mov rfl) ?_
    first | refine ax_call rfl (vc_pure0 (c_sInt  ) hP rfl rfl ?_) | refine ax_call rfl (vc_lend0 (c_sInt  ) hP (by repeat (first | exact lal_id _ rfl | exact LAL.nil | refine LAL.cons ?_ ?_ | exact la_id _ rfl | exact LA.lend (lend_whole rfl (by first | (simp; done) | (rw [List.length_map]; rfl))) | refine LA.agg ?_ | refine LA.fn ?_ | refine LA.lend ?_ | exact Lend.d _ | exact Lend.zs _ | exact lend_whole rfl (by first | (simp; done) | (rw [List.length_map]; rfl)) | refine Lend.ptr rfl ?_ | refine Lend.fn ?_ | exact LendL.nil | refine LendL.cons ?_ ?_)) rfl rfl ?_)
    refine ax_e (e_st rfl rfl rfl rfl rfl rfl rfl) ?_
    refine ax_q (q_mov rfl) ?_
    refine ax_nil ?_
    refine cx_keep rfl rfl ?_
    refine cx_ret (ret0 rfl rfl ?_)
    exact ⟨by rw [bnd_yes h0]; rfl, rfl⟩


/- loop.example/g00332/spec.l10Binary -/
def k_c_sBinary : XCode :=
  .seq (.ops [.op (some 4) (.box (.t 1)),
     .op (some 5) (.box (.t 2)),
     .op (some 6) (.alloc [.int .i64 0, .int .i64 0, .str []]),
     .op (some 7) (.mov (.k (.int .i64 0)))])
  (.keep [0, 4, 5, 6] (.seq (.seq (.ops [.op (some 12) (.mov (.t 0)),
      .op (some 13) (.bin .eql (.t 12) (.k (.int .i64 12))),
      .op (some 14) (.mov (.t 13)),
      .andor 17 false 2 14 [.op (some 15) (.mov (.t 0)), .op (some 16) (.bin .eql (.t 15) (.k (.int .i64 13)))] (.t 16)])
   (.keep [0, 4, 5, 6, 17] (.cond (.t 17)
    (.seq (.seq (.ops [.op (some 18) (.fadr (.t 4) 0),
         .op (some 19) (.load1 (.t 18)),
         .op (some 20) (.bin .eql (.t 19) (.k (.int .i64 2))),
         .op (some 21) (.mov (.t 20)),
         .andor 25 false 3 21 [.op (some 22) (.fadr (.t 5) 0), .op (some 23) (.load1 (.t 22)), .op (some 24) (.bin .eql (.t 23) (.k (.int .i64 2)))] (.t 24)])
      (.keep [0, 4, 5, 6, 25] (.cond (.t 25)
       (.seq (.ops [.op (some 26) (.build [.int .i64 0, .int .i64 0, .str []] []),
           .op none (.store 3 (.t 6) (.t 26)),
           .op (some 7) (.mov (.k (.int .i64 10)))])
        (.keep [6, 7] (.ret)))
       (.skip))))
     (.keep [0, 4, 5, 6] (.seq (.ops [.op (some 27) (.fadr (.t 4) 0),
        .op (some 28) (.load1 (.t 27)),
        .op (some 29) (.bin .eql (.t 28) (.k (.int .i64 1))),
        .op (some 30) (.mov (.t 29)),
        .andor 34 true 3 30 [.op (some 31) (.fadr (.t 4) 1), .op (some 32) (.load1 (.t 31)), .op (some 33) (.bin .eql (.t 32) (.k (.int .i64 0)))] (.t 33),
        .op (some 35) (.mov (.t 34)),
        .andor 44 false 8 35 [.op (some 36) (.fadr (.t 5) 0), .op (some 37) (.load1 (.t 36)), .op (some 38) (.bin .eql (.t 37) (.k (.int .i64 1))), .op (some 39) (.mov (.t 38)), .andor 43 true 12 39 [.op (some 40) (.fadr (.t 5) 1), .op (some 41) (.load1 (.t 40)), .op (some 42) (.bin .eql (.t 41) (.k (.int .i64 0)))] (.t 42)] (.t 43),
        .op (some 8) (.mov (.t 44))])
     (.keep [0, 4, 5, 6, 8] (.seq (.ops [.op (some 45) (.fadr (.t 4) 0),
        .op (some 46) (.load1 (.t 45)),
        .op (some 47) (.bin .eql (.t 46) (.k (.int .i64 1))),
        .op (some 48) (.mov (.t 47)),
        .andor 52 true 3 48 [.op (some 49) (.fadr (.t 4) 1), .op (some 50) (.load1 (.t 49)), .op (some 51) (.bin .neq (.t 50) (.k (.int .i64 0)))] (.t 51),
        .op (some 53) (.mov (.t 52)),
        .andor 62 false 8 53 [.op (some 54) (.fadr (.t 5) 0), .op (some 55) (.load1 (.t 54)), .op (some 56) (.bin .eql (.t 55) (.k (.int .i64 1))), .op (some 57) (.mov (.t 56)), .andor 61 true 12 57 [.op (some 58) (.fadr (.t 5) 1), .op (some 59) (.load1 (.t 58)), .op (some 60) (.bin .neq (.t 59) (.k (.int .i64 0)))] (.t 60)] (.t 61),
        .op (some 9) (.mov (.t 62))])
     (.keep [0, 4, 5, 6, 8, 9] (.seq (.ops [.op (some 63) (.fadr (.t 4) 0),
        .op (some 64) (.load1 (.t 63)),
        .op (some 65) (.bin .eql (.t 64) (.k (.int .i64 0))),
        .op (some 66) (.mov (.t 65)),
        .andor 70 false 3 66 [.op (some 67) (.fadr (.t 5) 0), .op (some 68) (.load1 (.t 67)), .op (some 69) (.bin .eql (.t 68) (.k (.int .i64 0)))] (.t 69),
        .op (some 10) (.mov (.t 70))])
     (.keep [0, 6, 8, 9, 10] (.seq (.block 0 (.seq (.ops [.op (some 72) (.mov (.t 0)),
          .op (some 73) (.bin .eql (.t 72) (.k (.int .i64 12))),
          .op (some 74) (.mov (.t 73)),
          .andor 76 true 2 74 [.op (some 75) (.mov (.t 8))] (.t 75),
          .op (some 71) (.mov (.t 76))])
       (.keep [0, 6, 9, 10, 71] (.cond (.t 71)
        (.seq (.ops [.call (some 77) 86 [.k (.int .i64 0)],
            .op none (.store 3 (.t 6) (.t 77)),
            .op (some 7) (.mov (.k (.int .i64 0)))])
         (.keep [6, 7] (.ret)))
        (.seq (.ops [.op (some 79) (.mov (.t 0)),
            .op (some 80) (.bin .eql (.t 79) (.k (.int .i64 13))),
            .op (some 81) (.mov (.t 80)),
            .andor 83 true 2 81 [.op (some 82) (.mov (.t 9))] (.t 82),
            .op (some 78) (.mov (.t 83))])
         (.keep [0, 6, 10, 78] (.cond (.t 78)
          (.seq (.ops [.call (some 84) 86 [.k (.int .i64 1)],
              .op none (.store 3 (.t 6) (.t 84)),
              .op (some 7) (.mov (.k (.int .i64 0)))])
           (.keep [6, 7] (.ret)))
          (.seq (.ops [.op (some 86) (.mov (.t 10)),
              .op (some 85) (.mov (.t 86))])
           (.keep [0, 6, 85] (.cond (.t 85)
            (.seq (.ops [.op (some 87) (.build [.int .i64 0, .int .i64 0, .str []] []),
                .op none (.store 3 (.t 6) (.t 87)),
                .op (some 7) (.mov (.k (.int .i64 0)))])
             (.keep [6, 7] (.ret)))
            (.skip)))))))))))
     (.keep [0, 6] (.seq (.ops [.op (some 88) (.mov (.t 0)),
        .op (some 89) (.bin .eql (.t 88) (.k (.int .i64 12))),
        .call (some 90) 80 [.t 89],
        .call (some 91) 86 [.t 90],
        .op none (.store 3 (.t 6) (.t 91)),
        .op (some 7) (.mov (.k (.int .i64 0)))])
     (.keep [6, 7] (.ret)))))))))))))
    (.skip))))
  (.keep [0, 4, 5, 6] (.seq (.ops [.op (some 92) (.mov (.t 0)),
     .op (some 93) (.bin .eql (.t 92) (.k (.int .i64 10))),
     .op (some 94) (.mov (.t 93)),
     .andor 97 false 2 94 [.op (some 95) (.mov (.t 0)), .op (some 96) (.bin .eql (.t 95) (.k (.int .i64 11)))] (.t 96),
     .op (some 11) (.mov (.t 97))])
  (.keep [0, 4, 5, 6, 11] (.seq (.seq (.ops [.op (some 98) (.mov (.t 11)),
      .op (some 99) (.not (.t 98)),
      .op (some 100) (.mov (.t 99)),
      .andor 109 true 2 100 [.op (some 101) (.fadr (.t 4) 0), .op (some 102) (.load1 (.t 101)), .op (some 103) (.bin .eql (.t 102) (.k (.int .i64 2))), .op (some 104) (.mov (.t 103)), .andor 108 false 6 104 [.op (some 105) (.fadr (.t 5) 0), .op (some 106) (.load1 (.t 105)), .op (some 107) (.bin .eql (.t 106) (.k (.int .i64 2)))] (.t 107)] (.t 108)])
   (.keep [0, 4, 5, 6, 109] (.cond (.t 109)
    (.seq (.ops [.op (some 110) (.build [.int .i64 0, .int .i64 0, .str []] []),
        .op none (.store 3 (.t 6) (.t 110)),
        .op (some 7) (.mov (.k (.int .i64 10)))])
     (.keep [6, 7] (.ret)))
    (.skip))))
  (.keep [0, 4, 5, 6] (.seq (.seq (.ops [.op (some 111) (.fadr (.t 4) 0),
      .op (some 112) (.load1 (.t 111)),
      .op (some 113) (.bin .eql (.t 112) (.k (.int .i64 0))),
      .op (some 114) (.mov (.t 113)),
      .andor 118 false 3 114 [.op (some 115) (.fadr (.t 5) 0), .op (some 116) (.load1 (.t 115)), .op (some 117) (.bin .eql (.t 116) (.k (.int .i64 0)))] (.t 117)])
   (.keep [0, 4, 5, 6, 118] (.cond (.t 118)
    (.seq (.ops [.op (some 119) (.build [.int .i64 0, .int .i64 0, .str []] []),
        .op none (.store 3 (.t 6) (.t 119)),
        .op (some 7) (.mov (.k (.int .i64 0)))])
     (.keep [6, 7] (.ret)))
    (.skip))))
  (.keep [0, 4, 5, 6] (.seq (.seq (.ops [.op (some 120) (.fadr (.t 4) 0),
      .op (some 121) (.load1 (.t 120)),
      .op (some 122) (.fadr (.t 5) 0),
      .op (some 123) (.load1 (.t 122)),
      .op (some 124) (.bin .neq (.t 121) (.t 123))])
   (.keep [0, 4, 5, 6, 124] (.cond (.t 124)
    (.seq (.ops [.op (some 125) (.build [.int .i64 0, .int .i64 0, .str []] []),
        .op none (.store 3 (.t 6) (.t 125)),
        .op (some 7) (.mov (.k (.int .i64 10)))])
     (.keep [6, 7] (.ret)))
    (.skip))))
  (.keep [0, 4, 5, 6] (.seq (.seq (.ops [.op (some 126) (.mov (.t 0))])
   (.keep [4, 5, 6, 126] (.block 1 (.seq (.ops [.op (some 128) (.bin .eql (.t 126) (.k (.int .i64 10))),
       .op (some 127) (.mov (.t 128))])
    (.keep [4, 5, 6, 126, 127] (.cond (.t 127)
     (.seq (.ops [.op (some 129) (.loadN 3 (.t 4)),
         .op (some 130) (.loadN 3 (.t 5)),
         .op (some 131) (.eqs false [0, 0, 2] (.t 129) (.t 130)),
         .call (some 132) 80 [.t 131],
         .call (some 133) 86 [.t 132],
         .op none (.store 3 (.t 6) (.t 133)),
         .op (some 7) (.mov (.k (.int .i64 0)))])
      (.keep [6, 7] (.ret)))
     (.seq (.ops [.op (some 135) (.bin .eql (.t 126) (.k (.int .i64 11))),
         .op (some 134) (.mov (.t 135))])
      (.keep [4, 5, 6, 126, 134] (.cond (.t 134)
       (.seq (.ops [.op (some 136) (.loadN 3 (.t 4)),
           .op (some 137) (.loadN 3 (.t 5)),
           .call (some 138) 104 [.t 136, .t 137],
           .op (some 139) (.bin .lss (.t 138) (.k (.int .i64 0))),
           .call (some 140) 80 [.t 139],
           .call (some 141) 86 [.t 140],
           .op none (.store 3 (.t 6) (.t 141)),
           .op (some 7) (.mov (.k (.int .i64 0)))])
        (.keep [6, 7] (.ret)))
       (.seq (.ops [.op (some 143) (.bin .eql (.t 126) (.k (.int .i64 6))),
           .op (some 142) (.mov (.t 143))])
        (.keep [4, 5, 6, 126, 142] (.cond (.t 142)
         (.seq (.ops [.op (some 144) (.fadr (.t 4) 1),
             .op (some 145) (.load1 (.t 144)),
             .op (some 146) (.fadr (.t 5) 1),
             .op (some 147) (.load1 (.t 146)),
             .op (some 148) (.bin .add (.t 145) (.t 147)),
             .call (some 149) 105 [.t 148],
             .op (some 150) (.ext (.t 149) 0),
             .op (some 151) (.ext (.t 149) 1),
             .op none (.store 3 (.t 6) (.t 150)),
             .op (some 7) (.mov (.t 151))])
          (.keep [6, 7] (.ret)))
         (.seq (.ops [.op (some 153) (.bin .eql (.t 126) (.k (.int .i64 7))),
             .op (some 152) (.mov (.t 153))])
          (.keep [4, 5, 6, 126, 152] (.cond (.t 152)
           (.seq (.ops [.op (some 154) (.fadr (.t 4) 1),
               .op (some 155) (.load1 (.t 154)),
               .op (some 156) (.fadr (.t 5) 1),
               .op (some 157) (.load1 (.t 156)),
               .op (some 158) (.bin .sub (.t 155) (.t 157)),
               .call (some 159) 105 [.t 158],
               .op (some 160) (.ext (.t 159) 0),
               .op (some 161) (.ext (.t 159) 1),
               .op none (.store 3 (.t 6) (.t 160)),
               .op (some 7) (.mov (.t 161))])
            (.keep [6, 7] (.ret)))
           (.seq (.ops [.op (some 163) (.bin .eql (.t 126) (.k (.int .i64 8))),
               .op (some 162) (.mov (.t 163))])
            (.keep [4, 5, 6, 162] (.cond (.t 162)
             (.seq (.ops [.op (some 164) (.fadr (.t 4) 1),
                 .op (some 165) (.load1 (.t 164)),
                 .op (some 166) (.fadr (.t 5) 1),
                 .op (some 167) (.load1 (.t 166)),
                 .op (some 168) (.bin .mul (.t 165) (.t 167)),
                 .call (some 169) 105 [.t 168],
                 .op (some 170) (.ext (.t 169) 0),
                 .op (some 171) (.ext (.t 169) 1),
                 .op none (.store 3 (.t 6) (.t 170)),
                 .op (some 7) (.mov (.t 171))])
              (.keep [6, 7] (.ret)))
             (.skip)))))))))))))))))))
  (.keep [4, 5, 6] (.seq (.seq (.ops [.op (some 172) (.fadr (.t 5) 1),
      .op (some 173) (.load1 (.t 172)),
      .op (some 174) (.bin .eql (.t 173) (.k (.int .i64 0)))])
   (.keep [4, 5, 6, 174] (.cond (.t 174)
    (.seq (.ops [.op (some 175) (.build [.int .i64 0, .int .i64 0, .str []] []),
        .op none (.store 3 (.t 6) (.t 175)),
        .op (some 7) (.mov (.k (.int .i64 11)))])
     (.keep [6, 7] (.ret)))
    (.skip))))
  (.keep [4, 5, 6] (.seq (.ops [.op (some 176) (.fadr (.t 4) 1),
     .op (some 177) (.load1 (.t 176)),
     .op (some 178) (.fadr (.t 5) 1),
     .op (some 179) (.load1 (.t 178)),
     .op (some 180) (.bin .quo (.t 177) (.t 179)),
     .call (some 181) 105 [.t 180],
     .op (some 182) (.ext (.t 181) 0),
     .op (some 183) (.ext (.t 181) 1),
     .op none (.store 3 (.t 6) (.t 182)),
     .op (some 7) (.mov (.t 183))])
  (.keep [6, 7] (.ret))))))))))))))))))
theorem k_c_sBinary_fits : fitsF Try.prog 87 ⟨184, k_c_sBinary, [.cN 6 3, .t 7]⟩ = true := by kernel_rfl
set_option maxHeartbeats 4000000 in
theorem c_sBinary {op : Int} {a b : GValue} (ha : RV a) (hb : RV b) : Con Try.prog noMv 87 [int op, a.av, b.av] [] (fun r h => r = .tup [(binF op a b).1.av, int (binF op a b).2] ∧ h = []) := by
  refine con_of2 k_c_sBinary_fits rfl fun C hP hmv => ?_
  unfold k_c_sBinary
  have hn := ha.n; have hm := hb.n; have hmul := mulB hn hm; have hka := ha.k; have hkb := hb.k
  refine cx_seq ?_
  refine cx_ops ?_
  refine ax_e (e_box rfl rfl (by decide) rfl rfl rfl) ?_
  refine ax_e (e_box rfl rfl (by decide) rfl rfl rfl) ?_
  refine ax_e (e_alloc (by decide) rfl rfl) ?_
  refine ax_q (q_mov rfl) ?_
  refine ax_nil ?_
  refine cx_keep rfl rfl ?_
  refine cx_seq ?_
  refine cx_seq ?_
  refine cx_ops ?_
  refine ax_q (q_mov rfl) ?_
  refine ax_q (q_ibin rfl rfl rfl) ?_
  refine ax_q (q_mov rfl) ?_
  apply ax_or rfl rfl
  · intro g
    have g := dF g
    refine ax_q (q_mov rfl) ?_
    refine ax_q (q_ibin rfl rfl rfl) ?_
    exact ax_nil ⟨rfl, by repeat (first | exact trivial | refine ⟨rfl, ?_⟩ | refine ⟨?_, ?_⟩)⟩
  refine ax_nil ?_
  refine cx_keep rfl rfl ?_
  refine cx_cond rfl (fun h0 => ?_) (fun h0 => ?_)
  · have h0 := (fun h => (or_T h).imp dT dT) h0
    refine cx_seq ?_
    refine cx_seq ?_
    refine cx_ops ?_
    first | refine ax_q (q_fadr_ptr rfl) ?_ | refine ax_q (q_fadr_rptr rfl) ?_ | refine ax_q (q_fadr_ip rfl) ?_
    first | refine ax_q (q_load1_ptr rfl rfl rfl) ?_ | refine ax_q (q_load1_ip rfl) ?_ | refine ax_q (q_load1_rptr rfl rfl rfl rfl) ?_ | refine ax_q (q_load1_rptr rfl rfl (by assumption) rfl) ?_ | refine ax_q (q_load1_rptr rfl rfl (mapAt (by first | assumption | omega)) rfl) ?_
    refine ax_q (q_ibin rfl rfl rfl) ?_
    refine ax_q (q_mov rfl) ?_
    apply ax_or rfl rfl
    · intro g
      have g := dF g
      first | refine ax_q (q_fadr_ptr rfl) ?_ | refine ax_q (q_fadr_rptr rfl) ?_ | refine ax_q (q_fadr_ip rfl) ?_
      first | refine ax_q (q_load1_ptr rfl rfl rfl) ?_ | refine ax_q (q_load1_ip rfl) ?_ | refine ax_q (q_load1_rptr rfl rfl rfl rfl) ?_ | refine ax_q (q_load1_rptr rfl rfl (by assumption) rfl) ?_ | refine ax_q (q_load1_rptr rfl rfl (mapAt (by first | assumption | omega)) rfl) ?_
      refine ax_q (q_ibin rfl rfl rfl) ?_
      exact ax_nil ⟨rfl, by repeat (first | exact trivial | refine ⟨rfl, ?_⟩ | refine ⟨?_, ?_⟩)⟩
    refine ax_nil ?_
    refine cx_keep rfl rfl ?_
    refine cx_cond rfl (fun h1 => ?_) (fun h1 => ?_)
    · have h1 := (fun h => (or_T h).imp dT dT) h1
      refine cx_seq ?_
      refine cx_ops ?_
      refine ax_q (q_build rfl) ?_
      refine ax_e (e_st rfl rfl rfl rfl rfl rfl rfl) ?_
      refine ax_q (q_mov rfl) ?_
      refine ax_nil ?_
      refine cx_keep rfl rfl ?_
      refine cx_ret (ret0 rfl rfl ?_)
      have e : binF op a b = (.zero, 10) := by unfold binF; rw [if_pos (by omega)]; unfold conF; rw [if_pos h1]
      exact ⟨by rw [e]; rfl, rfl⟩
    · have h1 := (fun h => And.intro (dF (or_F h).1) (dF (or_F h).2)) h1
      refine cx_skip ?_
      refine cx_keep rfl rfl ?_
      refine cx_seq ?_
      refine cx_ops ?_
      first | refine ax_q (q_fadr_ptr rfl) ?_ | refine ax_q (q_fadr_rptr rfl) ?_ | refine ax_q (q_fadr_ip rfl) ?_
      first | refine ax_q (q_load1_ptr rfl rfl rfl) ?_ | refine ax_q (q_load1_ip rfl) ?_ | refine ax_q (q_load1_rptr rfl rfl rfl rfl) ?_ | refine ax_q (q_load1_rptr rfl rfl (by assumption) rfl) ?_ | refine ax_q (q_load1_rptr rfl rfl (mapAt (by first | assumption | omega)) rfl) ?_
      refine ax_q (q_ibin rfl rfl rfl) ?_
      refine ax_q (q_mov rfl) ?_
      apply ax_and rfl rfl
      · intro g
        have g := dT g
        first | refine ax_q (q_fadr_ptr rfl) ?_ | refine ax_q (q_fadr_rptr rfl) ?_ | refine ax_q (q_fadr_ip rfl) ?_
        first | refine ax_q (q_load1_ptr rfl rfl rfl) ?_ | refine ax_q (q_load1_ip rfl) ?_ | refine ax_q (q_load1_rptr rfl rfl rfl rfl) ?_ | refine ax_q (q_load1_rptr rfl rfl (by assumption) rfl) ?_ | refine ax_q (q_load1_rptr rfl rfl (mapAt (by first | assumption | omega)) rfl) ?_
        refine ax_q (q_ibin rfl rfl rfl) ?_
        exact ax_nil ⟨rfl, by repeat (first | exact trivial | refine ⟨rfl, ?_⟩ | refine ⟨?_, ?_⟩)⟩
      refine ax_q (q_mov rfl) ?_
      apply ax_or rfl rfl
      · intro g
        have g := (fun h => (and_F h).imp dF dF) g
        first | refine ax_q (q_fadr_ptr rfl) ?_ | refine ax_q (q_fadr_rptr rfl) ?_ | refine ax_q (q_fadr_ip rfl) ?_
        first | refine ax_q (q_load1_ptr rfl rfl rfl) ?_ | refine ax_q (q_load1_ip rfl) ?_ | refine ax_q (q_load1_rptr rfl rfl rfl rfl) ?_ | refine ax_q (q_load1_rptr rfl rfl (by assumption) rfl) ?_ | refine ax_q (q_load1_rptr rfl rfl (mapAt (by first | assumption | omega)) rfl) ?_
        refine ax_q (q_ibin rfl rfl rfl) ?_
        refine ax_q (q_mov rfl) ?_
        apply ax_and rfl rfl
        · intro g
          have g := dT g
          first | refine ax_q (q_fadr_ptr rfl) ?_ | refine ax_q (q_fadr_rptr rfl) ?_ | refine ax_q (q_fadr_ip rfl) ?_
          first | refine ax_q (q_load1_ptr rfl rfl rfl) ?_ | refine ax_q (q_load1_ip rfl) ?_ | refine ax_q (q_load1_rptr rfl rfl rfl rfl) ?_ | refine ax_q (q_load1_rptr rfl rfl (by assumption) rfl) ?_ | refine ax_q (q_load1_rptr rfl rfl (mapAt (by first | assumption | omega)) rfl) ?_
          refine ax_q (q_ibin rfl rfl rfl) ?_
          exact ax_nil ⟨rfl, by repeat (first | exact trivial | refine ⟨rfl, ?_⟩ | refine ⟨?_, ?_⟩)⟩
        exact ax_nil ⟨rfl, by repeat (first | exact trivial | refine ⟨rfl, ?_⟩ | refine ⟨?_, ?_⟩)⟩
      refine ax_q (q_mov rfl) ?_
      refine ax_nil ?_
      refine cx_keep rfl rfl ?_
      refine cx_seq ?_
      refine cx_ops ?_
      first | refine ax_q (q_fadr_ptr rfl) ?_ | refine ax_q (q_fadr_rptr rfl) ?_ | refine ax_q (q_fadr_ip rfl) ?_
      first | refine ax_q (q_load1_ptr rfl rfl rfl) ?_ | refine ax_q (q_load1_ip rfl) ?_ | refine ax_q (q_load1_rptr rfl rfl rfl rfl) ?_ | refine ax_q (q_load1_rptr rfl rfl (by assumption) rfl) ?_ | refine ax_q (q_load1_rptr rfl rfl (mapAt (by first | assumption | omega)) rfl) ?_
      refine ax_q (q_ibin rfl rfl rfl) ?_
      refine ax_q (q_mov rfl) ?_
      apply ax_and rfl rfl
      · intro g
        have g := dT g
        first | refine ax_q (q_fadr_ptr rfl) ?_ | refine ax_q (q_fadr_rptr rfl) ?_ | refine ax_q (q_fadr_ip rfl) ?_
        first | refine ax_q (q_load1_ptr rfl rfl rfl) ?_ | refine ax_q (q_load1_ip rfl) ?_ | refine ax_q (q_load1_rptr rfl rfl rfl rfl) ?_ | refine ax_q (q_load1_rptr rfl rfl (by assumption) rfl) ?_ | refine ax_q (q_load1_rptr rfl rfl (mapAt (by first | assumption | omega)) rfl) ?_
        refine ax_q (q_ibin rfl rfl rfl) ?_
        exact ax_nil ⟨rfl, by repeat (first | exact trivial | refine ⟨rfl, ?_⟩ | refine ⟨?_, ?_⟩)⟩
      refine ax_q (q_mov rfl) ?_
      apply ax_or rfl rfl
      · intro g
        have g := (fun h => (and_F h).imp dF nF) g
        first | refine ax_q (q_fadr_ptr rfl) ?_ | refine ax_q (q_fadr_rptr rfl) ?_ | refine ax_q (q_fadr_ip rfl) ?_
        first | refine ax_q (q_load1_ptr rfl rfl rfl) ?_ | refine ax_q (q_load1_ip rfl) ?_ | refine ax_q (q_load1_rptr rfl rfl rfl rfl) ?_ | refine ax_q (q_load1_rptr rfl rfl (by assumption) rfl) ?_ | refine ax_q (q_load1_rptr rfl rfl (mapAt (by first | assumption | omega)) rfl) ?_
        refine ax_q (q_ibin rfl rfl rfl) ?_
        refine ax_q (q_mov rfl) ?_
        apply ax_and rfl rfl
        · intro g
          have g := dT g
          first | refine ax_q (q_fadr_ptr rfl) ?_ | refine ax_q (q_fadr_rptr rfl) ?_ | refine ax_q (q_fadr_ip rfl) ?_
          first | refine ax_q (q_load1_ptr rfl rfl rfl) ?_ | refine ax_q (q_load1_ip rfl) ?_ | refine ax_q (q_load1_rptr rfl rfl rfl rfl) ?_ | refine ax_q (q_load1_rptr rfl rfl (by assumption) rfl) ?_ | refine ax_q (q_load1_rptr rfl rfl (mapAt (by first | assumption | omega)) rfl) ?_
          refine ax_q (q_ibin rfl rfl rfl) ?_
          exact ax_nil ⟨rfl, by repeat (first | exact trivial | refine ⟨rfl, ?_⟩ | refine ⟨?_, ?_⟩)⟩
        exact ax_nil ⟨rfl, by repeat (first | exact trivial | refine ⟨rfl, ?_⟩ | refine ⟨?_, ?_⟩)⟩
      refine ax_q (q_mov rfl) ?_
      refine ax_nil ?_
      refine cx_keep rfl rfl ?_
      refine cx_seq ?_
      refine cx_ops ?_
      first | refine ax_q (q_fadr_ptr rfl) ?_ | refine ax_q (q_fadr_rptr rfl) ?_ | refine ax_q (q_fadr_ip rfl) ?_
      first | refine ax_q (q_load1_ptr rfl rfl rfl) ?_ | refine ax_q (q_load1_ip rfl) ?_ | refine ax_q (q_load1_rptr rfl rfl rfl rfl) ?_ | refine ax_q (q_load1_rptr rfl rfl (by assumption) rfl) ?_ | refine ax_q (q_load1_rptr rfl rfl (mapAt (by first | assumption | omega)) rfl) ?_
      refine ax_q (q_ibin rfl rfl rfl) ?_
      refine ax_q (q_mov rfl) ?_
      apply ax_or rfl rfl
      · intro g
        have g := dF g
        first | refine ax_q (q_fadr_ptr rfl) ?_ | refine ax_q (q_fadr_rptr rfl) ?_ | refine ax_q (q_fadr_ip rfl) ?_
        first | refine ax_q (q_load1_ptr rfl rfl rfl) ?_ | refine ax_q (q_load1_ip rfl) ?_ | refine ax_q (q_load1_rptr rfl rfl rfl rfl) ?_ | refine ax_q (q_load1_rptr rfl rfl (by assumption) rfl) ?_ | refine ax_q (q_load1_rptr rfl rfl (mapAt (by first | assumption | omega)) rfl) ?_
        refine ax_q (q_ibin rfl rfl rfl) ?_
        exact ax_nil ⟨rfl, by repeat (first | exact trivial | refine ⟨rfl, ?_⟩ | refine ⟨?_, ?_⟩)⟩
      refine ax_q (q_mov rfl) ?_
      refine ax_nil ?_
      refine cx_keep rfl rfl ?_
      refine cx_seq ?_
      refine cx_block ?_
      refine cx_seq ?_
      refine cx_ops ?_
      refine ax_q (q_mov rfl) ?_
      refine ax_q (q_ibin rfl rfl rfl) ?_
      refine ax_q (q_mov rfl) ?_
      apply ax_and rfl rfl
      · intro g
        have g := dT g
        refine ax_q (q_mov rfl) ?_
        exact ax_nil ⟨rfl, by repeat (first | exact trivial | refine ⟨rfl, ?_⟩ | refine ⟨?_, ?_⟩)⟩
      refine ax_q (q_mov rfl) ?_
      refine ax_nil ?_
      refine cx_keep rfl rfl ?_
      refine cx_cond rfl (fun h2 => ?_) (fun h2 => ?_)
      · have h2 := (fun h => And.intro (dT (and_T h).1) ((fun h => (or_T h).imp (fun h => And.intro (dT (and_T h).1) (dT (and_T h).2)) (fun h => And.intro (dT (and_T h).1) (dT (and_T h).2))) (and_T h).2)) h2
        refine cx_seq ?_
        refine cx_ops ?_
        first | refine ax_call rfl (vc_pure0 (c_sInt  ) hP rfl rfl ?_) | refine ax_call rfl (vc_lend0 (c_sInt  ) hP (by repeat (first | exact lal_id _ rfl | exact LAL.nil | refine LAL.cons ?_ ?_ | exact la_id _ rfl | exact LA.lend (lend_whole rfl (by first | (simp; done) | (rw [List.length_map]; rfl))) | refine LA.agg ?_ | refine LA.fn ?_ | refine LA.lend ?_ | exact Lend.d _ | exact Lend.zs _ | exact lend_whole rfl (by first | (simp; done) | (rw [List.length_map]; rfl)) | refine Lend.ptr rfl ?_ | refine Lend.fn ?_ | exact LendL.nil | refine LendL.cons ?_ ?_)) rfl rfl ?_)
        refine ax_e (e_st rfl rfl rfl rfl rfl rfl rfl) ?_
        refine ax_q (q_mov rfl) ?_
        refine ax_nil ?_
        refine cx_keep rfl rfl ?_
        refine cx_ret (ret0 rfl rfl ?_)
        have e : binF op a b = (vI 0, 0) := by unfold binF; rw [if_pos (by omega)]; unfold conF; rw [if_neg (by omega), if_pos (by simp only [isZ_iff, isO_iff]; omega)]
        exact ⟨by rw [e]; rfl, rfl⟩
      · have h2 := (fun h => (and_F h).imp dF (fun h => And.intro ((fun h => (and_F h).imp dF dF) (or_F h).1) ((fun h => (and_F h).imp dF dF) (or_F h).2))) h2
        refine cx_seq ?_
        refine cx_ops ?_
        refine ax_q (q_mov rfl) ?_
        refine ax_q (q_ibin rfl rfl rfl) ?_
        refine ax_q (q_mov rfl) ?_
        apply ax_and rfl rfl
        · intro g
          have g := dT g
          refine ax_q (q_mov rfl) ?_
          exact ax_nil ⟨rfl, by repeat (first | exact trivial | refine ⟨rfl, ?_⟩ | refine ⟨?_, ?_⟩)⟩
        refine ax_q (q_mov rfl) ?_
        refine ax_nil ?_
        refine cx_keep rfl rfl ?_
        refine cx_cond rfl (fun h3 => ?_) (fun h3 => ?_)
        · have h3 := (fun h => And.intro (dT (and_T h).1) ((fun h => (or_T h).imp (fun h => And.intro (dT (and_T h).1) (nT (and_T h).2)) (fun h => And.intro (dT (and_T h).1) (nT (and_T h).2))) (and_T h).2)) h3
          refine cx_seq ?_
          refine cx_ops ?_
          first | refine ax_call rfl (vc_pure0 (c_sInt  ) hP rfl rfl ?_) | refine ax_call rfl (vc_lend0 (c_sInt  ) hP (by repeat (first | exact lal_id _ rfl | exact LAL.nil | refine LAL.cons ?_ ?_ | exact la_id _ rfl | exact LA.lend (lend_whole rfl (by first | (simp; done) | (rw [List.length_map]; rfl))) | refine LA.agg ?_ | refine LA.fn ?_ | refine LA.lend ?_ | exact Lend.d _ | exact Lend.zs _ | exact lend_whole rfl (by first | (simp; done) | (rw [List.length_map]; rfl)) | refine Lend.ptr rfl ?_ | refine Lend.fn ?_ | exact LendL.nil | refine LendL.cons ?_ ?_)) rfl rfl ?_)
          refine ax_e (e_st rfl rfl rfl rfl rfl rfl rfl) ?_
          refine ax_q (q_mov rfl) ?_
          refine ax_nil ?_
          refine cx_keep rfl rfl ?_
          refine cx_ret (ret0 rfl rfl ?_)
          have e : binF op a b = (vI 1, 0) := by unfold binF; rw [if_pos (by omega)]; unfold conF; rw [if_neg (by omega), if_neg (by simp only [isZ_iff, isO_iff]; omega), if_pos (by simp only [isZ_iff, isO_iff]; omega)]
          exact ⟨by rw [e]; rfl, rfl⟩
        · have h3 := (fun h => (and_F h).imp dF (fun h => And.intro ((fun h => (and_F h).imp dF nF) (or_F h).1) ((fun h => (and_F h).imp dF nF) (or_F h).2))) h3
          refine cx_seq ?_
          refine cx_ops ?_
          refine ax_q (q_mov rfl) ?_
          refine ax_q (q_mov rfl) ?_
          refine ax_nil ?_
          refine cx_keep rfl rfl ?_
          refine cx_cond rfl (fun h4 => ?_) (fun h4 => ?_)
          · have h4 := (fun h => (or_T h).imp dT dT) h4
            refine cx_seq ?_
            refine cx_ops ?_
            refine ax_q (q_build rfl) ?_
            refine ax_e (e_st rfl rfl rfl rfl rfl rfl rfl) ?_
            refine ax_q (q_mov rfl) ?_
            refine ax_nil ?_
            refine cx_keep rfl rfl ?_
            refine cx_ret (ret0 rfl rfl ?_)
            have e : binF op a b = (.zero, 0) := by unfold binF; rw [if_pos (by omega)]; unfold conF; rw [if_neg (by omega), if_neg (by simp only [isZ_iff, isO_iff]; omega), if_neg (by simp only [isZ_iff, isO_iff]; omega), if_pos (by omega)]
            exact ⟨by rw [e]; rfl, rfl⟩
          · have h4 := (fun h => And.intro (dF (or_F h).1) (dF (or_F h).2)) h4
            refine cx_skip ?_
            refine cx_keep rfl rfl ?_
            refine cx_seq ?_
            refine cx_ops ?_
            refine ax_q (q_mov rfl) ?_
            refine ax_q (q_ibin rfl rfl rfl) ?_
            first | refine ax_call rfl (vc_pure0 (c_l01Bit  ) hP rfl rfl ?_) | refine ax_call rfl (vc_lend0 (c_l01Bit  ) hP (by repeat (first | exact lal_id _ rfl | exact LAL.nil | refine LAL.cons ?_ ?_ | exact la_id _ rfl | exact LA.lend (lend_whole rfl (by first | (simp; done) | (rw [List.length_map]; rfl))) | refine LA.agg ?_ | refine LA.fn ?_ | refine LA.lend ?_ | exact Lend.d _ | exact Lend.zs _ | exact lend_whole rfl (by first | (simp; done) | (rw [List.length_map]; rfl)) | refine Lend.ptr rfl ?_ | refine Lend.fn ?_ | exact LendL.nil | refine LendL.cons ?_ ?_)) rfl rfl ?_)
            first | refine ax_call rfl (vc_pure0 (c_sInt  ) hP rfl rfl ?_) | refine ax_call rfl (vc_lend0 (c_sInt  ) hP (by repeat (first | exact lal_id _ rfl | exact LAL.nil | refine LAL.cons ?_ ?_ | exact la_id _ rfl | exact LA.lend (lend_whole rfl (by first | (simp; done) | (rw [List.length_map]; rfl))) | refine LA.agg ?_ | refine LA.fn ?_ | refine LA.lend ?_ | exact Lend.d _ | exact Lend.zs _ | exact lend_whole rfl (by first | (simp; done) | (rw [List.length_map]; rfl)) | refine Lend.ptr rfl ?_ | refine Lend.fn ?_ | exact LendL.nil | refine LendL.cons ?_ ?_)) rfl rfl ?_)
            refine ax_e (e_st rfl rfl rfl rfl rfl rfl rfl) ?_
            refine ax_q (q_mov rfl) ?_
            refine ax_nil ?_
            refine cx_keep rfl rfl ?_
            refine cx_ret (ret0 rfl rfl ?_)
            have e : binF op a b = (vB (decide (op = 12)), 0) := by unfold binF; rw [if_pos (by omega)]; unfold conF; rw [if_neg (by omega), if_neg (by simp only [isZ_iff, isO_iff]; omega), if_neg (by simp only [isZ_iff, isO_iff]; omega), if_neg (by omega)]
            exact ⟨by rw [e]; rfl, rfl⟩
  · have h0 := (fun h => And.intro (dF (or_F h).1) (dF (or_F h).2)) h0
    refine cx_skip ?_
    refine cx_keep rfl rfl ?_
    refine cx_seq ?_
    refine cx_ops ?_
    refine ax_q (q_mov rfl) ?_
    refine ax_q (q_ibin rfl rfl rfl) ?_
    refine ax_q (q_mov rfl) ?_
    apply ax_or rfl rfl
    · intro g
      have g := dF g
      refine ax_q (q_mov rfl) ?_
      refine ax_q (q_ibin rfl rfl rfl) ?_
      exact ax_nil ⟨rfl, by repeat (first | exact trivial | refine ⟨rfl, ?_⟩ | refine ⟨?_, ?_⟩)⟩
    refine ax_q (q_mov rfl) ?_
    refine ax_nil ?_
    refine cx_keep rfl rfl ?_
    refine cx_seq ?_
    refine cx_seq ?_
    refine cx_ops ?_
    refine ax_q (q_mov rfl) ?_
    refine ax_q (q_not rfl) ?_
    refine ax_q (q_mov rfl) ?_
    apply ax_and rfl rfl
    · intro g
      have g := (fun h => (fun h => And.intro (dF (or_F h).1) (dF (or_F h).2)) (bT h)) g
      first | refine ax_q (q_fadr_ptr rfl) ?_ | refine ax_q (q_fadr_rptr rfl) ?_ | refine ax_q (q_fadr_ip rfl) ?_
      first | refine ax_q (q_load1_ptr rfl rfl rfl) ?_ | refine ax_q (q_load1_ip rfl) ?_ | refine ax_q (q_load1_rptr rfl rfl rfl rfl) ?_ | refine ax_q (q_load1_rptr rfl rfl (by assumption) rfl) ?_ | refine ax_q (q_load1_rptr rfl rfl (mapAt (by first | assumption | omega)) rfl) ?_
      refine ax_q (q_ibin rfl rfl rfl) ?_
      refine ax_q (q_mov rfl) ?_
      apply ax_or rfl rfl
      · intro g
        have g := dF g
        first | refine ax_q (q_fadr_ptr rfl) ?_ | refine ax_q (q_fadr_rptr rfl) ?_ | refine ax_q (q_fadr_ip rfl) ?_
        first | refine ax_q (q_load1_ptr rfl rfl rfl) ?_ | refine ax_q (q_load1_ip rfl) ?_ | refine ax_q (q_load1_rptr rfl rfl rfl rfl) ?_ | refine ax_q (q_load1_rptr rfl rfl (by assumption) rfl) ?_ | refine ax_q (q_load1_rptr rfl rfl (mapAt (by first | assumption | omega)) rfl) ?_
        refine ax_q (q_ibin rfl rfl rfl) ?_
        exact ax_nil ⟨rfl, by repeat (first | exact trivial | refine ⟨rfl, ?_⟩ | refine ⟨?_, ?_⟩)⟩
      exact ax_nil ⟨rfl, by repeat (first | exact trivial | refine ⟨rfl, ?_⟩ | refine ⟨?_, ?_⟩)⟩
    refine ax_nil ?_
    refine cx_keep rfl rfl ?_
    refine cx_cond rfl (fun h5 => ?_) (fun h5 => ?_)
    · have h5 := (fun h => And.intro ((fun h => (fun h => And.intro (dF (or_F h).1) (dF (or_F h).2)) (bT h)) (and_T h).1) ((fun h => (or_T h).imp dT dT) (and_T h).2)) h5
      refine cx_seq ?_
      refine cx_ops ?_
      refine ax_q (q_build rfl) ?_
      refine ax_e (e_st rfl rfl rfl rfl rfl rfl rfl) ?_
      refine ax_q (q_mov rfl) ?_
      refine ax_nil ?_
      refine cx_keep rfl rfl ?_
      refine cx_ret (ret0 rfl rfl ?_)
      have e : binF op a b = (.zero, 10) := by unfold binF; rw [if_neg (by omega), if_pos (by omega)]
      exact ⟨by rw [e]; rfl, rfl⟩
    · have h5 := (fun h => (and_F h).imp (fun h => (fun h => (or_T h).imp dT dT) (bF h)) (fun h => And.intro (dF (or_F h).1) (dF (or_F h).2))) h5
      refine cx_skip ?_
      refine cx_keep rfl rfl ?_
      refine cx_seq ?_
      refine cx_seq ?_
      refine cx_ops ?_
      first | refine ax_q (q_fadr_ptr rfl) ?_ | refine ax_q (q_fadr_rptr rfl) ?_ | refine ax_q (q_fadr_ip rfl) ?_
      first | refine ax_q (q_load1_ptr rfl rfl rfl) ?_ | refine ax_q (q_load1_ip rfl) ?_ | refine ax_q (q_load1_rptr rfl rfl rfl rfl) ?_ | refine ax_q (q_load1_rptr rfl rfl (by assumption) rfl) ?_ | refine ax_q (q_load1_rptr rfl rfl (mapAt (by first | assumption | omega)) rfl) ?_
      refine ax_q (q_ibin rfl rfl rfl) ?_
      refine ax_q (q_mov rfl) ?_
      apply ax_or rfl rfl
      · intro g
        have g := dF g
        first | refine ax_q (q_fadr_ptr rfl) ?_ | refine ax_q (q_fadr_rptr rfl) ?_ | refine ax_q (q_fadr_ip rfl) ?_
        first | refine ax_q (q_load1_ptr rfl rfl rfl) ?_ | refine ax_q (q_load1_ip rfl) ?_ | refine ax_q (q_load1_rptr rfl rfl rfl rfl) ?_ | refine ax_q (q_load1_rptr rfl rfl (by assumption) rfl) ?_ | refine ax_q (q_load1_rptr rfl rfl (mapAt (by first | assumption | omega)) rfl) ?_
        refine ax_q (q_ibin rfl rfl rfl) ?_
        exact ax_nil ⟨rfl, by repeat (first | exact trivial | refine ⟨rfl, ?_⟩ | refine ⟨?_, ?_⟩)⟩
      refine ax_nil ?_
      refine cx_keep rfl rfl ?_
      refine cx_cond rfl (fun h6 => ?_) (fun h6 => ?_)
      · have h6 := (fun h => (or_T h).imp dT dT) h6
        refine cx_seq ?_
        refine cx_ops ?_
        refine ax_q (q_build rfl) ?_
        refine ax_e (e_st rfl rfl rfl rfl rfl rfl rfl) ?_
        refine ax_q (q_mov rfl) ?_
        refine ax_nil ?_
        refine cx_keep rfl rfl ?_
        refine cx_ret (ret0 rfl rfl ?_)
        have e : binF op a b = (.zero, 0) := by unfold binF; rw [if_neg (by omega), if_neg (by omega), if_pos (by omega)]
        exact ⟨by rw [e]; rfl, rfl⟩
      · have h6 := (fun h => And.intro (dF (or_F h).1) (dF (or_F h).2)) h6
        refine cx_skip ?_
        refine cx_keep rfl rfl ?_
        refine cx_seq ?_
        refine cx_seq ?_
        refine cx_ops ?_
        first | refine ax_q (q_fadr_ptr rfl) ?_ | refine ax_q (q_fadr_rptr rfl) ?_ | refine ax_q (q_fadr_ip rfl) ?_
        first | refine ax_q (q_load1_ptr rfl rfl rfl) ?_ | refine ax_q (q_load1_ip rfl) ?_ | refine ax_q (q_load1_rptr rfl rfl rfl rfl) ?_ | refine ax_q (q_load1_rptr rfl rfl (by assumption) rfl) ?_ | refine ax_q (q_load1_rptr rfl rfl (mapAt (by first | assumption | omega)) rfl) ?_
        first | refine ax_q (q_fadr_ptr rfl) ?_ | refine ax_q (q_fadr_rptr rfl) ?_ | refine ax_q (q_fadr_ip rfl) ?_
        first | refine ax_q (q_load1_ptr rfl rfl rfl) ?_ | refine ax_q (q_load1_ip rfl) ?_ | refine ax_q (q_load1_rptr rfl rfl rfl rfl) ?_ | refine ax_q (q_load1_rptr rfl rfl (by assumption) rfl) ?_ | refine ax_q (q_load1_rptr rfl rfl (mapAt (by first | assumption | omega)) rfl) ?_
        refine ax_q (q_ibin rfl rfl rfl) ?_
        refine ax_nil ?_
        refine cx_keep rfl rfl ?_
        refine cx_cond rfl (fun h7 => ?_) (fun h7 => ?_)
        · have h7 := nT h7
          refine cx_seq ?_
          refine cx_ops ?_
          refine ax_q (q_build rfl) ?_
          refine ax_e (e_st rfl rfl rfl rfl rfl rfl rfl) ?_
          refine ax_q (q_mov rfl) ?_
          refine ax_nil ?_
          refine cx_keep rfl rfl ?_
          refine cx_ret (ret0 rfl rfl ?_)
          have e : binF op a b = (.zero, 10) := by unfold binF; rw [if_neg (by omega), if_neg (by omega), if_neg (by omega), if_pos (by omega)]
          exact ⟨by rw [e]; rfl, rfl⟩
        · have h7 := nF h7
          refine cx_skip ?_
          refine cx_keep rfl rfl ?_
          refine cx_seq ?_
          refine cx_seq ?_
          refine cx_ops ?_
          refine ax_q (q_mov rfl) ?_
          refine ax_nil ?_
          refine cx_keep rfl rfl ?_
          refine cx_block ?_
          refine cx_seq ?_
          refine cx_ops ?_
          refine ax_q (q_ibin rfl rfl rfl) ?_
          refine ax_q (q_mov rfl) ?_
          refine ax_nil ?_
          refine cx_keep rfl rfl ?_
          refine cx_cond rfl (fun h8 => ?_) (fun h8 => ?_)
          · have h8 := dT h8
            refine cx_seq ?_
            refine cx_ops ?_
            first | refine ax_q (q_ldN rfl rfl rfl) ?_ | refine ax_q (q_loadN_ip rfl (Nat.le_refl _)) ?_ | refine ax_q (q_loadN_ip rfl (by decide)) ?_ | refine ax_q (q_loadN_rptr rfl rfl (by assumption) (by decide)) ?_ | refine ax_q (q_loadN_rptr rfl rfl (mapAt (by first | assumption | omega)) (by decide)) ?_
            first | refine ax_q (q_ldN rfl rfl rfl) ?_ | refine ax_q (q_loadN_ip rfl (Nat.le_refl _)) ?_ | refine ax_q (q_loadN_ip rfl (by decide)) ?_ | refine ax_q (q_loadN_rptr rfl rfl (by assumption) (by decide)) ?_ | refine ax_q (q_loadN_rptr rfl rfl (mapAt (by first | assumption | omega)) (by decide)) ?_
            refine ax_qe (r' := bool (eqV a b)) (q_eqs rfl rfl rfl) (rfl) ?_
            first | refine ax_call rfl (vc_pure0 (c_l01Bit  ) hP rfl rfl ?_) | refine ax_call rfl (vc_lend0 (c_l01Bit  ) hP (by repeat (first | exact lal_id _ rfl | exact LAL.nil | refine LAL.cons ?_ ?_ | exact la_id _ rfl | exact LA.lend (lend_whole rfl (by first | (simp; done) | (rw [List.length_map]; rfl))) | refine LA.agg ?_ | refine LA.fn ?_ | refine LA.lend ?_ | exact Lend.d _ | exact Lend.zs _ | exact lend_whole rfl (by first | (simp; done) | (rw [List.length_map]; rfl)) | refine Lend.ptr rfl ?_ | refine Lend.fn ?_ | exact LendL.nil | refine LendL.cons ?_ ?_)) rfl rfl ?_)
            first | refine ax_call rfl (vc_pure0 (c_sInt  ) hP rfl rfl ?_) | refine ax_call rfl (vc_lend0 (c_sInt  ) hP (by repeat (first | exact lal_id _ rfl | exact LAL.nil | refine LAL.cons ?_ ?_ | exact la_id _ rfl | exact LA.lend (lend_whole rfl (by first | (simp; done) | (rw [List.length_map]; rfl))) | refine LA.agg ?_ | refine LA.fn ?_ | refine LA.lend ?_ | exact Lend.d _ | exact Lend.zs _ | exact lend_whole rfl (by first | (simp; done) | (rw [List.length_map]; rfl)) | refine Lend.ptr rfl ?_ | refine Lend.fn ?_ | exact LendL.nil | refine LendL.cons ?_ ?_)) rfl rfl ?_)
            refine ax_e (e_st rfl rfl rfl rfl rfl rfl rfl) ?_
            refine ax_q (q_mov rfl) ?_
            refine ax_nil ?_
            refine cx_keep rfl rfl ?_
            refine cx_ret (ret0 rfl rfl ?_)
            have e : binF op a b = (vB (eqV a b), 0) := by unfold binF; rw [if_neg (by omega), if_neg (by omega), if_neg (by omega), if_neg (by omega), if_pos (by omega)]
            exact ⟨by rw [e]; rfl, rfl⟩
          · have h8 := dF h8
            refine cx_seq ?_
            refine cx_ops ?_
            refine ax_q (q_ibin rfl rfl rfl) ?_
            refine ax_q (q_mov rfl) ?_
            refine ax_nil ?_
            refine cx_keep rfl rfl ?_
            refine cx_cond rfl (fun h9 => ?_) (fun h9 => ?_)
            · have h9 := dT h9
              refine cx_seq ?_
              refine cx_ops ?_
              first | refine ax_q (q_ldN rfl rfl rfl) ?_ | refine ax_q (q_loadN_ip rfl (Nat.le_refl _)) ?_ | refine ax_q (q_loadN_ip rfl (by decide)) ?_ | refine ax_q (q_loadN_rptr rfl rfl (by assumption) (by decide)) ?_ | refine ax_q (q_loadN_rptr rfl rfl (mapAt (by first | assumption | omega)) (by decide)) ?_
              first | refine ax_q (q_ldN rfl rfl rfl) ?_ | refine ax_q (q_loadN_ip rfl (Nat.le_refl _)) ?_ | refine ax_q (q_loadN_ip rfl (by decide)) ?_ | refine ax_q (q_loadN_rptr rfl rfl (by assumption) (by decide)) ?_ | refine ax_q (q_loadN_rptr rfl rfl (mapAt (by first | assumption | omega)) (by decide)) ?_
              first | refine ax_call rfl (vc_pure0 (c_l01Compare (a := a) (b := b) ) hP rfl rfl ?_) | refine ax_call rfl (vc_lend0 (c_l01Compare (a := a) (b := b) ) hP (by repeat (first | exact lal_id _ rfl | exact LAL.nil | refine LAL.cons ?_ ?_ | exact la_id _ rfl | exact LA.lend (lend_whole rfl (by first | (simp; done) | (rw [List.length_map]; rfl))) | refine LA.agg ?_ | refine LA.fn ?_ | refine LA.lend ?_ | exact Lend.d _ | exact Lend.zs _ | exact lend_whole rfl (by first | (simp; done) | (rw [List.length_map]; rfl)) | refine Lend.ptr rfl ?_ | refine Lend.fn ?_ | exact LendL.nil | refine LendL.cons ?_ ?_)) rfl rfl ?_)
              refine ax_q (q_ibin rfl rfl rfl) ?_
              first | refine ax_call rfl (vc_pure0 (c_l01Bit  ) hP rfl rfl ?_) | refine ax_call rfl (vc_lend0 (c_l01Bit  ) hP (by repeat (first | exact lal_id _ rfl | exact LAL.nil | refine LAL.cons ?_ ?_ | exact la_id _ rfl | exact LA.lend (lend_whole rfl (by first | (simp; done) | (rw [List.length_map]; rfl))) | refine LA.agg ?_ | refine LA.fn ?_ | refine LA.lend ?_ | exact Lend.d _ | exact Lend.zs _ | exact lend_whole rfl (by first | (simp; done) | (rw [List.length_map]; rfl)) | refine Lend.ptr rfl ?_ | refine Lend.fn ?_ | exact LendL.nil | refine LendL.cons ?_ ?_)) rfl rfl ?_)
              first | refine ax_call rfl (vc_pure0 (c_sInt  ) hP rfl rfl ?_) | refine ax_call rfl (vc_lend0 (c_sInt  ) hP (by repeat (first | exact lal_id _ rfl | exact LAL.nil | refine LAL.cons ?_ ?_ | exact la_id _ rfl | exact LA.lend (lend_whole rfl (by first | (simp; done) | (rw [List.length_map]; rfl))) | refine LA.agg ?_ | refine LA.fn ?_ | refine LA.lend ?_ | exact Lend.d _ | exact Lend.zs _ | exact lend_whole rfl (by first | (simp; done) | (rw [List.length_map]; rfl)) | refine Lend.ptr rfl ?_ | refine Lend.fn ?_ | exact LendL.nil | refine LendL.cons ?_ ?_)) rfl rfl ?_)
              refine ax_e (e_st rfl rfl rfl rfl rfl rfl rfl) ?_
              refine ax_q (q_mov rfl) ?_
              refine ax_nil ?_
              refine cx_keep rfl rfl ?_
              refine cx_ret (ret0 rfl rfl ?_)
              have e : binF op a b = (vB (decide (cmpV a b < 0)), 0) := by unfold binF; rw [if_neg (by omega), if_neg (by omega), if_neg (by omega), if_neg (by omega), if_neg (by omega), if_pos (by omega)]
              exact ⟨by rw [e]; rfl, rfl⟩
            · have h9 := dF h9
              refine cx_seq ?_
              refine cx_ops ?_
              refine ax_q (q_ibin rfl rfl rfl) ?_
              refine ax_q (q_mov rfl) ?_
              refine ax_nil ?_
              refine cx_keep rfl rfl ?_
              refine cx_cond rfl (fun h10 => ?_) (fun h10 => ?_)
              · have h10 := dT h10
                refine cx_seq ?_
                refine cx_ops ?_
                first | refine ax_q (q_fadr_ptr rfl) ?_ | refine ax_q (q_fadr_rptr rfl) ?_ | refine ax_q (q_fadr_ip rfl) ?_
                first | refine ax_q (q_load1_ptr rfl rfl rfl) ?_ | refine ax_q (q_load1_ip rfl) ?_ | refine ax_q (q_load1_rptr rfl rfl rfl rfl) ?_ | refine ax_q (q_load1_rptr rfl rfl (by assumption) rfl) ?_ | refine ax_q (q_load1_rptr rfl rfl (mapAt (by first | assumption | omega)) rfl) ?_
                first | refine ax_q (q_fadr_ptr rfl) ?_ | refine ax_q (q_fadr_rptr rfl) ?_ | refine ax_q (q_fadr_ip rfl) ?_
                first | refine ax_q (q_load1_ptr rfl rfl rfl) ?_ | refine ax_q (q_load1_ip rfl) ?_ | refine ax_q (q_load1_rptr rfl rfl rfl rfl) ?_ | refine ax_q (q_load1_rptr rfl rfl (by assumption) rfl) ?_ | refine ax_q (q_load1_rptr rfl rfl (mapAt (by first | assumption | omega)) rfl) ?_
                refine ax_q (q_add rfl rfl (by omega)) ?_
                first | refine ax_call rfl (vc_pure0 (c_l10Bounded  ) hP rfl rfl ?_) | refine ax_call rfl (vc_lend0 (c_l10Bounded  ) hP (by repeat (first | exact lal_id _ rfl | exact LAL.nil | refine LAL.cons ?_ ?_ | exact la_id _ rfl | exact LA.lend (lend_whole rfl (by first | (simp; done) | (rw [List.length_map]; rfl))) | refine LA.agg ?_ | refine LA.fn ?_ | refine LA.lend ?_ | exact Lend.d _ | exact Lend.zs _ | exact lend_whole rfl (by first | (simp; done) | (rw [List.length_map]; rfl)) | refine Lend.ptr rfl ?_ | refine Lend.fn ?_ | exact LendL.nil | refine LendL.cons ?_ ?_)) rfl rfl ?_)
                refine ax_q (q_ext rfl rfl) ?_
                refine ax_q (q_ext rfl rfl) ?_
                refine ax_e (e_st rfl rfl rfl rfl rfl rfl rfl) ?_
                refine ax_q (q_mov rfl) ?_
                refine ax_nil ?_
                refine cx_keep rfl rfl ?_
                refine cx_ret (ret0 rfl rfl ?_)
                have e : binF op a b = bndF (a.N + b.N) := by unfold binF; rw [if_neg (by omega), if_neg (by omega), if_neg (by omega), if_neg (by omega), if_neg (by omega), if_neg (by omega), ari_6 h10]
                exact ⟨by rw [e]; rfl, rfl⟩
              · have h10 := dF h10
                refine cx_seq ?_
                refine cx_ops ?_
                refine ax_q (q_ibin rfl rfl rfl) ?_
                refine ax_q (q_mov rfl) ?_
                refine ax_nil ?_
                refine cx_keep rfl rfl ?_
                refine cx_cond rfl (fun h11 => ?_) (fun h11 => ?_)
                · have h11 := dT h11
                  refine cx_seq ?_
                  refine cx_ops ?_
                  first | refine ax_q (q_fadr_ptr rfl) ?_ | refine ax_q (q_fadr_rptr rfl) ?_ | refine ax_q (q_fadr_ip rfl) ?_
                  first | refine ax_q (q_load1_ptr rfl rfl rfl) ?_ | refine ax_q (q_load1_ip rfl) ?_ | refine ax_q (q_load1_rptr rfl rfl rfl rfl) ?_ | refine ax_q (q_load1_rptr rfl rfl (by assumption) rfl) ?_ | refine ax_q (q_load1_rptr rfl rfl (mapAt (by first | assumption | omega)) rfl) ?_
                  first | refine ax_q (q_fadr_ptr rfl) ?_ | refine ax_q (q_fadr_rptr rfl) ?_ | refine ax_q (q_fadr_ip rfl) ?_
                  first | refine ax_q (q_load1_ptr rfl rfl rfl) ?_ | refine ax_q (q_load1_ip rfl) ?_ | refine ax_q (q_load1_rptr rfl rfl rfl rfl) ?_ | refine ax_q (q_load1_rptr rfl rfl (by assumption) rfl) ?_ | refine ax_q (q_load1_rptr rfl rfl (mapAt (by first | assumption | omega)) rfl) ?_
                  refine ax_q (q_sub rfl rfl (by omega)) ?_
                  first | refine ax_call rfl (vc_pure0 (c_l10Bounded  ) hP rfl rfl ?_) | refine ax_call rfl (vc_lend0 (c_l10Bounded  ) hP (by repeat (first | exact lal_id _ rfl | exact LAL.nil | refine LAL.cons ?_ ?_ | exact la_id _ rfl | exact LA.lend (lend_whole rfl (by first | (simp; done) | (rw [List.length_map]; rfl))) | refine LA.agg ?_ | refine LA.fn ?_ | refine LA.lend ?_ | exact Lend.d _ | exact Lend.zs _ | exact lend_whole rfl (by first | (simp; done) | (rw [List.length_map]; rfl)) | refine Lend.ptr rfl ?_ | refine Lend.fn ?_ | exact LendL.nil | refine LendL.cons ?_ ?_)) rfl rfl ?_)
                  refine ax_q (q_ext rfl rfl) ?_
                  refine ax_q (q_ext rfl rfl) ?_
                  refine ax_e (e_st rfl rfl rfl rfl rfl rfl rfl) ?_
                  refine ax_q (q_mov rfl) ?_
                  refine ax_nil ?_
                  refine cx_keep rfl rfl ?_
                  refine cx_ret (ret0 rfl rfl ?_)
                  have e : binF op a b = bndF (a.N - b.N) := by unfold binF; rw [if_neg (by omega), if_neg (by omega), if_neg (by omega), if_neg (by omega), if_neg (by omega), if_neg (by omega), ari_7 h11]
                  exact ⟨by rw [e]; rfl, rfl⟩
                · have h11 := dF h11
                  refine cx_seq ?_
                  refine cx_ops ?_
                  refine ax_q (q_ibin rfl rfl rfl) ?_
                  refine ax_q (q_mov rfl) ?_
                  refine ax_nil ?_
                  refine cx_keep rfl rfl ?_
                  refine cx_cond rfl (fun h12 => ?_) (fun h12 => ?_)
                  · have h12 := dT h12
                    refine cx_seq ?_
                    refine cx_ops ?_
                    first | refine ax_q (q_fadr_ptr rfl) ?_ | refine ax_q (q_fadr_rptr rfl) ?_ | refine ax_q (q_fadr_ip rfl) ?_
                    first | refine ax_q (q_load1_ptr rfl rfl rfl) ?_ | refine ax_q (q_load1_ip rfl) ?_ | refine ax_q (q_load1_rptr rfl rfl rfl rfl) ?_ | refine ax_q (q_load1_rptr rfl rfl (by assumption) rfl) ?_ | refine ax_q (q_load1_rptr rfl rfl (mapAt (by first | assumption | omega)) rfl) ?_
                    first | refine ax_q (q_fadr_ptr rfl) ?_ | refine ax_q (q_fadr_rptr rfl) ?_ | refine ax_q (q_fadr_ip rfl) ?_
                    first | refine ax_q (q_load1_ptr rfl rfl rfl) ?_ | refine ax_q (q_load1_ip rfl) ?_ | refine ax_q (q_load1_rptr rfl rfl rfl rfl) ?_ | refine ax_q (q_load1_rptr rfl rfl (by assumption) rfl) ?_ | refine ax_q (q_load1_rptr rfl rfl (mapAt (by first | assumption | omega)) rfl) ?_
                    refine ax_q (q_mul rfl rfl (by omega)) ?_
                    first | refine ax_call rfl (vc_pure0 (c_l10Bounded  ) hP rfl rfl ?_) | refine ax_call rfl (vc_lend0 (c_l10Bounded  ) hP (by repeat (first | exact lal_id _ rfl | exact LAL.nil | refine LAL.cons ?_ ?_ | exact la_id _ rfl | exact LA.lend (lend_whole rfl (by first | (simp; done) | (rw [List.length_map]; rfl))) | refine LA.agg ?_ | refine LA.fn ?_ | refine LA.lend ?_ | exact Lend.d _ | exact Lend.zs _ | exact lend_whole rfl (by first | (simp; done) | (rw [List.length_map]; rfl)) | refine Lend.ptr rfl ?_ | refine Lend.fn ?_ | exact LendL.nil | refine LendL.cons ?_ ?_)) rfl rfl ?_)
                    refine ax_q (q_ext rfl rfl) ?_
                    refine ax_q (q_ext rfl rfl) ?_
                    refine ax_e (e_st rfl rfl rfl rfl rfl rfl rfl) ?_
                    refine ax_q (q_mov rfl) ?_
                    refine ax_nil ?_
                    refine cx_keep rfl rfl ?_
                    refine cx_ret (ret0 rfl rfl ?_)
                    have e : binF op a b = bndF (a.N * b.N) := by unfold binF; rw [if_neg (by omega), if_neg (by omega), if_neg (by omega), if_neg (by omega), if_neg (by omega), if_neg (by omega), ari_8 h12]
                    exact ⟨by rw [e]; rfl, rfl⟩
                  · have h12 := dF h12
                    refine cx_skip ?_
                    refine cx_keep rfl rfl ?_
                    refine cx_seq ?_
                    refine cx_seq ?_
                    refine cx_ops ?_
                    first | refine ax_q (q_fadr_ptr rfl) ?_ | refine ax_q (q_fadr_rptr rfl) ?_ | refine ax_q (q_fadr_ip rfl) ?_
                    first | refine ax_q (q_load1_ptr rfl rfl rfl) ?_ | refine ax_q (q_load1_ip rfl) ?_ | refine ax_q (q_load1_rptr rfl rfl rfl rfl) ?_ | refine ax_q (q_load1_rptr rfl rfl (by assumption) rfl) ?_ | refine ax_q (q_load1_rptr rfl rfl (mapAt (by first | assumption | omega)) rfl) ?_
                    refine ax_q (q_ibin rfl rfl rfl) ?_
                    refine ax_nil ?_
                    refine cx_keep rfl rfl ?_
                    refine cx_cond rfl (fun h13 => ?_) (fun h13 => ?_)
                    · have h13 := dT h13
                      refine cx_seq ?_
                      refine cx_ops ?_
                      refine ax_q (q_build rfl) ?_
                      refine ax_e (e_st rfl rfl rfl rfl rfl rfl rfl) ?_
                      refine ax_q (q_mov rfl) ?_
                      refine ax_nil ?_
                      refine cx_keep rfl rfl ?_
                      refine cx_ret (ret0 rfl rfl ?_)
                      have e : binF op a b = (.zero, 11) := by unfold binF; rw [if_neg (by omega), if_neg (by omega), if_neg (by omega), if_neg (by omega), if_neg (by omega), if_neg (by omega), ari_0 h10 h11 h12 h13]
                      exact ⟨by rw [e]; rfl, rfl⟩
                    · have h13 := dF h13
                      refine cx_skip ?_
                      refine cx_keep rfl rfl ?_
                      refine cx_seq ?_
                      refine cx_ops ?_
                      first | refine ax_q (q_fadr_ptr rfl) ?_ | refine ax_q (q_fadr_rptr rfl) ?_ | refine ax_q (q_fadr_ip rfl) ?_
                      first | refine ax_q (q_load1_ptr rfl rfl rfl) ?_ | refine ax_q (q_load1_ip rfl) ?_ | refine ax_q (q_load1_rptr rfl rfl rfl rfl) ?_ | refine ax_q (q_load1_rptr rfl rfl (by assumption) rfl) ?_ | refine ax_q (q_load1_rptr rfl rfl (mapAt (by first | assumption | omega)) rfl) ?_
                      first | refine ax_q (q_fadr_ptr rfl) ?_ | refine ax_q (q_fadr_rptr rfl) ?_ | refine ax_q (q_fadr_ip rfl) ?_
                      first | refine ax_q (q_load1_ptr rfl rfl rfl) ?_ | refine ax_q (q_load1_ip rfl) ?_ | refine ax_q (q_load1_rptr rfl rfl rfl rfl) ?_ | refine ax_q (q_load1_rptr rfl rfl (by assumption) rfl) ?_ | refine ax_q (q_load1_rptr rfl rfl (mapAt (by first | assumption | omega)) rfl) ?_
                      refine ax_qe (r' := int (a.N.tdiv b.N)) (q_idiv rfl rfl rfl (by omega)) (by have := tdivB (a := a.N) (b := b.N) hn; rw [wi (by omega) (by omega)]) ?_
                      first | refine ax_call rfl (vc_pure0 (c_l10Bounded  ) hP rfl rfl ?_) | refine ax_call rfl (vc_lend0 (c_l10Bounded  ) hP (by repeat (first | exact lal_id _ rfl | exact LAL.nil | refine LAL.cons ?_ ?_ | exact la_id _ rfl | exact LA.lend (lend_whole rfl (by first | (simp; done) | (rw [List.length_map]; rfl))) | refine LA.agg ?_ | refine LA.fn ?_ | refine LA.lend ?_ | exact Lend.d _ | exact Lend.zs _ | exact lend_whole rfl (by first | (simp; done) | (rw [List.length_map]; rfl)) | refine Lend.ptr rfl ?_ | refine Lend.fn ?_ | exact LendL.nil | refine LendL.cons ?_ ?_)) rfl rfl ?_)
                      refine ax_q (q_ext rfl rfl) ?_
                      refine ax_q (q_ext rfl rfl) ?_
                      refine ax_e (e_st rfl rfl rfl rfl rfl rfl rfl) ?_
                      refine ax_q (q_mov rfl) ?_
                      refine ax_nil ?_
                      refine cx_keep rfl rfl ?_
                      refine cx_ret (ret0 rfl rfl ?_)
                      have e : binF op a b = bndF (a.N.tdiv b.N) := by unfold binF; rw [if_neg (by omega), if_neg (by omega), if_neg (by omega), if_neg (by omega), if_neg (by omega), if_neg (by omega), ari_d h10 h11 h12 h13]
                      exact ⟨by rw [e]; rfl, rfl⟩

end Go.Proofs.Ytalnddcijlkklaa
