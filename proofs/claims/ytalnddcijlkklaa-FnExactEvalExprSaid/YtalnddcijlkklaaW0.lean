/- The walks: what each function computes, as a contract without a world (part 0). -/
import Derived.Test.YtalnddcijlkklaaProg
import Derived.Test.YtalnddcijlkklaaD
namespace Go.Proofs.Ytalnddcijlkklaa
open Go Go.AM
set_option maxRecDepth 10000
set_option linter.unusedVariables false
/- loop.example/g00332/laws.szValue -/
def k_c_szValue : XCode :=
  .seq (.ops [.op (some 2) (.box (.t 0)),
     .op (some 4) (.mov (.k (.int .i64 0)))])
  (.keep [1, 2] (.seq (.ops [.op (some 5) (.mov (.t 1)),
     .op (some 6) (.fadr (.t 2) 2),
     .op (some 7) (.load1 (.t 6)),
     .op (some 8) (.lenT (.t 7)),
     .op (some 9) (.bin .sub (.t 5) (.t 8)),
     .op (some 1) (.mov (.t 9))])
  (.keep [1] (.seq (.seq (.ops [.op (some 10) (.mov (.t 1)),
      .op (some 11) (.bin .lss (.t 10) (.k (.int .i64 0)))])
   (.keep [1, 11] (.cond (.t 11)
    (.seq (.ops [.op (some 4) (.mov (.k (.int .i64 (-1))))])
     (.keep [4] (.ret)))
    (.skip))))
  (.keep [1] (.seq (.ops [.op (some 12) (.mov (.t 1)),
     .op (some 4) (.mov (.t 12))])
  (.keep [4] (.ret))))))))
theorem k_c_szValue_fits : fitsF Try.prog 63 ⟨13, k_c_szValue, [.t 4]⟩ = true := by kernel_rfl
theorem c_szValue {a : GValue} {left : Int} (h0 : 0 ≤ left) (hl : left ≤ 1048576) (hw : a.wf) : Con Try.prog noMv 63 [a.av, int left] [] (fun r h => r = int (szF left (GValue.sz a)) ∧ h = []) := by
  refine con_of2 k_c_szValue_fits rfl fun C hP hmv => ?_
  unfold k_c_szValue
  have sp := szF_spec left (GValue.sz a)
  have e0 : GValue.sz a = a.T.length := rfl
  rw [e0] at sp ⊢
  obtain ⟨w0, w1, w2⟩ := hw
  have w2x : a.T.length ≤ 9223372036854775807 := w2
  refine cx_seq ?_
  refine cx_ops ?_
  refine ax_e (e_box rfl rfl (by decide) rfl rfl rfl) ?_
  refine ax_q (q_mov rfl) ?_
  refine ax_nil ?_
  refine cx_keep rfl rfl ?_
  refine cx_seq ?_
  refine cx_ops ?_
  refine ax_q (q_mov rfl) ?_
  first | refine ax_q (q_fadr_ptr rfl) ?_ | refine ax_q (q_fadr_rptr rfl) ?_ | refine ax_q (q_fadr_ip rfl) ?_
  first | refine ax_q (q_load1_ptr rfl rfl rfl) ?_ | refine ax_q (q_load1_ip rfl) ?_ | refine ax_q (q_load1_rptr rfl rfl rfl rfl) ?_ | refine ax_q (q_load1_rptr rfl rfl (by assumption) rfl) ?_ | refine ax_q (q_load1_rptr rfl rfl (mapAt (by first | assumption | omega)) rfl) ?_
  refine ax_q (q_lenT rfl) ?_
  refine ax_q (q_sub rfl rfl (by omega)) ?_
  refine ax_q (q_mov rfl) ?_
  refine ax_nil ?_
  refine cx_keep rfl rfl ?_
  refine cx_seq ?_
  refine cx_seq ?_
  refine cx_ops ?_
  refine ax_q (q_mov rfl) ?_
  refine ax_q (q_ibin rfl rfl rfl) ?_
  refine ax_nil ?_
  refine cx_keep rfl rfl ?_
  refine cx_cond rfl (fun h0 => ?_) (fun h0 => ?_)
  · have h0 := dT h0
    refine cx_seq ?_
    refine cx_ops ?_
    refine ax_q (q_mov rfl) ?_
    refine ax_nil ?_
    refine cx_keep rfl rfl ?_
    refine cx_ret (ret0 rfl rfl ?_)
    exact ⟨congrArg int (by omega), rfl⟩
  · have h0 := dF h0
    refine cx_skip ?_
    refine cx_keep rfl rfl ?_
    refine cx_seq ?_
    refine cx_ops ?_
    refine ax_q (q_mov rfl) ?_
    refine ax_q (q_mov rfl) ?_
    refine ax_nil ?_
    refine cx_keep rfl rfl ?_
    refine cx_ret (ret0 rfl rfl ?_)
    exact ⟨congrArg int (by omega), rfl⟩


/- loop.example/g00332/laws.szExprNode -/
def k_c_szExprNode : XCode :=
  .seq (.ops [.op (some 2) (.box (.t 0)),
     .op (some 4) (.mov (.k (.int .i64 0)))])
  (.keep [1, 2] (.seq (.ops [.op (some 5) (.fadr (.t 2) 4),
     .op (some 6) (.loadN 3 (.t 5)),
     .op (some 7) (.mov (.t 1)),
     .call (some 8) 63 [.t 6, .t 7],
     .op (some 1) (.mov (.t 8))])
  (.keep [1] (.seq (.seq (.ops [.op (some 9) (.mov (.t 1)),
      .op (some 10) (.bin .lss (.t 9) (.k (.int .i64 0)))])
   (.keep [1, 10] (.cond (.t 10)
    (.seq (.ops [.op (some 4) (.mov (.k (.int .i64 (-1))))])
     (.keep [4] (.ret)))
    (.skip))))
  (.keep [1] (.seq (.ops [.op (some 11) (.mov (.t 1)),
     .op (some 4) (.mov (.t 11))])
  (.keep [4] (.ret))))))))
theorem k_c_szExprNode_fits : fitsF Try.prog 79 ⟨12, k_c_szExprNode, [.t 4]⟩ = true := by kernel_rfl
theorem c_szExprNode {a : GExprNode} {left : Int} (h0 : 0 ≤ left) (hl : left ≤ 1048576) (hw : a.wf) : Con Try.prog noMv 79 [a.av, int left] [] (fun r h => r = int (szF left (GExprNode.sz a)) ∧ h = []) := by
  refine con_of2 k_c_szExprNode_fits rfl fun C hP hmv => ?_
  unfold k_c_szExprNode
  have sp := szF_spec left (GExprNode.sz a)
  have e0 : GExprNode.sz a = GValue.sz a.V := rfl
  rw [e0] at sp ⊢
  obtain ⟨w0, w1, w2, w3, w4⟩ := hw
  refine cx_seq ?_
  refine cx_ops ?_
  refine ax_e (e_box rfl rfl (by decide) rfl rfl rfl) ?_
  refine ax_q (q_mov rfl) ?_
  refine ax_nil ?_
  refine cx_keep rfl rfl ?_
  refine cx_seq ?_
  refine cx_ops ?_
  first | refine ax_q (q_fadr_ptr rfl) ?_ | refine ax_q (q_fadr_rptr rfl) ?_ | refine ax_q (q_fadr_ip rfl) ?_
  first | refine ax_q (q_ldN rfl rfl rfl) ?_ | refine ax_q (q_loadN_ip rfl (Nat.le_refl _)) ?_ | refine ax_q (q_loadN_ip rfl (by decide)) ?_ | refine ax_q (q_loadN_rptr rfl rfl (by assumption) (by decide)) ?_ | refine ax_q (q_loadN_rptr rfl rfl (mapAt (by first | assumption | omega)) (by decide)) ?_
  refine ax_q (q_mov rfl) ?_
  have q0 := szF_spec left (GValue.sz a.V)
  first | refine ax_call rfl (vc_pure0 (c_szValue  ?_ ?_ ?_) hP rfl rfl ?_) | refine ax_call rfl (vc_lend0 (c_szValue  ?_ ?_ ?_) hP (by repeat (first | exact lal_id _ rfl | exact LAL.nil | refine LAL.cons ?_ ?_ | exact la_id _ rfl | exact LA.lend (lend_whole rfl (by first | (simp; done) | (rw [List.length_map]; rfl))) | refine LA.agg ?_ | refine LA.fn ?_ | refine LA.lend ?_ | exact Lend.d _ | exact Lend.zs _ | exact lend_whole rfl (by first | (simp; done) | (rw [List.length_map]; rfl)) | refine Lend.ptr rfl ?_ | refine Lend.fn ?_ | exact LendL.nil | refine LendL.cons ?_ ?_)) rfl rfl ?_)
  · first | assumption | omega | (simp; done) | (simp; omega)
  · first | assumption | omega | (simp; done) | (simp; omega)
  · first | assumption | omega | (simp; done) | (simp; omega)
  refine ax_q (q_mov rfl) ?_
  refine ax_nil ?_
  refine cx_keep rfl rfl ?_
  refine cx_seq ?_
  refine cx_seq ?_
  refine cx_ops ?_
  refine ax_q (q_mov rfl) ?_
  refine ax_q (q_ibin rfl rfl rfl) ?_
  refine ax_nil ?_
  refine cx_keep rfl rfl ?_
  refine cx_cond rfl (fun h0 => ?_) (fun h0 => ?_)
  · have h0 := dT h0
    refine cx_seq ?_
    refine cx_ops ?_
    refine ax_q (q_mov rfl) ?_
    refine ax_nil ?_
    refine cx_keep rfl rfl ?_
    refine cx_ret (ret0 rfl rfl ?_)
    exact ⟨congrArg int (by omega), rfl⟩
  · have h0 := dF h0
    refine cx_skip ?_
    refine cx_keep rfl rfl ?_
    refine cx_seq ?_
    refine cx_ops ?_
    refine ax_q (q_mov rfl) ?_
    refine ax_q (q_mov rfl) ?_
    refine ax_nil ?_
    refine cx_keep rfl rfl ?_
    refine cx_ret (ret0 rfl rfl ?_)
    exact ⟨congrArg int (by omega), rfl⟩


/- loop.example/g00332/laws.szExprNodeS -/
def k_c_szExprNodeS : XCode :=
  .seq (.ops [.op (some 4) (.mov (.k (.int .i64 0)))])
  (.keep [0, 1] (.seq (.ops [.op (some 6) (.mov (.t 1)),
     .op (some 7) (.mov (.t 0)),
     .op (some 8) (.lenS (.t 7)),
     .op (some 9) (.bin .sub (.t 6) (.t 8)),
     .op (some 1) (.mov (.t 9))])
  (.keep [0, 1] (.seq (.seq (.ops [.op (some 10) (.mov (.t 1)),
      .op (some 11) (.bin .lss (.t 10) (.k (.int .i64 0)))])
   (.keep [0, 1, 11] (.cond (.t 11)
    (.seq (.ops [.op (some 4) (.mov (.k (.int .i64 (-1))))])
     (.keep [4] (.ret)))
    (.skip))))
  (.keep [0, 1] (.seq (.seq (.ops [.op (some 5) (.mov (.k (.int .i64 0)))])
   (.keep [0, 1, 5] (.block 0 (.loop (.seq (.seq (.ops [.op (some 12) (.mov (.t 5)),
         .op (some 13) (.mov (.t 0)),
         .op (some 14) (.lenS (.t 13)),
         .op (some 15) (.bin .lss (.t 12) (.t 14))])
      (.keep [0, 1, 5, 15] (.cond (.t 15)
       (.skip)
       (.exit 0))))
     (.keep [0, 1, 5] (.seq (.block 1 (.seq (.ops [.op (some 18) (.mov (.t 0)),
          .op (some 19) (.mov (.t 5)),
          .op (some 20) (.iadr 7 (.t 18) (.t 19)),
          .op (some 21) (.loadN 7 (.t 20)),
          .op (some 22) (.mov (.t 1)),
          .call (some 23) 79 [.t 21, .t 22],
          .op (some 1) (.mov (.t 23))])
       (.keep [0, 1, 5] (.seq (.ops [.op (some 24) (.mov (.t 1)),
          .op (some 25) (.bin .lss (.t 24) (.k (.int .i64 0)))])
       (.keep [0, 1, 5, 25] (.cond (.t 25)
        (.seq (.ops [.op (some 4) (.mov (.k (.int .i64 (-1))))])
         (.keep [4] (.ret)))
        (.skip)))))))
     (.keep [0, 1, 5] (.ops [.op (some 16) (.mov (.t 5)),
       .op (some 17) (.bin .add (.t 16) (.k (.int .i64 1))),
       .op (some 5) (.mov (.t 17))])))))))))
  (.keep [1] (.seq (.ops [.op (some 26) (.mov (.t 1)),
     .op (some 4) (.mov (.t 26))])
  (.keep [4] (.ret))))))))))
theorem k_c_szExprNodeS_fits : fitsF Try.prog 56 ⟨27, k_c_szExprNodeS, [.t 4]⟩ = true := by kernel_rfl
theorem c_szExprNodeS {xs : List GExprNode} {left : Int} (h0 : 0 ≤ left) (hl : left ≤ 1048576) (hw : wfL GExprNode.wf xs) : Con Try.prog noMv 56 [.d (.sl 7 (xs.map GExprNode.row)), int left] [] (fun r h => r = int (szF left (szL GExprNode.sz xs)) ∧ h = []) := by
  refine con_of2 k_c_szExprNodeS_fits rfl fun C hP hmv => ?_
  unfold k_c_szExprNodeS
  have hw1 := hw.1; have hw2 := hw.2
  have sp := szF_spec left (szL GExprNode.sz xs)
  refine cx_seq ?_
  refine cx_ops ?_
  refine ax_q (q_mov rfl) ?_
  refine ax_nil ?_
  refine cx_keep rfl rfl ?_
  refine cx_seq ?_
  refine cx_ops ?_
  refine ax_q (q_mov rfl) ?_
  refine ax_q (q_mov rfl) ?_
  first | refine ax_q (q_lenS_map rfl) ?_ | refine ax_q (q_lenS_osl rfl) ?_ | refine ax_q (q_lenS_zs rfl) ?_ | refine ax_q (q_lenS rfl) ?_
  refine ax_q (q_sub rfl rfl (by omega)) ?_
  refine ax_q (q_mov rfl) ?_
  refine ax_nil ?_
  refine cx_keep rfl rfl ?_
  refine cx_seq ?_
  refine cx_seq ?_
  refine cx_ops ?_
  refine ax_q (q_mov rfl) ?_
  refine ax_q (q_ibin rfl rfl rfl) ?_
  refine ax_nil ?_
  refine cx_keep rfl rfl ?_
  refine cx_cond rfl (fun h0 => ?_) (fun h0 => ?_)
  · have h0 := dT h0
    refine cx_seq ?_
    refine cx_ops ?_
    refine ax_q (q_mov rfl) ?_
    refine ax_nil ?_
    refine cx_keep rfl rfl ?_
    refine cx_ret (ret0 rfl rfl ?_)
    exact ⟨congrArg int (by unfold szL at sp ⊢; omega), rfl⟩
  · have h0 := dF h0
    refine cx_skip ?_
    refine cx_keep rfl rfl ?_
    refine cx_seq ?_
    refine cx_seq ?_
    refine cx_ops ?_
    refine ax_q (q_mov rfl) ?_
    refine ax_nil ?_
    refine cx_keep rfl rfl ?_
    refine cx_block ?_
    refine cx_loopU (fun n k => k ≤ xs.length ∧ n = xs.length - k ∧ 0 ≤ left - xs.length - sumBy GExprNode.sz (xs.take k)) (fun k : Nat => [(1, int (left - xs.length - sumBy GExprNode.sz (xs.take k))), (5, int k)]) (fun _ => [])
      ⟨_, 0, ⟨Nat.zero_le _, rfl, by simp [sumBy]; omega⟩, ⟨⟨rfl, congrArg (fun n => some (int n)) (by simp only [List.take_zero, sumBy]; omega), rfl, trivial⟩, trivial⟩⟩ ?_
    rintro n k ⟨hk, rfl, hs⟩
    refine cx_seq ?_
    refine cx_seq ?_
    refine cx_ops ?_
    refine ax_q (q_mov rfl) ?_
    refine ax_q (q_mov rfl) ?_
    first | refine ax_q (q_lenS_map rfl) ?_ | refine ax_q (q_lenS_osl rfl) ?_ | refine ax_q (q_lenS_zs rfl) ?_ | refine ax_q (q_lenS rfl) ?_
    refine ax_q (q_ibin rfl rfl rfl) ?_
    refine ax_nil ?_
    refine cx_keep rfl rfl ?_
    refine cx_cond rfl (fun h1 => ?_) (fun h1 => ?_)
    · have h1 := dT h1
      have h1x : k < xs.length := by omega
      have hst := sumBy_take (f := GExprNode.sz) h1x
      have hsl := sumBy_le (f := GExprNode.sz) xs (k + 1)
      have hwk := hw2 _ (List.getElem_mem h1x)
      refine cx_skip ?_
      refine cx_keep rfl rfl ?_
      refine cx_seq ?_
      refine cx_block ?_
      refine cx_seq ?_
      refine cx_ops ?_
      refine ax_q (q_mov rfl) ?_
      refine ax_q (q_mov rfl) ?_
      refine ax_q (q_ix rfl rfl (mapAt h1x)) ?_
      first | refine ax_q (q_ldN rfl rfl rfl) ?_ | refine ax_q (q_loadN_ip rfl (Nat.le_refl _)) ?_ | refine ax_q (q_loadN_ip rfl (by decide)) ?_ | refine ax_q (q_loadN_rptr rfl rfl (by assumption) (by decide)) ?_ | refine ax_q (q_loadN_rptr rfl rfl (mapAt (by first | assumption | omega)) (by decide)) ?_
      refine ax_q (q_mov rfl) ?_
      have spk := szF_spec (left - xs.length - sumBy GExprNode.sz (xs.take k)) (GExprNode.sz xs[k])
      first | refine ax_call rfl (vc_pure0 (c_szExprNode  ?_ ?_ ?_) hP rfl rfl ?_) | refine ax_call rfl (vc_lend0 (c_szExprNode  ?_ ?_ ?_) hP (by repeat (first | exact lal_id _ rfl | exact LAL.nil | refine LAL.cons ?_ ?_ | exact la_id _ rfl | exact LA.lend (lend_whole rfl (by first | (simp; done) | (rw [List.length_map]; rfl))) | refine LA.agg ?_ | refine LA.fn ?_ | refine LA.lend ?_ | exact Lend.d _ | exact Lend.zs _ | exact lend_whole rfl (by first | (simp; done) | (rw [List.length_map]; rfl)) | refine Lend.ptr rfl ?_ | refine Lend.fn ?_ | exact LendL.nil | refine LendL.cons ?_ ?_)) rfl rfl ?_)
      · first | assumption | omega | (simp; done) | (simp; omega)
      · first | assumption | omega | (simp; done) | (simp; omega)
      · first | assumption | omega | (simp; done) | (simp; omega)
      refine ax_q (q_mov rfl) ?_
      refine ax_nil ?_
      refine cx_keep rfl rfl ?_
      refine cx_seq ?_
      refine cx_ops ?_
      refine ax_q (q_mov rfl) ?_
      refine ax_q (q_ibin rfl rfl rfl) ?_
      refine ax_nil ?_
      refine cx_keep rfl rfl ?_
      refine cx_cond rfl (fun h2 => ?_) (fun h2 => ?_)
      · have h2 := dT h2
        refine cx_seq ?_
        refine cx_ops ?_
        refine ax_q (q_mov rfl) ?_
        refine ax_nil ?_
        refine cx_keep rfl rfl ?_
        refine cx_ret (ret0 rfl rfl ?_)
        exact ⟨congrArg int (by unfold szL at sp ⊢; omega), rfl⟩
      · have h2 := dF h2
        have e9 : szF (left - xs.length - sumBy GExprNode.sz (xs.take k)) (GExprNode.sz xs[k]) = left - xs.length - sumBy GExprNode.sz (xs.take (k + 1)) := by omega
        refine cx_skip ?_
        refine cx_keep rfl rfl ?_
        refine cx_ops ?_
        refine ax_q (q_mov rfl) ?_
        refine ax_q (q_add rfl rfl (by omega)) ?_
        refine ax_q (q_mov rfl) ?_
        refine ax_nil ?_
        refine ⟨_, k + 1, by omega, ⟨by omega, rfl, by omega⟩, ?_⟩
        rw [e9]
        exact by repeat (first | exact trivial | refine ⟨rfl, ?_⟩ | refine ⟨?_, ?_⟩)
    · have h1 := dF h1
      refine cx_exit rfl ?_
      refine cx_keep rfl rfl ?_
      refine cx_seq ?_
      refine cx_ops ?_
      refine ax_q (q_mov rfl) ?_
      refine ax_q (q_mov rfl) ?_
      refine ax_nil ?_
      refine cx_keep rfl rfl ?_
      refine cx_ret (ret0 rfl rfl ?_)
      have hk2 : k = xs.length := by omega
      subst hk2; rw [List.take_length] at hs ⊢
      exact ⟨congrArg int (by unfold szL at sp ⊢; omega), rfl⟩


/- loop.example/g00332/laws.szExpr -/
def k_c_szExpr : XCode :=
  .seq (.ops [.op (some 2) (.box (.t 0)),
     .op (some 4) (.mov (.k (.int .i64 0)))])
  (.keep [1, 2] (.seq (.ops [.op (some 5) (.fadr (.t 2) 0),
     .op (some 6) (.load1 (.t 5)),
     .op (some 7) (.mov (.t 1)),
     .call (some 8) 56 [.t 6, .t 7],
     .op (some 1) (.mov (.t 8))])
  (.keep [1] (.seq (.seq (.ops [.op (some 9) (.mov (.t 1)),
      .op (some 10) (.bin .lss (.t 9) (.k (.int .i64 0)))])
   (.keep [1, 10] (.cond (.t 10)
    (.seq (.ops [.op (some 4) (.mov (.k (.int .i64 (-1))))])
     (.keep [4] (.ret)))
    (.skip))))
  (.keep [1] (.seq (.ops [.op (some 11) (.mov (.t 1)),
     .op (some 4) (.mov (.t 11))])
  (.keep [4] (.ret))))))))
theorem k_c_szExpr_fits : fitsF Try.prog 22 ⟨12, k_c_szExpr, [.t 4]⟩ = true := by kernel_rfl
theorem c_szExpr {a : GExpr} {left : Int} (h0 : 0 ≤ left) (hl : left ≤ 1048576) (hw : a.wf) : Con Try.prog noMv 22 [a.av, int left] [] (fun r h => r = int (szF left (GExpr.sz a)) ∧ h = []) := by
  refine con_of2 k_c_szExpr_fits rfl fun C hP hmv => ?_
  unfold k_c_szExpr
  have sp := szF_spec left (GExpr.sz a)
  have e0 : GExpr.sz a = szL GExprNode.sz a.Nodes := rfl
  rw [e0] at sp ⊢
  have w0 := hw
  refine cx_seq ?_
  refine cx_ops ?_
  refine ax_e (e_box rfl rfl (by decide) rfl rfl rfl) ?_
  refine ax_q (q_mov rfl) ?_
  refine ax_nil ?_
  refine cx_keep rfl rfl ?_
  refine cx_seq ?_
  refine cx_ops ?_
  first | refine ax_q (q_fadr_ptr rfl) ?_ | refine ax_q (q_fadr_rptr rfl) ?_ | refine ax_q (q_fadr_ip rfl) ?_
  first | refine ax_q (q_load1_ptr rfl rfl rfl) ?_ | refine ax_q (q_load1_ip rfl) ?_ | refine ax_q (q_load1_rptr rfl rfl rfl rfl) ?_ | refine ax_q (q_load1_rptr rfl rfl (by assumption) rfl) ?_ | refine ax_q (q_load1_rptr rfl rfl (mapAt (by first | assumption | omega)) rfl) ?_
  refine ax_q (q_mov rfl) ?_
  have q0 := szF_spec left (szL GExprNode.sz a.Nodes)
  first | refine ax_call rfl (vc_pure0 (c_szExprNodeS  ?_ ?_ ?_) hP rfl rfl ?_) | refine ax_call rfl (vc_lend0 (c_szExprNodeS  ?_ ?_ ?_) hP (by repeat (first | exact lal_id _ rfl | exact LAL.nil | refine LAL.cons ?_ ?_ | exact la_id _ rfl | exact LA.lend (lend_whole rfl (by first | (simp; done) | (rw [List.length_map]; rfl))) | refine LA.agg ?_ | refine LA.fn ?_ | refine LA.lend ?_ | exact Lend.d _ | exact Lend.zs _ | exact lend_whole rfl (by first | (simp; done) | (rw [List.length_map]; rfl)) | refine Lend.ptr rfl ?_ | refine Lend.fn ?_ | exact LendL.nil | refine LendL.cons ?_ ?_)) rfl rfl ?_)
  · first | assumption | omega | (simp; done) | (simp; omega)
  · first | assumption | omega | (simp; done) | (simp; omega)
  · first | assumption | omega | (simp; done) | (simp; omega)
  refine ax_q (q_mov rfl) ?_
  refine ax_nil ?_
  refine cx_keep rfl rfl ?_
  refine cx_seq ?_
  refine cx_seq ?_
  refine cx_ops ?_
  refine ax_q (q_mov rfl) ?_
  refine ax_q (q_ibin rfl rfl rfl) ?_
  refine ax_nil ?_
  refine cx_keep rfl rfl ?_
  refine cx_cond rfl (fun h0 => ?_) (fun h0 => ?_)
  · have h0 := dT h0
    refine cx_seq ?_
    refine cx_ops ?_
    refine ax_q (q_mov rfl) ?_
    refine ax_nil ?_
    refine cx_keep rfl rfl ?_
    refine cx_ret (ret0 rfl rfl ?_)
    exact ⟨congrArg int (by omega), rfl⟩
  · have h0 := dF h0
    refine cx_skip ?_
    refine cx_keep rfl rfl ?_
    refine cx_seq ?_
    refine cx_ops ?_
    refine ax_q (q_mov rfl) ?_
    refine ax_q (q_mov rfl) ?_
    refine ax_nil ?_
    refine cx_keep rfl rfl ?_
    refine cx_ret (ret0 rfl rfl ?_)
    exact ⟨congrArg int (by omega), rfl⟩


/- loop.example/g00332/laws.toValue -/
def k_c_toValue : XCode :=
  .seq (.ops [.op (some 1) (.box (.t 0)),
     .op (some 2) (.alloc [.int .i64 0, .int .i64 0, .str []])])
  (.keep [1, 2] (.seq (.ops [.op (some 3) (.alloc [.int .i64 0, .int .i64 0, .str []])])
  (.keep [1, 2, 3] (.seq (.ops [.op (some 4) (.fadr (.t 1) 0),
     .op (some 5) (.load1 (.t 4)),
     .op (some 6) (.fadr (.t 3) 0),
     .op none (.store 1 (.t 6) (.t 5))])
  (.keep [1, 2, 3] (.seq (.ops [.op (some 7) (.fadr (.t 1) 1),
     .op (some 8) (.load1 (.t 7)),
     .op (some 9) (.fadr (.t 3) 1),
     .op none (.store 1 (.t 9) (.t 8))])
  (.keep [1, 2, 3] (.seq (.ops [.op (some 10) (.fadr (.t 1) 2),
     .op (some 11) (.load1 (.t 10)),
     .op (some 12) (.fadr (.t 3) 2),
     .op none (.store 1 (.t 12) (.t 11))])
  (.keep [2, 3] (.seq (.ops [.op (some 13) (.loadN 3 (.t 3)),
     .op none (.store 3 (.t 2) (.t 13))])
  (.keep [2] (.ret))))))))))))
theorem k_c_toValue_fits : fitsF Try.prog 65 ⟨14, k_c_toValue, [.cN 2 3]⟩ = true := by kernel_rfl
theorem c_toValue {a : GValue} : Con Try.prog noMv 65 [a.av] [] (fun r h => r = a.av ∧ h = []) := by
  refine con_of2 k_c_toValue_fits rfl fun C hP hmv => ?_
  unfold k_c_toValue
  refine cx_seq ?_
  refine cx_ops ?_
  refine ax_e (e_box rfl rfl (by decide) rfl rfl rfl) ?_
  refine ax_e (e_alloc (by decide) rfl rfl) ?_
  refine ax_nil ?_
  refine cx_keep rfl rfl ?_
  refine cx_seq ?_
  refine cx_ops ?_
  refine ax_e (e_alloc (by decide) rfl rfl) ?_
  refine ax_nil ?_
  refine cx_keep rfl rfl ?_
  refine cx_seq ?_
  refine cx_ops ?_
  first | refine ax_q (q_fadr_ptr rfl) ?_ | refine ax_q (q_fadr_rptr rfl) ?_ | refine ax_q (q_fadr_ip rfl) ?_
  first | refine ax_q (q_load1_ptr rfl rfl rfl) ?_ | refine ax_q (q_load1_ip rfl) ?_ | refine ax_q (q_load1_rptr rfl rfl rfl rfl) ?_ | refine ax_q (q_load1_rptr rfl rfl (by assumption) rfl) ?_ | refine ax_q (q_load1_rptr rfl rfl (mapAt (by first | assumption | omega)) rfl) ?_
  first | refine ax_q (q_fadr_ptr rfl) ?_ | refine ax_q (q_fadr_rptr rfl) ?_ | refine ax_q (q_fadr_ip rfl) ?_
  refine ax_e (e_st rfl rfl rfl rfl rfl rfl rfl) ?_
  refine ax_nil ?_
  refine cx_keep rfl rfl ?_
  refine cx_seq ?_
  refine cx_ops ?_
  first | refine ax_q (q_fadr_ptr rfl) ?_ | refine ax_q (q_fadr_rptr rfl) ?_ | refine ax_q (q_fadr_ip rfl) ?_
  first | refine ax_q (q_load1_ptr rfl rfl rfl) ?_ | refine ax_q (q_load1_ip rfl) ?_ | refine ax_q (q_load1_rptr rfl rfl rfl rfl) ?_ | refine ax_q (q_load1_rptr rfl rfl (by assumption) rfl) ?_ | refine ax_q (q_load1_rptr rfl rfl (mapAt (by first | assumption | omega)) rfl) ?_
  first | refine ax_q (q_fadr_ptr rfl) ?_ | refine ax_q (q_fadr_rptr rfl) ?_ | refine ax_q (q_fadr_ip rfl) ?_
  refine ax_e (e_st rfl rfl rfl rfl rfl rfl rfl) ?_
  refine ax_nil ?_
  refine cx_keep rfl rfl ?_
  refine cx_seq ?_
  refine cx_ops ?_
  first | refine ax_q (q_fadr_ptr rfl) ?_ | refine ax_q (q_fadr_rptr rfl) ?_ | refine ax_q (q_fadr_ip rfl) ?_
  first | refine ax_q (q_load1_ptr rfl rfl rfl) ?_ | refine ax_q (q_load1_ip rfl) ?_ | refine ax_q (q_load1_rptr rfl rfl rfl rfl) ?_ | refine ax_q (q_load1_rptr rfl rfl (by assumption) rfl) ?_ | refine ax_q (q_load1_rptr rfl rfl (mapAt (by first | assumption | omega)) rfl) ?_
  first | refine ax_q (q_fadr_ptr rfl) ?_ | refine ax_q (q_fadr_rptr rfl) ?_ | refine ax_q (q_fadr_ip rfl) ?_
  refine ax_e (e_st rfl rfl rfl rfl rfl rfl rfl) ?_
  refine ax_nil ?_
  refine cx_keep rfl rfl ?_
  refine cx_seq ?_
  refine cx_ops ?_
  first | refine ax_q (q_ldN rfl rfl rfl) ?_ | refine ax_q (q_loadN_ip rfl (Nat.le_refl _)) ?_ | refine ax_q (q_loadN_ip rfl (by decide)) ?_ | refine ax_q (q_loadN_rptr rfl rfl (by assumption) (by decide)) ?_ | refine ax_q (q_loadN_rptr rfl rfl (mapAt (by first | assumption | omega)) (by decide)) ?_
  refine ax_e (e_st rfl rfl rfl rfl rfl rfl rfl) ?_
  refine ax_nil ?_
  refine cx_keep rfl rfl ?_
  refine cx_ret (ret0 rfl rfl ?_)
  exact ⟨rfl, rfl⟩


/- loop.example/g00332/laws.toExprNode -/
def k_c_toExprNode : XCode :=
  .seq (.ops [.op (some 1) (.box (.t 0)),
     .op (some 2) (.alloc [.int .i64 0, .int .i64 0, .int .i64 0, .int .i64 0, .int .i64 0, .int .i64 0, .str []])])
  (.keep [1, 2] (.seq (.ops [.op (some 3) (.alloc [.int .i64 0, .int .i64 0, .int .i64 0, .int .i64 0, .int .i64 0, .int .i64 0, .str []])])
  (.keep [1, 2, 3] (.seq (.ops [.op (some 4) (.fadr (.t 1) 0),
     .op (some 5) (.load1 (.t 4)),
     .op (some 6) (.fadr (.t 3) 0),
     .op none (.store 1 (.t 6) (.t 5))])
  (.keep [1, 2, 3] (.seq (.ops [.op (some 7) (.fadr (.t 1) 1),
     .op (some 8) (.load1 (.t 7)),
     .op (some 9) (.fadr (.t 3) 1),
     .op none (.store 1 (.t 9) (.t 8))])
  (.keep [1, 2, 3] (.seq (.ops [.op (some 10) (.fadr (.t 1) 2),
     .op (some 11) (.load1 (.t 10)),
     .op (some 12) (.fadr (.t 3) 2),
     .op none (.store 1 (.t 12) (.t 11))])
  (.keep [1, 2, 3] (.seq (.ops [.op (some 13) (.fadr (.t 1) 3),
     .op (some 14) (.load1 (.t 13)),
     .op (some 15) (.fadr (.t 3) 3),
     .op none (.store 1 (.t 15) (.t 14))])
  (.keep [1, 2, 3] (.seq (.ops [.op (some 16) (.fadr (.t 1) 4),
     .op (some 17) (.loadN 3 (.t 16)),
     .call (some 18) 65 [.t 17],
     .op (some 19) (.fadr (.t 3) 4),
     .op none (.store 3 (.t 19) (.t 18))])
  (.keep [2, 3] (.seq (.ops [.op (some 20) (.loadN 7 (.t 3)),
     .op none (.store 7 (.t 2) (.t 20))])
  (.keep [2] (.ret))))))))))))))))
theorem k_c_toExprNode_fits : fitsF Try.prog 81 ⟨21, k_c_toExprNode, [.cN 2 7]⟩ = true := by kernel_rfl
theorem c_toExprNode {a : GExprNode} : Con Try.prog noMv 81 [a.av] [] (fun r h => r = a.av ∧ h = []) := by
  refine con_of2 k_c_toExprNode_fits rfl fun C hP hmv => ?_
  unfold k_c_toExprNode
  refine cx_seq ?_
  refine cx_ops ?_
  refine ax_e (e_box rfl rfl (by decide) rfl rfl rfl) ?_
  refine ax_e (e_alloc (by decide) rfl rfl) ?_
  refine ax_nil ?_
  refine cx_keep rfl rfl ?_
  refine cx_seq ?_
  refine cx_ops ?_
  refine ax_e (e_alloc (by decide) rfl rfl) ?_
  refine ax_nil ?_
  refine cx_keep rfl rfl ?_
  refine cx_seq ?_
  refine cx_ops ?_
  first | refine ax_q (q_fadr_ptr rfl) ?_ | refine ax_q (q_fadr_rptr rfl) ?_ | refine ax_q (q_fadr_ip rfl) ?_
  first | refine ax_q (q_load1_ptr rfl rfl rfl) ?_ | refine ax_q (q_load1_ip rfl) ?_ | refine ax_q (q_load1_rptr rfl rfl rfl rfl) ?_ | refine ax_q (q_load1_rptr rfl rfl (by assumption) rfl) ?_ | refine ax_q (q_load1_rptr rfl rfl (mapAt (by first | assumption | omega)) rfl) ?_
  first | refine ax_q (q_fadr_ptr rfl) ?_ | refine ax_q (q_fadr_rptr rfl) ?_ | refine ax_q (q_fadr_ip rfl) ?_
  refine ax_e (e_st rfl rfl rfl rfl rfl rfl rfl) ?_
  refine ax_nil ?_
  refine cx_keep rfl rfl ?_
  refine cx_seq ?_
  refine cx_ops ?_
  first | refine ax_q (q_fadr_ptr rfl) ?_ | refine ax_q (q_fadr_rptr rfl) ?_ | refine ax_q (q_fadr_ip rfl) ?_
  first | refine ax_q (q_load1_ptr rfl rfl rfl) ?_ | refine ax_q (q_load1_ip rfl) ?_ | refine ax_q (q_load1_rptr rfl rfl rfl rfl) ?_ | refine ax_q (q_load1_rptr rfl rfl (by assumption) rfl) ?_ | refine ax_q (q_load1_rptr rfl rfl (mapAt (by first | assumption | omega)) rfl) ?_
  first | refine ax_q (q_fadr_ptr rfl) ?_ | refine ax_q (q_fadr_rptr rfl) ?_ | refine ax_q (q_fadr_ip rfl) ?_
  refine ax_e (e_st rfl rfl rfl rfl rfl rfl rfl) ?_
  refine ax_nil ?_
  refine cx_keep rfl rfl ?_
  refine cx_seq ?_
  refine cx_ops ?_
  first | refine ax_q (q_fadr_ptr rfl) ?_ | refine ax_q (q_fadr_rptr rfl) ?_ | refine ax_q (q_fadr_ip rfl) ?_
  first | refine ax_q (q_load1_ptr rfl rfl rfl) ?_ | refine ax_q (q_load1_ip rfl) ?_ | refine ax_q (q_load1_rptr rfl rfl rfl rfl) ?_ | refine ax_q (q_load1_rptr rfl rfl (by assumption) rfl) ?_ | refine ax_q (q_load1_rptr rfl rfl (mapAt (by first | assumption | omega)) rfl) ?_
  first | refine ax_q (q_fadr_ptr rfl) ?_ | refine ax_q (q_fadr_rptr rfl) ?_ | refine ax_q (q_fadr_ip rfl) ?_
  refine ax_e (e_st rfl rfl rfl rfl rfl rfl rfl) ?_
  refine ax_nil ?_
  refine cx_keep rfl rfl ?_
  refine cx_seq ?_
  refine cx_ops ?_
  first | refine ax_q (q_fadr_ptr rfl) ?_ | refine ax_q (q_fadr_rptr rfl) ?_ | refine ax_q (q_fadr_ip rfl) ?_
  first | refine ax_q (q_load1_ptr rfl rfl rfl) ?_ | refine ax_q (q_load1_ip rfl) ?_ | refine ax_q (q_load1_rptr rfl rfl rfl rfl) ?_ | refine ax_q (q_load1_rptr rfl rfl (by assumption) rfl) ?_ | refine ax_q (q_load1_rptr rfl rfl (mapAt (by first | assumption | omega)) rfl) ?_
  first | refine ax_q (q_fadr_ptr rfl) ?_ | refine ax_q (q_fadr_rptr rfl) ?_ | refine ax_q (q_fadr_ip rfl) ?_
  refine ax_e (e_st rfl rfl rfl rfl rfl rfl rfl) ?_
  refine ax_nil ?_
  refine cx_keep rfl rfl ?_
  refine cx_seq ?_
  refine cx_ops ?_
  first | refine ax_q (q_fadr_ptr rfl) ?_ | refine ax_q (q_fadr_rptr rfl) ?_ | refine ax_q (q_fadr_ip rfl) ?_
  first | refine ax_q (q_ldN rfl rfl rfl) ?_ | refine ax_q (q_loadN_ip rfl (Nat.le_refl _)) ?_ | refine ax_q (q_loadN_ip rfl (by decide)) ?_ | refine ax_q (q_loadN_rptr rfl rfl (by assumption) (by decide)) ?_ | refine ax_q (q_loadN_rptr rfl rfl (mapAt (by first | assumption | omega)) (by decide)) ?_
  first | refine ax_call rfl (vc_pure0 (c_toValue  ) hP rfl rfl ?_) | refine ax_call rfl (vc_lend0 (c_toValue  ) hP (by repeat (first | exact lal_id _ rfl | exact LAL.nil | refine LAL.cons ?_ ?_ | exact la_id _ rfl | exact LA.lend (lend_whole rfl (by first | (simp; done) | (rw [List.length_map]; rfl))) | refine LA.agg ?_ | refine LA.fn ?_ | refine LA.lend ?_ | exact Lend.d _ | exact Lend.zs _ | exact lend_whole rfl (by first | (simp; done) | (rw [List.length_map]; rfl)) | refine Lend.ptr rfl ?_ | refine Lend.fn ?_ | exact LendL.nil | refine LendL.cons ?_ ?_)) rfl rfl ?_)
  first | refine ax_q (q_fadr_ptr rfl) ?_ | refine ax_q (q_fadr_rptr rfl) ?_ | refine ax_q (q_fadr_ip rfl) ?_
  refine ax_e (e_st rfl rfl rfl rfl rfl rfl rfl) ?_
  refine ax_nil ?_
  refine cx_keep rfl rfl ?_
  refine cx_seq ?_
  refine cx_ops ?_
  first | refine ax_q (q_ldN rfl rfl rfl) ?_ | refine ax_q (q_loadN_ip rfl (Nat.le_refl _)) ?_ | refine ax_q (q_loadN_ip rfl (by decide)) ?_ | refine ax_q (q_loadN_rptr rfl rfl (by assumption) (by decide)) ?_ | refine ax_q (q_loadN_rptr rfl rfl (mapAt (by first | assumption | omega)) (by decide)) ?_
  refine ax_e (e_st rfl rfl rfl rfl rfl rfl rfl) ?_
  refine ax_nil ?_
  refine cx_keep rfl rfl ?_
  refine cx_ret (ret0 rfl rfl ?_)
  exact ⟨rfl, rfl⟩


/- loop.example/g00332/laws.toExprNodeS -/
def k_c_toExprNodeS : XCode :=
  .seq (.ops [.op (some 2) (.mov (.k (.nils 7)))])
  (.keep [0] (.seq (.ops [.op (some 5) (.mov (.t 0)),
     .op (some 6) (.lenS (.t 5)),
     .op (some 7) (.mkslice 7 64 [.int .i64 0, .int .i64 0, .int .i64 0, .int .i64 0, .int .i64 0, .int .i64 0, .str []] (.t 6) (.t 6)),
     .op (some 3) (.mov (.t 7))])
  (.keep [0, 3] (.seq (.seq (.ops [.op (some 4) (.mov (.k (.int .i64 0)))])
   (.keep [0, 3, 4] (.block 0 (.loop (.seq (.seq (.ops [.op (some 8) (.mov (.t 4)),
         .op (some 9) (.mov (.t 0)),
         .op (some 10) (.lenS (.t 9)),
         .op (some 11) (.bin .lss (.t 8) (.t 10))])
      (.keep [0, 3, 4, 11] (.cond (.t 11)
       (.skip)
       (.exit 0))))
     (.keep [0, 3, 4] (.seq (.block 1 (.ops [.op (some 14) (.mov (.t 3)),
         .op (some 15) (.mov (.t 4)),
         .op (some 16) (.mov (.t 0)),
         .op (some 17) (.mov (.t 4)),
         .op (some 18) (.iadr 7 (.t 16) (.t 17)),
         .op (some 19) (.loadN 7 (.t 18)),
         .call (some 20) 81 [.t 19],
         .op (some 21) (.iadr 7 (.t 14) (.t 15)),
         .op none (.store 7 (.t 21) (.t 20))]))
     (.keep [0, 3, 4] (.ops [.op (some 12) (.mov (.t 4)),
       .op (some 13) (.bin .add (.t 12) (.k (.int .i64 1))),
       .op (some 4) (.mov (.t 13))])))))))))
  (.keep [3] (.seq (.ops [.op (some 22) (.mov (.t 3)),
     .op (some 2) (.mov (.t 22))])
  (.keep [2] (.ret))))))))
theorem k_c_toExprNodeS_fits : fitsF Try.prog 58 ⟨23, k_c_toExprNodeS, [.t 2]⟩ = true := by kernel_rfl
theorem c_toExprNodeS {xs : List GExprNode} (hw : xs.length ≤ 1048576) : Con Try.prog noMv 58 [.d (.sl 7 (xs.map GExprNode.row))] [] (fun r h => r = .osl 0 7 0 xs.length ∧ h = [(0, .rows 7 (xs.map GExprNode.row))]) := by
  refine con_of2 k_c_toExprNodeS_fits rfl fun C hP hmv => ?_
  unfold k_c_toExprNodeS
  refine cx_seq ?_
  refine cx_ops ?_
  refine ax_q (q_mov rfl) ?_
  refine ax_nil ?_
  refine cx_keep rfl rfl ?_
  refine cx_seq ?_
  refine cx_ops ?_
  refine ax_q (q_mov rfl) ?_
  first | refine ax_q (q_lenS_map rfl) ?_ | refine ax_q (q_lenS_osl rfl) ?_ | refine ax_q (q_lenS_zs rfl) ?_ | refine ax_q (q_lenS rfl) ?_
  refine ax_ee (e_mkslice rfl rfl rfl (by omega) (by omega) (by omega) (by decide) rfl rfl) (by rw [Int.toNat_natCast]) ?_
  refine ax_q (q_mov rfl) ?_
  refine ax_nil ?_
  refine cx_keep rfl rfl ?_
  refine cx_seq ?_
  refine cx_seq ?_
  refine cx_ops ?_
  refine ax_q (q_mov rfl) ?_
  refine ax_nil ?_
  refine cx_keep rfl rfl ?_
  refine cx_block ?_
  refine cx_loopU (fun n k => k ≤ xs.length ∧ n = xs.length - k) (fun k : Nat => [(4, int k)]) (fun k => [(7, .rows 7 ((xs.take k).map GExprNode.row ++ List.replicate (xs.length - k) [.int .i64 0, .int .i64 0, .int .i64 0, .int .i64 0, .int .i64 0, .int .i64 0, .str []]))]) ⟨_, 0, ⟨Nat.zero_le _, rfl⟩, by repeat (first | exact trivial | refine ⟨rfl, ?_⟩ | refine ⟨?_, ?_⟩)⟩ ?_
  rintro n k ⟨hk, rfl⟩
  refine cx_seq ?_
  refine cx_seq ?_
  refine cx_ops ?_
  refine ax_q (q_mov rfl) ?_
  refine ax_q (q_mov rfl) ?_
  first | refine ax_q (q_lenS_map rfl) ?_ | refine ax_q (q_lenS_osl rfl) ?_ | refine ax_q (q_lenS_zs rfl) ?_ | refine ax_q (q_lenS rfl) ?_
  refine ax_q (q_ibin rfl rfl rfl) ?_
  refine ax_nil ?_
  refine cx_keep rfl rfl ?_
  refine cx_cond rfl (fun h0 => ?_) (fun h0 => ?_)
  · have h0 := dT h0
    have h1x : k < xs.length := by omega
    refine cx_skip ?_
    refine cx_keep rfl rfl ?_
    refine cx_seq ?_
    refine cx_block ?_
    refine cx_ops ?_
    refine ax_q (q_mov rfl) ?_
    refine ax_q (q_mov rfl) ?_
    refine ax_q (q_mov rfl) ?_
    refine ax_q (q_mov rfl) ?_
    refine ax_q (q_ix rfl rfl (mapAt h1x)) ?_
    first | refine ax_q (q_ldN rfl rfl rfl) ?_ | refine ax_q (q_loadN_ip rfl (Nat.le_refl _)) ?_ | refine ax_q (q_loadN_ip rfl (by decide)) ?_ | refine ax_q (q_loadN_rptr rfl rfl (by assumption) (by decide)) ?_ | refine ax_q (q_loadN_rptr rfl rfl (mapAt (by first | assumption | omega)) (by decide)) ?_
    first | refine ax_call rfl (vc_pure0 (c_toExprNode  ) hP rfl rfl ?_) | refine ax_call rfl (vc_lend0 (c_toExprNode  ) hP (by repeat (first | exact lal_id _ rfl | exact LAL.nil | refine LAL.cons ?_ ?_ | exact la_id _ rfl | exact LA.lend (lend_whole rfl (by first | (simp; done) | (rw [List.length_map]; rfl))) | refine LA.agg ?_ | refine LA.fn ?_ | refine LA.lend ?_ | exact Lend.d _ | exact Lend.zs _ | exact lend_whole rfl (by first | (simp; done) | (rw [List.length_map]; rfl)) | refine Lend.ptr rfl ?_ | refine Lend.fn ?_ | exact LendL.nil | refine LendL.cons ?_ ?_)) rfl rfl ?_)
    refine ax_q (q_ixo rfl rfl h1x) ?_
    refine ax_e (e_str (q := GExprNode.row xs[k]) rfl rfl rfl rfl rfl rfl (fillAtL h1x) rfl rfl (fillSetL h1x)) ?_
    refine ax_nil ?_
    refine cx_keep rfl rfl ?_
    refine cx_ops ?_
    refine ax_q (q_mov rfl) ?_
    refine ax_q (q_add rfl rfl (by omega)) ?_
    refine ax_q (q_mov rfl) ?_
    refine ax_nil ?_
    exact ⟨_, k + 1, by omega, ⟨by omega, rfl⟩, by repeat (first | exact trivial | refine ⟨rfl, ?_⟩ | refine ⟨?_, ?_⟩)⟩
  · have h0 := dF h0
    refine cx_exit rfl ?_
    refine cx_keep rfl rfl ?_
    refine cx_seq ?_
    refine cx_ops ?_
    refine ax_q (q_mov rfl) ?_
    refine ax_q (q_mov rfl) ?_
    refine ax_nil ?_
    refine cx_keep rfl rfl ?_
    refine cx_ret (retN (fun _ => 0) [7] rfl rfl rfl rfl rfl ?_)
    exact ⟨rfl, by rw [show k = xs.length from by omega, List.take_length, Nat.sub_self, List.replicate_zero, List.append_nil]; rfl⟩


/- loop.example/g00332/laws.toExpr -/
def k_c_toExpr : XCode :=
  .seq (.ops [.op (some 1) (.box (.t 0)),
     .op (some 2) (.alloc [.nils 7])])
  (.keep [1, 2] (.seq (.ops [.op (some 3) (.alloc [.nils 7])])
  (.keep [1, 2, 3] (.seq (.ops [.op (some 4) (.fadr (.t 1) 0),
     .op (some 5) (.load1 (.t 4)),
     .call (some 6) 58 [.t 5],
     .op (some 7) (.fadr (.t 3) 0),
     .op none (.store 1 (.t 7) (.t 6))])
  (.keep [2, 3] (.seq (.ops [.op (some 8) (.loadN 1 (.t 3)),
     .op none (.store 1 (.t 2) (.t 8))])
  (.keep [2] (.ret))))))))
theorem k_c_toExpr_fits : fitsF Try.prog 24 ⟨9, k_c_toExpr, [.cN 2 1]⟩ = true := by kernel_rfl
theorem c_toExpr {a : GExpr} (hw0 : a.Nodes.length ≤ 1048576) : Con Try.prog noMv 24 [a.av] [] (fun r h => r = a.avO 0 ∧ h = a.hO 0) := by
  refine con_of2 k_c_toExpr_fits rfl fun C hP hmv => ?_
  unfold k_c_toExpr
  refine cx_seq ?_
  refine cx_ops ?_
  refine ax_e (e_box rfl rfl (by decide) rfl rfl rfl) ?_
  refine ax_e (e_alloc (by decide) rfl rfl) ?_
  refine ax_nil ?_
  refine cx_keep rfl rfl ?_
  refine cx_seq ?_
  refine cx_ops ?_
  refine ax_e (e_alloc (by decide) rfl rfl) ?_
  refine ax_nil ?_
  refine cx_keep rfl rfl ?_
  refine cx_seq ?_
  refine cx_ops ?_
  first | refine ax_q (q_fadr_ptr rfl) ?_ | refine ax_q (q_fadr_rptr rfl) ?_ | refine ax_q (q_fadr_ip rfl) ?_
  first | refine ax_q (q_load1_ptr rfl rfl rfl) ?_ | refine ax_q (q_load1_ip rfl) ?_ | refine ax_q (q_load1_rptr rfl rfl rfl rfl) ?_ | refine ax_q (q_load1_rptr rfl rfl (by assumption) rfl) ?_ | refine ax_q (q_load1_rptr rfl rfl (mapAt (by first | assumption | omega)) rfl) ?_
  first | refine ax_call rfl (vc_pure (c_toExprNodeS  ?_) hP rfl ?_) | refine ax_call rfl (vc_lend (c_toExprNodeS  ?_) hP (by repeat (first | exact lal_id _ rfl | exact LAL.nil | refine LAL.cons ?_ ?_ | exact la_id _ rfl | exact LA.lend (lend_whole rfl (by first | (simp; done) | (rw [List.length_map]; rfl))) | refine LA.agg ?_ | refine LA.fn ?_ | refine LA.lend ?_ | exact Lend.d _ | exact Lend.zs _ | exact lend_whole rfl (by first | (simp; done) | (rw [List.length_map]; rfl)) | refine Lend.ptr rfl ?_ | refine Lend.fn ?_ | exact LendL.nil | refine LendL.cons ?_ ?_)) ?_)
  · first | assumption | omega | (simp; done) | (simp; omega)
  rintro r h ⟨rfl, rfl⟩
  refine ⟨fun i => 6 + 200 * i, [0], ⟨rfl, rfl, rfl, rfl, rfl, (by first | exact (fun h => absurd h Bool.false_ne_true) | exact (fun _ => ⟨rfl, (noisl_of (by repeat (first | exact trivial | refine ⟨noisl_map (fun _ => rfl), ?_⟩ | refine ⟨?_, ?_⟩)))⟩))⟩, ?_⟩
  skip
  first | refine ax_q (q_fadr_ptr rfl) ?_ | refine ax_q (q_fadr_rptr rfl) ?_ | refine ax_q (q_fadr_ip rfl) ?_
  refine ax_e (e_st rfl rfl rfl rfl rfl rfl rfl) ?_
  refine ax_nil ?_
  refine cx_keep rfl rfl ?_
  refine cx_seq ?_
  refine cx_ops ?_
  first | refine ax_q (q_ldN rfl rfl rfl) ?_ | refine ax_q (q_loadN_ip rfl (Nat.le_refl _)) ?_ | refine ax_q (q_loadN_ip rfl (by decide)) ?_ | refine ax_q (q_loadN_rptr rfl rfl (by assumption) (by decide)) ?_ | refine ax_q (q_loadN_rptr rfl rfl (mapAt (by first | assumption | omega)) (by decide)) ?_
  refine ax_e (e_st rfl rfl rfl rfl rfl rfl rfl) ?_
  refine ax_nil ?_
  refine cx_keep rfl rfl ?_
  refine cx_ret (retN (fun e => 0) [6] rfl rfl rfl rfl rfl ?_)
  exact ⟨rfl, rfl⟩


/- loop.example/g00332/laws.eqValue -/
def k_c_eqValue : XCode :=
  .seq (.ops [.op (some 2) (.box (.t 0)),
     .op (some 3) (.box (.t 1)),
     .op (some 4) (.mov (.k (.bool false)))])
  (.keep [2, 3] (.seq (.seq (.ops [.op (some 5) (.fadr (.t 2) 0),
      .op (some 6) (.load1 (.t 5)),
      .op (some 7) (.fadr (.t 3) 0),
      .op (some 8) (.load1 (.t 7)),
      .op (some 9) (.bin .neq (.t 6) (.t 8))])
   (.keep [2, 3, 9] (.cond (.t 9)
    (.seq (.ops [.op (some 4) (.mov (.k (.bool false)))])
     (.keep [4] (.ret)))
    (.skip))))
  (.keep [2, 3] (.seq (.seq (.ops [.op (some 10) (.fadr (.t 2) 1),
      .op (some 11) (.load1 (.t 10)),
      .op (some 12) (.fadr (.t 3) 1),
      .op (some 13) (.load1 (.t 12)),
      .op (some 14) (.bin .neq (.t 11) (.t 13))])
   (.keep [2, 3, 14] (.cond (.t 14)
    (.seq (.ops [.op (some 4) (.mov (.k (.bool false)))])
     (.keep [4] (.ret)))
    (.skip))))
  (.keep [2, 3] (.seq (.seq (.ops [.op (some 15) (.fadr (.t 2) 2),
      .op (some 16) (.load1 (.t 15)),
      .op (some 17) (.fadr (.t 3) 2),
      .op (some 18) (.load1 (.t 17)),
      .op (some 19) (.bin .neq (.t 16) (.t 18))])
   (.keep [19] (.cond (.t 19)
    (.seq (.ops [.op (some 4) (.mov (.k (.bool false)))])
     (.keep [4] (.ret)))
    (.skip))))
  (.keep [] (.seq (.ops [.op (some 4) (.mov (.k (.bool true)))])
  (.keep [4] (.ret))))))))))
theorem k_c_eqValue_fits : fitsF Try.prog 34 ⟨20, k_c_eqValue, [.t 4]⟩ = true := by kernel_rfl
theorem c_eqValue {a b : GValue}  : Con Try.prog noMv 34 [a.av, b.av] [] (fun r h => r = bool (eqb a b) ∧ h = []) := by
  refine con_of2 k_c_eqValue_fits rfl fun C hP hmv => ?_
  unfold k_c_eqValue
  refine cx_seq ?_
  refine cx_ops ?_
  refine ax_e (e_box rfl rfl (by decide) rfl rfl rfl) ?_
  refine ax_e (e_box rfl rfl (by decide) rfl rfl rfl) ?_
  refine ax_q (q_mov rfl) ?_
  refine ax_nil ?_
  refine cx_keep rfl rfl ?_
  refine cx_seq ?_
  refine cx_seq ?_
  refine cx_ops ?_
  first | refine ax_q (q_fadr_ptr rfl) ?_ | refine ax_q (q_fadr_rptr rfl) ?_ | refine ax_q (q_fadr_ip rfl) ?_
  first | refine ax_q (q_load1_ptr rfl rfl rfl) ?_ | refine ax_q (q_load1_ip rfl) ?_ | refine ax_q (q_load1_rptr rfl rfl rfl rfl) ?_ | refine ax_q (q_load1_rptr rfl rfl (by assumption) rfl) ?_ | refine ax_q (q_load1_rptr rfl rfl (mapAt (by first | assumption | omega)) rfl) ?_
  first | refine ax_q (q_fadr_ptr rfl) ?_ | refine ax_q (q_fadr_rptr rfl) ?_ | refine ax_q (q_fadr_ip rfl) ?_
  first | refine ax_q (q_load1_ptr rfl rfl rfl) ?_ | refine ax_q (q_load1_ip rfl) ?_ | refine ax_q (q_load1_rptr rfl rfl rfl rfl) ?_ | refine ax_q (q_load1_rptr rfl rfl (by assumption) rfl) ?_ | refine ax_q (q_load1_rptr rfl rfl (mapAt (by first | assumption | omega)) rfl) ?_
  refine ax_q (q_ibin rfl rfl rfl) ?_
  refine ax_nil ?_
  refine cx_keep rfl rfl ?_
  refine cx_cond rfl (fun h0 => ?_) (fun h0 => ?_)
  · have h0 := nT h0
    refine cx_seq ?_
    refine cx_ops ?_
    refine ax_q (q_mov rfl) ?_
    refine ax_nil ?_
    refine cx_keep rfl rfl ?_
    refine cx_ret (ret0 rfl rfl ?_)
    exact ⟨congrArg AM.bool (eqb_f (fun h => h0 (by rw [h]))).symm, rfl⟩
  · have h0 := nF h0
    refine cx_skip ?_
    refine cx_keep rfl rfl ?_
    refine cx_seq ?_
    refine cx_seq ?_
    refine cx_ops ?_
    first | refine ax_q (q_fadr_ptr rfl) ?_ | refine ax_q (q_fadr_rptr rfl) ?_ | refine ax_q (q_fadr_ip rfl) ?_
    first | refine ax_q (q_load1_ptr rfl rfl rfl) ?_ | refine ax_q (q_load1_ip rfl) ?_ | refine ax_q (q_load1_rptr rfl rfl rfl rfl) ?_ | refine ax_q (q_load1_rptr rfl rfl (by assumption) rfl) ?_ | refine ax_q (q_load1_rptr rfl rfl (mapAt (by first | assumption | omega)) rfl) ?_
    first | refine ax_q (q_fadr_ptr rfl) ?_ | refine ax_q (q_fadr_rptr rfl) ?_ | refine ax_q (q_fadr_ip rfl) ?_
    first | refine ax_q (q_load1_ptr rfl rfl rfl) ?_ | refine ax_q (q_load1_ip rfl) ?_ | refine ax_q (q_load1_rptr rfl rfl rfl rfl) ?_ | refine ax_q (q_load1_rptr rfl rfl (by assumption) rfl) ?_ | refine ax_q (q_load1_rptr rfl rfl (mapAt (by first | assumption | omega)) rfl) ?_
    refine ax_q (q_ibin rfl rfl rfl) ?_
    refine ax_nil ?_
    refine cx_keep rfl rfl ?_
    refine cx_cond rfl (fun h1 => ?_) (fun h1 => ?_)
    · have h1 := nT h1
      refine cx_seq ?_
      refine cx_ops ?_
      refine ax_q (q_mov rfl) ?_
      refine ax_nil ?_
      refine cx_keep rfl rfl ?_
      refine cx_ret (ret0 rfl rfl ?_)
      exact ⟨congrArg AM.bool (eqb_f (fun h => h1 (by rw [h]))).symm, rfl⟩
    · have h1 := nF h1
      refine cx_skip ?_
      refine cx_keep rfl rfl ?_
      refine cx_seq ?_
      refine cx_seq ?_
      refine cx_ops ?_
      first | refine ax_q (q_fadr_ptr rfl) ?_ | refine ax_q (q_fadr_rptr rfl) ?_ | refine ax_q (q_fadr_ip rfl) ?_
      first | refine ax_q (q_load1_ptr rfl rfl rfl) ?_ | refine ax_q (q_load1_ip rfl) ?_ | refine ax_q (q_load1_rptr rfl rfl rfl rfl) ?_ | refine ax_q (q_load1_rptr rfl rfl (by assumption) rfl) ?_ | refine ax_q (q_load1_rptr rfl rfl (mapAt (by first | assumption | omega)) rfl) ?_
      first | refine ax_q (q_fadr_ptr rfl) ?_ | refine ax_q (q_fadr_rptr rfl) ?_ | refine ax_q (q_fadr_ip rfl) ?_
      first | refine ax_q (q_load1_ptr rfl rfl rfl) ?_ | refine ax_q (q_load1_ip rfl) ?_ | refine ax_q (q_load1_rptr rfl rfl rfl rfl) ?_ | refine ax_q (q_load1_rptr rfl rfl (by assumption) rfl) ?_ | refine ax_q (q_load1_rptr rfl rfl (mapAt (by first | assumption | omega)) rfl) ?_
      refine ax_q (q_sbin rfl rfl rfl) ?_
      refine ax_nil ?_
      refine cx_keep rfl rfl ?_
      refine cx_cond rfl (fun h2 => ?_) (fun h2 => ?_)
      · have h2 := nT h2
        refine cx_seq ?_
        refine cx_ops ?_
        refine ax_q (q_mov rfl) ?_
        refine ax_nil ?_
        refine cx_keep rfl rfl ?_
        refine cx_ret (ret0 rfl rfl ?_)
        exact ⟨congrArg AM.bool (eqb_f (fun h => h2 (by rw [h]))).symm, rfl⟩
      · have h2 := nF h2
        refine cx_skip ?_
        refine cx_keep rfl rfl ?_
        refine cx_seq ?_
        refine cx_ops ?_
        refine ax_q (q_mov rfl) ?_
        refine ax_nil ?_
        refine cx_keep rfl rfl ?_
        refine cx_ret (ret0 rfl rfl ?_)
        exact ⟨congrArg AM.bool (eqb_t (GValue.ext1 h0 h1 h2)).symm, rfl⟩


/- loop.example/g00332/laws.eqExprNode -/
def k_c_eqExprNode : XCode :=
  .seq (.ops [.op (some 2) (.box (.t 0)),
     .op (some 3) (.box (.t 1)),
     .op (some 4) (.mov (.k (.bool false)))])
  (.keep [2, 3] (.seq (.seq (.ops [.op (some 5) (.fadr (.t 2) 0),
      .op (some 6) (.load1 (.t 5)),
      .op (some 7) (.fadr (.t 3) 0),
      .op (some 8) (.load1 (.t 7)),
      .op (some 9) (.bin .neq (.t 6) (.t 8))])
   (.keep [2, 3, 9] (.cond (.t 9)
    (.seq (.ops [.op (some 4) (.mov (.k (.bool false)))])
     (.keep [4] (.ret)))
    (.skip))))
  (.keep [2, 3] (.seq (.seq (.ops [.op (some 10) (.fadr (.t 2) 1),
      .op (some 11) (.load1 (.t 10)),
      .op (some 12) (.fadr (.t 3) 1),
      .op (some 13) (.load1 (.t 12)),
      .op (some 14) (.bin .neq (.t 11) (.t 13))])
   (.keep [2, 3, 14] (.cond (.t 14)
    (.seq (.ops [.op (some 4) (.mov (.k (.bool false)))])
     (.keep [4] (.ret)))
    (.skip))))
  (.keep [2, 3] (.seq (.seq (.ops [.op (some 15) (.fadr (.t 2) 2),
      .op (some 16) (.load1 (.t 15)),
      .op (some 17) (.fadr (.t 3) 2),
      .op (some 18) (.load1 (.t 17)),
      .op (some 19) (.bin .neq (.t 16) (.t 18))])
   (.keep [2, 3, 19] (.cond (.t 19)
    (.seq (.ops [.op (some 4) (.mov (.k (.bool false)))])
     (.keep [4] (.ret)))
    (.skip))))
  (.keep [2, 3] (.seq (.seq (.ops [.op (some 20) (.fadr (.t 2) 3),
      .op (some 21) (.load1 (.t 20)),
      .op (some 22) (.fadr (.t 3) 3),
      .op (some 23) (.load1 (.t 22)),
      .op (some 24) (.bin .neq (.t 21) (.t 23))])
   (.keep [2, 3, 24] (.cond (.t 24)
    (.seq (.ops [.op (some 4) (.mov (.k (.bool false)))])
     (.keep [4] (.ret)))
    (.skip))))
  (.keep [2, 3] (.seq (.seq (.ops [.op (some 25) (.fadr (.t 2) 4),
      .op (some 26) (.loadN 3 (.t 25)),
      .op (some 27) (.fadr (.t 3) 4),
      .op (some 28) (.loadN 3 (.t 27)),
      .call (some 29) 34 [.t 26, .t 28],
      .op (some 30) (.not (.t 29))])
   (.keep [30] (.cond (.t 30)
    (.seq (.ops [.op (some 4) (.mov (.k (.bool false)))])
     (.keep [4] (.ret)))
    (.skip))))
  (.keep [] (.seq (.ops [.op (some 4) (.mov (.k (.bool true)))])
  (.keep [4] (.ret))))))))))))))
theorem k_c_eqExprNode_fits : fitsF Try.prog 83 ⟨31, k_c_eqExprNode, [.t 4]⟩ = true := by kernel_rfl
theorem c_eqExprNode {a b : GExprNode}  : Con Try.prog noMv 83 [a.av, b.av] [] (fun r h => r = bool (eqb a b) ∧ h = []) := by
  refine con_of2 k_c_eqExprNode_fits rfl fun C hP hmv => ?_
  unfold k_c_eqExprNode
  refine cx_seq ?_
  refine cx_ops ?_
  refine ax_e (e_box rfl rfl (by decide) rfl rfl rfl) ?_
  refine ax_e (e_box rfl rfl (by decide) rfl rfl rfl) ?_
  refine ax_q (q_mov rfl) ?_
  refine ax_nil ?_
  refine cx_keep rfl rfl ?_
  refine cx_seq ?_
  refine cx_seq ?_
  refine cx_ops ?_
  first | refine ax_q (q_fadr_ptr rfl) ?_ | refine ax_q (q_fadr_rptr rfl) ?_ | refine ax_q (q_fadr_ip rfl) ?_
  first | refine ax_q (q_load1_ptr rfl rfl rfl) ?_ | refine ax_q (q_load1_ip rfl) ?_ | refine ax_q (q_load1_rptr rfl rfl rfl rfl) ?_ | refine ax_q (q_load1_rptr rfl rfl (by assumption) rfl) ?_ | refine ax_q (q_load1_rptr rfl rfl (mapAt (by first | assumption | omega)) rfl) ?_
  first | refine ax_q (q_fadr_ptr rfl) ?_ | refine ax_q (q_fadr_rptr rfl) ?_ | refine ax_q (q_fadr_ip rfl) ?_
  first | refine ax_q (q_load1_ptr rfl rfl rfl) ?_ | refine ax_q (q_load1_ip rfl) ?_ | refine ax_q (q_load1_rptr rfl rfl rfl rfl) ?_ | refine ax_q (q_load1_rptr rfl rfl (by assumption) rfl) ?_ | refine ax_q (q_load1_rptr rfl rfl (mapAt (by first | assumption | omega)) rfl) ?_
  refine ax_q (q_ibin rfl rfl rfl) ?_
  refine ax_nil ?_
  refine cx_keep rfl rfl ?_
  refine cx_cond rfl (fun h0 => ?_) (fun h0 => ?_)
  · have h0 := nT h0
    refine cx_seq ?_
    refine cx_ops ?_
    refine ax_q (q_mov rfl) ?_
    refine ax_nil ?_
    refine cx_keep rfl rfl ?_
    refine cx_ret (ret0 rfl rfl ?_)
    exact ⟨congrArg AM.bool (eqb_f (fun h => h0 (by rw [h]))).symm, rfl⟩
  · have h0 := nF h0
    refine cx_skip ?_
    refine cx_keep rfl rfl ?_
    refine cx_seq ?_
    refine cx_seq ?_
    refine cx_ops ?_
    first | refine ax_q (q_fadr_ptr rfl) ?_ | refine ax_q (q_fadr_rptr rfl) ?_ | refine ax_q (q_fadr_ip rfl) ?_
    first | refine ax_q (q_load1_ptr rfl rfl rfl) ?_ | refine ax_q (q_load1_ip rfl) ?_ | refine ax_q (q_load1_rptr rfl rfl rfl rfl) ?_ | refine ax_q (q_load1_rptr rfl rfl (by assumption) rfl) ?_ | refine ax_q (q_load1_rptr rfl rfl (mapAt (by first | assumption | omega)) rfl) ?_
    first | refine ax_q (q_fadr_ptr rfl) ?_ | refine ax_q (q_fadr_rptr rfl) ?_ | refine ax_q (q_fadr_ip rfl) ?_
    first | refine ax_q (q_load1_ptr rfl rfl rfl) ?_ | refine ax_q (q_load1_ip rfl) ?_ | refine ax_q (q_load1_rptr rfl rfl rfl rfl) ?_ | refine ax_q (q_load1_rptr rfl rfl (by assumption) rfl) ?_ | refine ax_q (q_load1_rptr rfl rfl (mapAt (by first | assumption | omega)) rfl) ?_
    refine ax_q (q_ibin rfl rfl rfl) ?_
    refine ax_nil ?_
    refine cx_keep rfl rfl ?_
    refine cx_cond rfl (fun h1 => ?_) (fun h1 => ?_)
    · have h1 := nT h1
      refine cx_seq ?_
      refine cx_ops ?_
      refine ax_q (q_mov rfl) ?_
      refine ax_nil ?_
      refine cx_keep rfl rfl ?_
      refine cx_ret (ret0 rfl rfl ?_)
      exact ⟨congrArg AM.bool (eqb_f (fun h => h1 (by rw [h]))).symm, rfl⟩
    · have h1 := nF h1
      refine cx_skip ?_
      refine cx_keep rfl rfl ?_
      refine cx_seq ?_
      refine cx_seq ?_
      refine cx_ops ?_
      first | refine ax_q (q_fadr_ptr rfl) ?_ | refine ax_q (q_fadr_rptr rfl) ?_ | refine ax_q (q_fadr_ip rfl) ?_
      first | refine ax_q (q_load1_ptr rfl rfl rfl) ?_ | refine ax_q (q_load1_ip rfl) ?_ | refine ax_q (q_load1_rptr rfl rfl rfl rfl) ?_ | refine ax_q (q_load1_rptr rfl rfl (by assumption) rfl) ?_ | refine ax_q (q_load1_rptr rfl rfl (mapAt (by first | assumption | omega)) rfl) ?_
      first | refine ax_q (q_fadr_ptr rfl) ?_ | refine ax_q (q_fadr_rptr rfl) ?_ | refine ax_q (q_fadr_ip rfl) ?_
      first | refine ax_q (q_load1_ptr rfl rfl rfl) ?_ | refine ax_q (q_load1_ip rfl) ?_ | refine ax_q (q_load1_rptr rfl rfl rfl rfl) ?_ | refine ax_q (q_load1_rptr rfl rfl (by assumption) rfl) ?_ | refine ax_q (q_load1_rptr rfl rfl (mapAt (by first | assumption | omega)) rfl) ?_
      refine ax_q (q_ibin rfl rfl rfl) ?_
      refine ax_nil ?_
      refine cx_keep rfl rfl ?_
      refine cx_cond rfl (fun h2 => ?_) (fun h2 => ?_)
      · have h2 := nT h2
        refine cx_seq ?_
        refine cx_ops ?_
        refine ax_q (q_mov rfl) ?_
        refine ax_nil ?_
        refine cx_keep rfl rfl ?_
        refine cx_ret (ret0 rfl rfl ?_)
        exact ⟨congrArg AM.bool (eqb_f (fun h => h2 (by rw [h]))).symm, rfl⟩
      · have h2 := nF h2
        refine cx_skip ?_
        refine cx_keep rfl rfl ?_
        refine cx_seq ?_
        refine cx_seq ?_
        refine cx_ops ?_
        first | refine ax_q (q_fadr_ptr rfl) ?_ | refine ax_q (q_fadr_rptr rfl) ?_ | refine ax_q (q_fadr_ip rfl) ?_
        first | refine ax_q (q_load1_ptr rfl rfl rfl) ?_ | refine ax_q (q_load1_ip rfl) ?_ | refine ax_q (q_load1_rptr rfl rfl rfl rfl) ?_ | refine ax_q (q_load1_rptr rfl rfl (by assumption) rfl) ?_ | refine ax_q (q_load1_rptr rfl rfl (mapAt (by first | assumption | omega)) rfl) ?_
        first | refine ax_q (q_fadr_ptr rfl) ?_ | refine ax_q (q_fadr_rptr rfl) ?_ | refine ax_q (q_fadr_ip rfl) ?_
        first | refine ax_q (q_load1_ptr rfl rfl rfl) ?_ | refine ax_q (q_load1_ip rfl) ?_ | refine ax_q (q_load1_rptr rfl rfl rfl rfl) ?_ | refine ax_q (q_load1_rptr rfl rfl (by assumption) rfl) ?_ | refine ax_q (q_load1_rptr rfl rfl (mapAt (by first | assumption | omega)) rfl) ?_
        refine ax_q (q_ibin rfl rfl rfl) ?_
        refine ax_nil ?_
        refine cx_keep rfl rfl ?_
        refine cx_cond rfl (fun h3 => ?_) (fun h3 => ?_)
        · have h3 := nT h3
          refine cx_seq ?_
          refine cx_ops ?_
          refine ax_q (q_mov rfl) ?_
          refine ax_nil ?_
          refine cx_keep rfl rfl ?_
          refine cx_ret (ret0 rfl rfl ?_)
          exact ⟨congrArg AM.bool (eqb_f (fun h => h3 (by rw [h]))).symm, rfl⟩
        · have h3 := nF h3
          refine cx_skip ?_
          refine cx_keep rfl rfl ?_
          refine cx_seq ?_
          refine cx_seq ?_
          refine cx_ops ?_
          first | refine ax_q (q_fadr_ptr rfl) ?_ | refine ax_q (q_fadr_rptr rfl) ?_ | refine ax_q (q_fadr_ip rfl) ?_
          first | refine ax_q (q_ldN rfl rfl rfl) ?_ | refine ax_q (q_loadN_ip rfl (Nat.le_refl _)) ?_ | refine ax_q (q_loadN_ip rfl (by decide)) ?_ | refine ax_q (q_loadN_rptr rfl rfl (by assumption) (by decide)) ?_ | refine ax_q (q_loadN_rptr rfl rfl (mapAt (by first | assumption | omega)) (by decide)) ?_
          first | refine ax_q (q_fadr_ptr rfl) ?_ | refine ax_q (q_fadr_rptr rfl) ?_ | refine ax_q (q_fadr_ip rfl) ?_
          first | refine ax_q (q_ldN rfl rfl rfl) ?_ | refine ax_q (q_loadN_ip rfl (Nat.le_refl _)) ?_ | refine ax_q (q_loadN_ip rfl (by decide)) ?_ | refine ax_q (q_loadN_rptr rfl rfl (by assumption) (by decide)) ?_ | refine ax_q (q_loadN_rptr rfl rfl (mapAt (by first | assumption | omega)) (by decide)) ?_
          first | refine ax_call rfl (vc_pure0 (c_eqValue  ) hP rfl rfl ?_) | refine ax_call rfl (vc_lend0 (c_eqValue  ) hP (by repeat (first | exact lal_id _ rfl | exact LAL.nil | refine LAL.cons ?_ ?_ | exact la_id _ rfl | exact LA.lend (lend_whole rfl (by first | (simp; done) | (rw [List.length_map]; rfl))) | refine LA.agg ?_ | refine LA.fn ?_ | refine LA.lend ?_ | exact Lend.d _ | exact Lend.zs _ | exact lend_whole rfl (by first | (simp; done) | (rw [List.length_map]; rfl)) | refine Lend.ptr rfl ?_ | refine Lend.fn ?_ | exact LendL.nil | refine LendL.cons ?_ ?_)) rfl rfl ?_)
          refine ax_q (q_not rfl) ?_
          refine ax_nil ?_
          refine cx_keep rfl rfl ?_
          refine cx_cond rfl (fun h4 => ?_) (fun h4 => ?_)
          · have h4 := bT h4
            refine cx_seq ?_
            refine cx_ops ?_
            refine ax_q (q_mov rfl) ?_
            refine ax_nil ?_
            refine cx_keep rfl rfl ?_
            refine cx_ret (ret0 rfl rfl ?_)
            exact ⟨congrArg AM.bool (eqb_f (fun h => by rw [h, eqb_rfl] at h4; cases h4)).symm, rfl⟩
          · have h4 := bF h4
            refine cx_skip ?_
            refine cx_keep rfl rfl ?_
            refine cx_seq ?_
            refine cx_ops ?_
            refine ax_q (q_mov rfl) ?_
            refine ax_nil ?_
            refine cx_keep rfl rfl ?_
            refine cx_ret (ret0 rfl rfl ?_)
            exact ⟨congrArg AM.bool (eqb_t (GExprNode.ext1 h0 h1 h2 h3 (eqb_iff.1 h4))).symm, rfl⟩


/- loop.example/g00332/laws.eqExprNodeS -/
def k_c_eqExprNodeS : XCode :=
  .seq (.ops [.op (some 4) (.mov (.k (.bool false)))])
  (.keep [0, 1] (.seq (.seq (.ops [.op (some 6) (.mov (.t 0)),
      .op (some 7) (.lenS (.t 6)),
      .op (some 8) (.mov (.t 1)),
      .op (some 9) (.lenS (.t 8)),
      .op (some 10) (.bin .neq (.t 7) (.t 9))])
   (.keep [0, 1, 10] (.cond (.t 10)
    (.seq (.ops [.op (some 4) (.mov (.k (.bool false)))])
     (.keep [4] (.ret)))
    (.skip))))
  (.keep [0, 1] (.seq (.seq (.ops [.op (some 5) (.mov (.k (.int .i64 0)))])
   (.keep [0, 1, 5] (.block 0 (.loop (.seq (.seq (.ops [.op (some 11) (.mov (.t 5)),
         .op (some 12) (.mov (.t 0)),
         .op (some 13) (.lenS (.t 12)),
         .op (some 14) (.bin .lss (.t 11) (.t 13))])
      (.keep [0, 1, 5, 14] (.cond (.t 14)
       (.skip)
       (.exit 0))))
     (.keep [0, 1, 5] (.seq (.block 1 (.seq (.draw [.op (some 17) (.mov (.t 0)),
          .op (some 18) (.mov (.t 5)),
          .op (some 19) (.iadr 7 (.t 17) (.t 18)),
          .op (some 20) (.loadN 7 (.t 19)),
          .op (some 21) (.mov (.t 1)),
          .op (some 22) (.mov (.t 5)),
          .op (some 23) (.iadr 7 (.t 21) (.t 22)),
          .op (some 24) (.loadN 7 (.t 23)),
          .call (some 25) 83 [.t 20, .t 24],
          .op (some 26) (.not (.t 25))])
       (.keep [0, 1, 5, 26] (.cond (.t 26)
        (.seq (.ops [.op (some 4) (.mov (.k (.bool false)))])
         (.keep [4] (.ret)))
        (.skip)))))
     (.keep [0, 1, 5] (.ops [.op (some 15) (.mov (.t 5)),
       .op (some 16) (.bin .add (.t 15) (.k (.int .i64 1))),
       .op (some 5) (.mov (.t 16))])))))))))
  (.keep [] (.seq (.ops [.op (some 4) (.mov (.k (.bool true)))])
  (.keep [4] (.ret))))))))
theorem k_c_eqExprNodeS_fits : fitsF Try.prog 60 ⟨27, k_c_eqExprNodeS, [.t 4]⟩ = true := by kernel_rfl
theorem c_eqExprNodeS {xs ys : List GExprNode} (hw : xs.length ≤ 9223372036854775807) : Con Try.prog noMv 60 [.d (.sl 7 (xs.map GExprNode.row)), .d (.sl 7 (ys.map GExprNode.row))] [] (fun r h => r = bool (eqb xs ys) ∧ h = []) := by
  refine con_of2 k_c_eqExprNodeS_fits rfl fun C hP hmv => ?_
  unfold k_c_eqExprNodeS
  refine cx_seq ?_
  refine cx_ops ?_
  refine ax_q (q_mov rfl) ?_
  refine ax_nil ?_
  refine cx_keep rfl rfl ?_
  refine cx_seq ?_
  refine cx_seq ?_
  refine cx_ops ?_
  refine ax_q (q_mov rfl) ?_
  first | refine ax_q (q_lenS_map rfl) ?_ | refine ax_q (q_lenS_osl rfl) ?_ | refine ax_q (q_lenS_zs rfl) ?_ | refine ax_q (q_lenS rfl) ?_
  refine ax_q (q_mov rfl) ?_
  first | refine ax_q (q_lenS_map rfl) ?_ | refine ax_q (q_lenS_osl rfl) ?_ | refine ax_q (q_lenS_zs rfl) ?_ | refine ax_q (q_lenS rfl) ?_
  refine ax_q (q_ibin rfl rfl rfl) ?_
  refine ax_nil ?_
  refine cx_keep rfl rfl ?_
  refine cx_cond rfl (fun h0 => ?_) (fun h0 => ?_)
  · have h0 := nT h0
    refine cx_seq ?_
    refine cx_ops ?_
    refine ax_q (q_mov rfl) ?_
    refine ax_nil ?_
    refine cx_keep rfl rfl ?_
    refine cx_ret (ret0 rfl rfl ?_)
    exact ⟨congrArg AM.bool (eqb_f (fun h => h0 (by rw [h]))).symm, rfl⟩
  · have h0 := nF h0
    refine cx_skip ?_
    refine cx_keep rfl rfl ?_
    refine cx_seq ?_
    refine cx_seq ?_
    refine cx_ops ?_
    refine ax_q (q_mov rfl) ?_
    refine ax_nil ?_
    refine cx_keep rfl rfl ?_
    refine cx_block ?_
    have hl : xs.length = ys.length := by omega
    refine cx_loopU (fun n k => k ≤ xs.length ∧ n = xs.length - k ∧ xs.take k = ys.take k) (fun k : Nat => [(5, int k)]) (fun _ => []) ⟨_, 0, ⟨Nat.zero_le _, rfl, rfl⟩, by repeat (first | exact trivial | refine ⟨rfl, ?_⟩ | refine ⟨?_, ?_⟩)⟩ ?_
    rintro n k ⟨hk, rfl, ht⟩
    refine cx_seq ?_
    refine cx_seq ?_
    refine cx_ops ?_
    refine ax_q (q_mov rfl) ?_
    refine ax_q (q_mov rfl) ?_
    first | refine ax_q (q_lenS_map rfl) ?_ | refine ax_q (q_lenS_osl rfl) ?_ | refine ax_q (q_lenS_zs rfl) ?_ | refine ax_q (q_lenS rfl) ?_
    refine ax_q (q_ibin rfl rfl rfl) ?_
    refine ax_nil ?_
    refine cx_keep rfl rfl ?_
    refine cx_cond rfl (fun h1 => ?_) (fun h1 => ?_)
    · have h1 := dT h1
      have h1x : k < xs.length := by omega
      have h1y : k < ys.length := by omega
      refine cx_skip ?_
      refine cx_keep rfl rfl ?_
      refine cx_seq ?_
      refine cx_block ?_
      refine cx_seq ?_
      refine cx_draw ?_
      refine ax_q (q_mov rfl) ?_
      refine ax_q (q_mov rfl) ?_
      refine ax_q (q_ix rfl rfl (mapAt h1x)) ?_
      first | refine ax_q (q_ldN rfl rfl rfl) ?_ | refine ax_q (q_loadN_ip rfl (Nat.le_refl _)) ?_ | refine ax_q (q_loadN_ip rfl (by decide)) ?_ | refine ax_q (q_loadN_rptr rfl rfl (by assumption) (by decide)) ?_ | refine ax_q (q_loadN_rptr rfl rfl (mapAt (by first | assumption | omega)) (by decide)) ?_
      refine ax_q (q_mov rfl) ?_
      refine ax_q (q_mov rfl) ?_
      refine ax_q (q_ix rfl rfl (mapAt h1y)) ?_
      first | refine ax_q (q_ldN rfl rfl rfl) ?_ | refine ax_q (q_loadN_ip rfl (Nat.le_refl _)) ?_ | refine ax_q (q_loadN_ip rfl (by decide)) ?_ | refine ax_q (q_loadN_rptr rfl rfl (by assumption) (by decide)) ?_ | refine ax_q (q_loadN_rptr rfl rfl (mapAt (by first | assumption | omega)) (by decide)) ?_
      first | refine ax_callq rfl (c_eqExprNode) hP (lal_id _ rfl) rfl ?_ | refine ax_call rfl (vc_pure0 (c_eqExprNode) hP rfl rfl ?_)
      refine ax_q (q_not rfl) ?_
      refine ax_nil ?_
      refine cx_keep rfl rfl ?_
      refine cx_cond rfl (fun h2 => ?_) (fun h2 => ?_)
      · have h2 := bT h2
        refine cx_seq ?_
        refine cx_ops ?_
        refine ax_q (q_mov rfl) ?_
        refine ax_nil ?_
        refine cx_keep rfl rfl ?_
        refine cx_ret (ret0 rfl rfl ?_)
        exact ⟨congrArg AM.bool (eqbL_no h1x h1y h2).symm, rfl⟩
      · have h2 := bF h2
        refine cx_skip ?_
        refine cx_keep rfl rfl ?_
        refine cx_ops ?_
        refine ax_q (q_mov rfl) ?_
        refine ax_q (q_add rfl rfl (by omega)) ?_
        refine ax_q (q_mov rfl) ?_
        refine ax_nil ?_
        exact ⟨_, k + 1, by omega, ⟨by omega, rfl, eqbL_step h1x h1y ht h2⟩, by repeat (first | exact trivial | refine ⟨rfl, ?_⟩ | refine ⟨?_, ?_⟩)⟩
    · have h1 := dF h1
      refine cx_exit rfl ?_
      refine cx_keep rfl rfl ?_
      refine cx_seq ?_
      refine cx_ops ?_
      refine ax_q (q_mov rfl) ?_
      refine ax_nil ?_
      refine cx_keep rfl rfl ?_
      refine cx_ret (ret0 rfl rfl ?_)
      exact ⟨congrArg AM.bool (eqb_t (eq_of_take hl (by rwa [show k = xs.length from by omega] at ht))).symm, rfl⟩


/- loop.example/g00332/laws.eqExpr -/
def k_c_eqExpr : XCode :=
  .seq (.ops [.op (some 2) (.box (.t 0)),
     .op (some 3) (.box (.t 1)),
     .op (some 4) (.mov (.k (.bool false)))])
  (.keep [2, 3] (.seq (.seq (.ops [.op (some 5) (.fadr (.t 2) 0),
      .op (some 6) (.load1 (.t 5)),
      .op (some 7) (.fadr (.t 3) 0),
      .op (some 8) (.load1 (.t 7)),
      .call (some 9) 60 [.t 6, .t 8],
      .op (some 10) (.not (.t 9))])
   (.keep [10] (.cond (.t 10)
    (.seq (.ops [.op (some 4) (.mov (.k (.bool false)))])
     (.keep [4] (.ret)))
    (.skip))))
  (.keep [] (.seq (.ops [.op (some 4) (.mov (.k (.bool true)))])
  (.keep [4] (.ret))))))
theorem k_c_eqExpr_fits : fitsF Try.prog 26 ⟨11, k_c_eqExpr, [.t 4]⟩ = true := by kernel_rfl
theorem c_eqExpr {a b : GExpr} (hw0 : a.Nodes.length ≤ 9223372036854775807) : Con Try.prog noMv 26 [a.av, b.av] [] (fun r h => r = bool (eqb a b) ∧ h = []) := by
  refine con_of2 k_c_eqExpr_fits rfl fun C hP hmv => ?_
  unfold k_c_eqExpr
  refine cx_seq ?_
  refine cx_ops ?_
  refine ax_e (e_box rfl rfl (by decide) rfl rfl rfl) ?_
  refine ax_e (e_box rfl rfl (by decide) rfl rfl rfl) ?_
  refine ax_q (q_mov rfl) ?_
  refine ax_nil ?_
  refine cx_keep rfl rfl ?_
  refine cx_seq ?_
  refine cx_seq ?_
  refine cx_ops ?_
  first | refine ax_q (q_fadr_ptr rfl) ?_ | refine ax_q (q_fadr_rptr rfl) ?_ | refine ax_q (q_fadr_ip rfl) ?_
  first | refine ax_q (q_load1_ptr rfl rfl rfl) ?_ | refine ax_q (q_load1_ip rfl) ?_ | refine ax_q (q_load1_rptr rfl rfl rfl rfl) ?_ | refine ax_q (q_load1_rptr rfl rfl (by assumption) rfl) ?_ | refine ax_q (q_load1_rptr rfl rfl (mapAt (by first | assumption | omega)) rfl) ?_
  first | refine ax_q (q_fadr_ptr rfl) ?_ | refine ax_q (q_fadr_rptr rfl) ?_ | refine ax_q (q_fadr_ip rfl) ?_
  first | refine ax_q (q_load1_ptr rfl rfl rfl) ?_ | refine ax_q (q_load1_ip rfl) ?_ | refine ax_q (q_load1_rptr rfl rfl rfl rfl) ?_ | refine ax_q (q_load1_rptr rfl rfl (by assumption) rfl) ?_ | refine ax_q (q_load1_rptr rfl rfl (mapAt (by first | assumption | omega)) rfl) ?_
  first | refine ax_call rfl (vc_pure0 (c_eqExprNodeS  ?_) hP rfl rfl ?_) | refine ax_call rfl (vc_lend0 (c_eqExprNodeS  ?_) hP (by repeat (first | exact lal_id _ rfl | exact LAL.nil | refine LAL.cons ?_ ?_ | exact la_id _ rfl | exact LA.lend (lend_whole rfl (by first | (simp; done) | (rw [List.length_map]; rfl))) | refine LA.agg ?_ | refine LA.fn ?_ | refine LA.lend ?_ | exact Lend.d _ | exact Lend.zs _ | exact lend_whole rfl (by first | (simp; done) | (rw [List.length_map]; rfl)) | refine Lend.ptr rfl ?_ | refine Lend.fn ?_ | exact LendL.nil | refine LendL.cons ?_ ?_)) rfl rfl ?_)
  · first | assumption | omega | (simp; done) | (simp; omega)
  refine ax_q (q_not rfl) ?_
  refine ax_nil ?_
  refine cx_keep rfl rfl ?_
  refine cx_cond rfl (fun h0 => ?_) (fun h0 => ?_)
  · have h0 := bT h0
    refine cx_seq ?_
    refine cx_ops ?_
    refine ax_q (q_mov rfl) ?_
    refine ax_nil ?_
    refine cx_keep rfl rfl ?_
    refine cx_ret (ret0 rfl rfl ?_)
    exact ⟨congrArg AM.bool (eqb_f (fun h => by rw [h, eqb_rfl] at h0; cases h0)).symm, rfl⟩
  · have h0 := bF h0
    refine cx_skip ?_
    refine cx_keep rfl rfl ?_
    refine cx_seq ?_
    refine cx_ops ?_
    refine ax_q (q_mov rfl) ?_
    refine ax_nil ?_
    refine cx_keep rfl rfl ?_
    refine cx_ret (ret0 rfl rfl ?_)
    exact ⟨congrArg AM.bool (eqb_t (GExpr.ext1 (eqb_iff.1 h0))).symm, rfl⟩


/- loop.example/g00332/laws.szRow -/
def k_c_szRow : XCode :=
  .seq (.ops [.op (some 2) (.box (.t 0)),
     .op (some 4) (.mov (.k (.int .i64 0)))])
  (.keep [1, 2] (.seq (.ops [.op (some 5) (.fadr (.t 2) 1),
     .op (some 6) (.loadN 3 (.t 5)),
     .op (some 7) (.mov (.t 1)),
     .call (some 8) 63 [.t 6, .t 7],
     .op (some 1) (.mov (.t 8))])
  (.keep [1, 2] (.seq (.seq (.ops [.op (some 9) (.mov (.t 1)),
      .op (some 10) (.bin .lss (.t 9) (.k (.int .i64 0)))])
   (.keep [1, 2, 10] (.cond (.t 10)
    (.seq (.ops [.op (some 4) (.mov (.k (.int .i64 (-1))))])
     (.keep [4] (.ret)))
    (.skip))))
  (.keep [1, 2] (.seq (.ops [.op (some 11) (.fadr (.t 2) 4),
     .op (some 12) (.loadN 3 (.t 11)),
     .op (some 13) (.mov (.t 1)),
     .call (some 14) 63 [.t 12, .t 13],
     .op (some 1) (.mov (.t 14))])
  (.keep [1] (.seq (.seq (.ops [.op (some 15) (.mov (.t 1)),
      .op (some 16) (.bin .lss (.t 15) (.k (.int .i64 0)))])
   (.keep [1, 16] (.cond (.t 16)
    (.seq (.ops [.op (some 4) (.mov (.k (.int .i64 (-1))))])
     (.keep [4] (.ret)))
    (.skip))))
  (.keep [1] (.seq (.ops [.op (some 17) (.mov (.t 1)),
     .op (some 4) (.mov (.t 17))])
  (.keep [4] (.ret))))))))))))
theorem k_c_szRow_fits : fitsF Try.prog 30 ⟨18, k_c_szRow, [.t 4]⟩ = true := by kernel_rfl
theorem c_szRow {a : GRow} {left : Int} (h0 : 0 ≤ left) (hl : left ≤ 1048576) (hw : a.wf) : Con Try.prog noMv 30 [a.av, int left] [] (fun r h => r = int (szF left (GRow.sz a)) ∧ h = []) := by
  refine con_of2 k_c_szRow_fits rfl fun C hP hmv => ?_
  unfold k_c_szRow
  have sp := szF_spec left (GRow.sz a)
  have e0 : GRow.sz a = GValue.sz a.N + GValue.sz a.Name := rfl
  rw [e0] at sp ⊢
  obtain ⟨w0, w1, w2⟩ := hw
  refine cx_seq ?_
  refine cx_ops ?_
  refine ax_e (e_box rfl rfl (by decide) rfl rfl rfl) ?_
  refine ax_q (q_mov rfl) ?_
  refine ax_nil ?_
  refine cx_keep rfl rfl ?_
  refine cx_seq ?_
  refine cx_ops ?_
  first | refine ax_q (q_fadr_ptr rfl) ?_ | refine ax_q (q_fadr_rptr rfl) ?_ | refine ax_q (q_fadr_ip rfl) ?_
  first | refine ax_q (q_ldN rfl rfl rfl) ?_ | refine ax_q (q_loadN_ip rfl (Nat.le_refl _)) ?_ | refine ax_q (q_loadN_ip rfl (by decide)) ?_ | refine ax_q (q_loadN_rptr rfl rfl (by assumption) (by decide)) ?_ | refine ax_q (q_loadN_rptr rfl rfl (mapAt (by first | assumption | omega)) (by decide)) ?_
  refine ax_q (q_mov rfl) ?_
  have q0 := szF_spec left (GValue.sz a.N)
  first | refine ax_call rfl (vc_pure0 (c_szValue  ?_ ?_ ?_) hP rfl rfl ?_) | refine ax_call rfl (vc_lend0 (c_szValue  ?_ ?_ ?_) hP (by repeat (first | exact lal_id _ rfl | exact LAL.nil | refine LAL.cons ?_ ?_ | exact la_id _ rfl | exact LA.lend (lend_whole rfl (by first | (simp; done) | (rw [List.length_map]; rfl))) | refine LA.agg ?_ | refine LA.fn ?_ | refine LA.lend ?_ | exact Lend.d _ | exact Lend.zs _ | exact lend_whole rfl (by first | (simp; done) | (rw [List.length_map]; rfl)) | refine Lend.ptr rfl ?_ | refine Lend.fn ?_ | exact LendL.nil | refine LendL.cons ?_ ?_)) rfl rfl ?_)
  · first | assumption | omega | (simp; done) | (simp; omega)
  · first | assumption | omega | (simp; done) | (simp; omega)
  · first | assumption | omega | (simp; done) | (simp; omega)
  refine ax_q (q_mov rfl) ?_
  refine ax_nil ?_
  refine cx_keep rfl rfl ?_
  refine cx_seq ?_
  refine cx_seq ?_
  refine cx_ops ?_
  refine ax_q (q_mov rfl) ?_
  refine ax_q (q_ibin rfl rfl rfl) ?_
  refine ax_nil ?_
  refine cx_keep rfl rfl ?_
  refine cx_cond rfl (fun h0 => ?_) (fun h0 => ?_)
  · have h0 := dT h0
    refine cx_seq ?_
    refine cx_ops ?_
    refine ax_q (q_mov rfl) ?_
    refine ax_nil ?_
    refine cx_keep rfl rfl ?_
    refine cx_ret (ret0 rfl rfl ?_)
    exact ⟨congrArg int (by omega), rfl⟩
  · have h0 := dF h0
    refine cx_skip ?_
    refine cx_keep rfl rfl ?_
    refine cx_seq ?_
    refine cx_ops ?_
    first | refine ax_q (q_fadr_ptr rfl) ?_ | refine ax_q (q_fadr_rptr rfl) ?_ | refine ax_q (q_fadr_ip rfl) ?_
    first | refine ax_q (q_ldN rfl rfl rfl) ?_ | refine ax_q (q_loadN_ip rfl (Nat.le_refl _)) ?_ | refine ax_q (q_loadN_ip rfl (by decide)) ?_ | refine ax_q (q_loadN_rptr rfl rfl (by assumption) (by decide)) ?_ | refine ax_q (q_loadN_rptr rfl rfl (mapAt (by first | assumption | omega)) (by decide)) ?_
    refine ax_q (q_mov rfl) ?_
    have q1 := szF_spec (szF left (GValue.sz a.N)) (GValue.sz a.Name)
    first | refine ax_call rfl (vc_pure0 (c_szValue  ?_ ?_ ?_) hP rfl rfl ?_) | refine ax_call rfl (vc_lend0 (c_szValue  ?_ ?_ ?_) hP (by repeat (first | exact lal_id _ rfl | exact LAL.nil | refine LAL.cons ?_ ?_ | exact la_id _ rfl | exact LA.lend (lend_whole rfl (by first | (simp; done) | (rw [List.length_map]; rfl))) | refine LA.agg ?_ | refine LA.fn ?_ | refine LA.lend ?_ | exact Lend.d _ | exact Lend.zs _ | exact lend_whole rfl (by first | (simp; done) | (rw [List.length_map]; rfl)) | refine Lend.ptr rfl ?_ | refine Lend.fn ?_ | exact LendL.nil | refine LendL.cons ?_ ?_)) rfl rfl ?_)
    · first | assumption | omega | (simp; done) | (simp; omega)
    · first | assumption | omega | (simp; done) | (simp; omega)
    · first | assumption | omega | (simp; done) | (simp; omega)
    refine ax_q (q_mov rfl) ?_
    refine ax_nil ?_
    refine cx_keep rfl rfl ?_
    refine cx_seq ?_
    refine cx_seq ?_
    refine cx_ops ?_
    refine ax_q (q_mov rfl) ?_
    refine ax_q (q_ibin rfl rfl rfl) ?_
    refine ax_nil ?_
    refine cx_keep rfl rfl ?_
    refine cx_cond rfl (fun h1 => ?_) (fun h1 => ?_)
    · have h1 := dT h1
      refine cx_seq ?_
      refine cx_ops ?_
      refine ax_q (q_mov rfl) ?_
      refine ax_nil ?_
      refine cx_keep rfl rfl ?_
      refine cx_ret (ret0 rfl rfl ?_)
      exact ⟨congrArg int (by omega), rfl⟩
    · have h1 := dF h1
      refine cx_skip ?_
      refine cx_keep rfl rfl ?_
      refine cx_seq ?_
      refine cx_ops ?_
      refine ax_q (q_mov rfl) ?_
      refine ax_q (q_mov rfl) ?_
      refine ax_nil ?_
      refine cx_keep rfl rfl ?_
      refine cx_ret (ret0 rfl rfl ?_)
      exact ⟨congrArg int (by omega), rfl⟩


/- loop.example/g00332/spec.l01In -/
def k_c_l01In : XCode :=
  .seq (.ops [.op (some 6) (.mov (.k (.bool false)))])
  (.keep [0, 1, 2] (.seq (.ops [.op (some 7) (.mov (.t 1)),
     .op (some 8) (.mov (.t 0)),
     .op (some 9) (.bin .leq (.t 7) (.t 8)),
     .op (some 10) (.mov (.t 9)),
     .andor 14 true 3 10 [.op (some 11) (.mov (.t 0)), .op (some 12) (.mov (.t 2)), .op (some 13) (.bin .leq (.t 11) (.t 12))] (.t 13),
     .op (some 6) (.mov (.t 14))])
  (.keep [6] (.ret))))
theorem k_c_l01In_fits : fitsF Try.prog 45 ⟨15, k_c_l01In, [.t 6]⟩ = true := by kernel_rfl
theorem c_l01In {n lo hi : Int} : Con Try.prog noMv 45 [int n, int lo, int hi] [] (fun r h => r = bool (inR n lo hi) ∧ h = []) := by
  refine con_of2 k_c_l01In_fits rfl fun C hP hmv => ?_
  unfold k_c_l01In
  refine cx_seq ?_
  refine cx_ops ?_
  refine ax_q (q_mov rfl) ?_
  refine ax_nil ?_
  refine cx_keep rfl rfl ?_
  refine cx_seq ?_
  refine cx_ops ?_
  refine ax_q (q_mov rfl) ?_
  refine ax_q (q_mov rfl) ?_
  refine ax_q (q_ibin rfl rfl rfl) ?_
  refine ax_q (q_mov rfl) ?_
  apply ax_and rfl rfl
  · intro g
    have g := dT g
    refine ax_q (q_mov rfl) ?_
    refine ax_q (q_mov rfl) ?_
    refine ax_q (q_ibin rfl rfl rfl) ?_
    exact ax_nil ⟨rfl, by repeat (first | exact trivial | refine ⟨rfl, ?_⟩ | refine ⟨?_, ?_⟩)⟩
  refine ax_q (q_mov rfl) ?_
  refine ax_nil ?_
  refine cx_keep rfl rfl ?_
  refine cx_ret (ret0 rfl rfl ?_)
  exact ⟨rfl, rfl⟩


/- loop.example/g00332/spec.ValueOK -/
def k_c_sValueOK : XCode :=
  .seq (.ops [.op (some 1) (.box (.t 0)),
     .op (some 2) (.mov (.k (.bool false)))])
  (.keep [1] (.seq (.seq (.ops [.op (some 4) (.fadr (.t 1) 0),
      .op (some 5) (.load1 (.t 4))])
   (.keep [1, 5] (.block 0 (.seq (.ops [.op (some 7) (.bin .eql (.t 5) (.k (.int .i64 0))),
       .op (some 6) (.mov (.t 7))])
    (.keep [1, 5, 6] (.cond (.t 6)
     (.seq (.ops [.op (some 8) (.fadr (.t 1) 1),
         .op (some 9) (.load1 (.t 8)),
         .op (some 10) (.bin .eql (.t 9) (.k (.int .i64 0))),
         .op (some 11) (.mov (.t 10)),
         .andor 15 true 3 11 [.op (some 12) (.fadr (.t 1) 2), .op (some 13) (.load1 (.t 12)), .op (some 14) (.bin .eql (.t 13) (.k (.str [])))] (.t 14),
         .op (some 2) (.mov (.t 15))])
      (.keep [2] (.ret)))
     (.seq (.ops [.op (some 17) (.bin .eql (.t 5) (.k (.int .i64 1))),
         .op (some 16) (.mov (.t 17))])
      (.keep [1, 5, 16] (.cond (.t 16)
       (.seq (.ops [.op (some 18) (.fadr (.t 1) 1),
           .op (some 19) (.load1 (.t 18)),
           .call (some 20) 45 [.t 19, .k (.int .i64 (-1000000000)), .k (.int .i64 1000000000)],
           .op (some 21) (.mov (.t 20)),
           .andor 25 true 3 21 [.op (some 22) (.fadr (.t 1) 2), .op (some 23) (.load1 (.t 22)), .op (some 24) (.bin .eql (.t 23) (.k (.str [])))] (.t 24),
           .op (some 2) (.mov (.t 25))])
        (.keep [2] (.ret)))
       (.seq (.ops [.op (some 27) (.bin .eql (.t 5) (.k (.int .i64 2))),
           .op (some 26) (.mov (.t 27))])
        (.keep [1, 26] (.cond (.t 26)
         (.seq (.seq (.ops [.op (some 28) (.fadr (.t 1) 1),
              .op (some 29) (.load1 (.t 28)),
              .op (some 30) (.bin .neq (.t 29) (.k (.int .i64 0))),
              .op (some 31) (.mov (.t 30)),
              .andor 36 false 3 31 [.op (some 32) (.fadr (.t 1) 2), .op (some 33) (.load1 (.t 32)), .op (some 34) (.lenT (.t 33)), .op (some 35) (.bin .gtr (.t 34) (.k (.int .i64 10)))] (.t 35)])
           (.keep [1, 36] (.cond (.t 36)
            (.seq (.ops [.op (some 2) (.mov (.k (.bool false)))])
             (.keep [2] (.ret)))
            (.skip))))
          (.keep [1] (.seq (.seq (.ops [.op (some 3) (.mov (.k (.int .i64 0)))])
           (.keep [1, 3] (.block 1 (.loop (.seq (.seq (.ops [.op (some 37) (.mov (.t 3)),
                 .op (some 38) (.fadr (.t 1) 2),
                 .op (some 39) (.load1 (.t 38)),
                 .op (some 40) (.lenT (.t 39)),
                 .op (some 41) (.bin .lss (.t 37) (.t 40))])
              (.keep [1, 3, 41] (.cond (.t 41)
               (.skip)
               (.exit 1))))
             (.keep [1, 3] (.seq (.block 2 (.seq (.ops [.op (some 44) (.fadr (.t 1) 2),
                  .op (some 45) (.load1 (.t 44)),
                  .op (some 46) (.mov (.t 3)),
                  .op (some 47) (.idxS (.t 45) (.t 46)),
                  .op (some 48) (.conv .i64 (.t 47)),
                  .call (some 49) 45 [.t 48, .k (.int .i64 97), .k (.int .i64 122)],
                  .op (some 50) (.not (.t 49))])
               (.keep [1, 3, 50] (.cond (.t 50)
                (.seq (.ops [.op (some 2) (.mov (.k (.bool false)))])
                 (.keep [2] (.ret)))
                (.skip)))))
             (.keep [1, 3] (.ops [.op (some 42) (.mov (.t 3)),
               .op (some 43) (.bin .add (.t 42) (.k (.int .i64 1))),
               .op (some 3) (.mov (.t 43))])))))))))
          (.keep [] (.seq (.ops [.op (some 2) (.mov (.k (.bool true)))])
          (.keep [2] (.ret)))))))
         (.skip)))))))))))))
  (.keep [] (.seq (.ops [.op (some 2) (.mov (.k (.bool false)))])
  (.keep [2] (.ret))))))
theorem k_c_sValueOK_fits : fitsF Try.prog 72 ⟨51, k_c_sValueOK, [.t 2]⟩ = true := by kernel_rfl
theorem c_sValueOK {v : GValue} (hv : v.T.length ≤ 1048576) : Con Try.prog noMv 72 [v.av] [] (fun r h => r = bool (valueOK v) ∧ h = []) := by
  refine con_of2 k_c_sValueOK_fits rfl fun C hP hmv => ?_
  unfold k_c_sValueOK
  refine cx_seq ?_
  refine cx_ops ?_
  refine ax_e (e_box rfl rfl (by decide) rfl rfl rfl) ?_
  refine ax_q (q_mov rfl) ?_
  refine ax_nil ?_
  refine cx_keep rfl rfl ?_
  refine cx_seq ?_
  refine cx_seq ?_
  refine cx_ops ?_
  first | refine ax_q (q_fadr_ptr rfl) ?_ | refine ax_q (q_fadr_rptr rfl) ?_ | refine ax_q (q_fadr_ip rfl) ?_
  first | refine ax_q (q_load1_ptr rfl rfl rfl) ?_ | refine ax_q (q_load1_ip rfl) ?_ | refine ax_q (q_load1_rptr rfl rfl rfl rfl) ?_ | refine ax_q (q_load1_rptr rfl rfl (by assumption) rfl) ?_ | refine ax_q (q_load1_rptr rfl rfl (mapAt (by first | assumption | omega)) rfl) ?_
  refine ax_nil ?_
  refine cx_keep rfl rfl ?_
  refine cx_block ?_
  refine cx_seq ?_
  refine cx_ops ?_
  refine ax_q (q_ibin rfl rfl rfl) ?_
  refine ax_q (q_mov rfl) ?_
  refine ax_nil ?_
  refine cx_keep rfl rfl ?_
  refine cx_cond rfl (fun h0 => ?_) (fun h0 => ?_)
  · have h0 := dT h0
    refine cx_seq ?_
    refine cx_ops ?_
    first | refine ax_q (q_fadr_ptr rfl) ?_ | refine ax_q (q_fadr_rptr rfl) ?_ | refine ax_q (q_fadr_ip rfl) ?_
    first | refine ax_q (q_load1_ptr rfl rfl rfl) ?_ | refine ax_q (q_load1_ip rfl) ?_ | refine ax_q (q_load1_rptr rfl rfl rfl rfl) ?_ | refine ax_q (q_load1_rptr rfl rfl (by assumption) rfl) ?_ | refine ax_q (q_load1_rptr rfl rfl (mapAt (by first | assumption | omega)) rfl) ?_
    refine ax_q (q_ibin rfl rfl rfl) ?_
    refine ax_q (q_mov rfl) ?_
    apply ax_and rfl rfl
    · intro g
      have g := dT g
      first | refine ax_q (q_fadr_ptr rfl) ?_ | refine ax_q (q_fadr_rptr rfl) ?_ | refine ax_q (q_fadr_ip rfl) ?_
      first | refine ax_q (q_load1_ptr rfl rfl rfl) ?_ | refine ax_q (q_load1_ip rfl) ?_ | refine ax_q (q_load1_rptr rfl rfl rfl rfl) ?_ | refine ax_q (q_load1_rptr rfl rfl (by assumption) rfl) ?_ | refine ax_q (q_load1_rptr rfl rfl (mapAt (by first | assumption | omega)) rfl) ?_
      refine ax_q (q_sbin rfl rfl rfl) ?_
      exact ax_nil ⟨rfl, by repeat (first | exact trivial | refine ⟨rfl, ?_⟩ | refine ⟨?_, ?_⟩)⟩
    refine ax_q (q_mov rfl) ?_
    refine ax_nil ?_
    refine cx_keep rfl rfl ?_
    refine cx_ret (ret0 rfl rfl ?_)
    exact ⟨by rw [valueOK_0 h0] <;> rfl, rfl⟩
  · have h0 := dF h0
    refine cx_seq ?_
    refine cx_ops ?_
    refine ax_q (q_ibin rfl rfl rfl) ?_
    refine ax_q (q_mov rfl) ?_
    refine ax_nil ?_
    refine cx_keep rfl rfl ?_
    refine cx_cond rfl (fun h1 => ?_) (fun h1 => ?_)
    · have h1 := dT h1
      refine cx_seq ?_
      refine cx_ops ?_
      first | refine ax_q (q_fadr_ptr rfl) ?_ | refine ax_q (q_fadr_rptr rfl) ?_ | refine ax_q (q_fadr_ip rfl) ?_
      first | refine ax_q (q_load1_ptr rfl rfl rfl) ?_ | refine ax_q (q_load1_ip rfl) ?_ | refine ax_q (q_load1_rptr rfl rfl rfl rfl) ?_ | refine ax_q (q_load1_rptr rfl rfl (by assumption) rfl) ?_ | refine ax_q (q_load1_rptr rfl rfl (mapAt (by first | assumption | omega)) rfl) ?_
      first | refine ax_call rfl (vc_pure0 (c_l01In  ) hP rfl rfl ?_) | refine ax_call rfl (vc_lend0 (c_l01In  ) hP (by repeat (first | exact lal_id _ rfl | exact LAL.nil | refine LAL.cons ?_ ?_ | exact la_id _ rfl | exact LA.lend (lend_whole rfl (by first | (simp; done) | (rw [List.length_map]; rfl))) | refine LA.agg ?_ | refine LA.fn ?_ | refine LA.lend ?_ | exact Lend.d _ | exact Lend.zs _ | exact lend_whole rfl (by first | (simp; done) | (rw [List.length_map]; rfl)) | refine Lend.ptr rfl ?_ | refine Lend.fn ?_ | exact LendL.nil | refine LendL.cons ?_ ?_)) rfl rfl ?_)
      refine ax_q (q_mov rfl) ?_
      apply ax_and rfl rfl
      · intro g
        first | refine ax_q (q_fadr_ptr rfl) ?_ | refine ax_q (q_fadr_rptr rfl) ?_ | refine ax_q (q_fadr_ip rfl) ?_
        first | refine ax_q (q_load1_ptr rfl rfl rfl) ?_ | refine ax_q (q_load1_ip rfl) ?_ | refine ax_q (q_load1_rptr rfl rfl rfl rfl) ?_ | refine ax_q (q_load1_rptr rfl rfl (by assumption) rfl) ?_ | refine ax_q (q_load1_rptr rfl rfl (mapAt (by first | assumption | omega)) rfl) ?_
        refine ax_q (q_sbin rfl rfl rfl) ?_
        exact ax_nil ⟨rfl, by repeat (first | exact trivial | refine ⟨rfl, ?_⟩ | refine ⟨?_, ?_⟩)⟩
      refine ax_q (q_mov rfl) ?_
      refine ax_nil ?_
      refine cx_keep rfl rfl ?_
      refine cx_ret (ret0 rfl rfl ?_)
      exact ⟨by rw [valueOK_1 h1] <;> rfl, rfl⟩
    · have h1 := dF h1
      refine cx_seq ?_
      refine cx_ops ?_
      refine ax_q (q_ibin rfl rfl rfl) ?_
      refine ax_q (q_mov rfl) ?_
      refine ax_nil ?_
      refine cx_keep rfl rfl ?_
      refine cx_cond rfl (fun h2 => ?_) (fun h2 => ?_)
      · have h2 := dT h2
        refine cx_seq ?_
        refine cx_seq ?_
        refine cx_ops ?_
        first | refine ax_q (q_fadr_ptr rfl) ?_ | refine ax_q (q_fadr_rptr rfl) ?_ | refine ax_q (q_fadr_ip rfl) ?_
        first | refine ax_q (q_load1_ptr rfl rfl rfl) ?_ | refine ax_q (q_load1_ip rfl) ?_ | refine ax_q (q_load1_rptr rfl rfl rfl rfl) ?_ | refine ax_q (q_load1_rptr rfl rfl (by assumption) rfl) ?_ | refine ax_q (q_load1_rptr rfl rfl (mapAt (by first | assumption | omega)) rfl) ?_
        refine ax_q (q_ibin rfl rfl rfl) ?_
        refine ax_q (q_mov rfl) ?_
        apply ax_or rfl rfl
        · intro g
          have g := nF g
          first | refine ax_q (q_fadr_ptr rfl) ?_ | refine ax_q (q_fadr_rptr rfl) ?_ | refine ax_q (q_fadr_ip rfl) ?_
          first | refine ax_q (q_load1_ptr rfl rfl rfl) ?_ | refine ax_q (q_load1_ip rfl) ?_ | refine ax_q (q_load1_rptr rfl rfl rfl rfl) ?_ | refine ax_q (q_load1_rptr rfl rfl (by assumption) rfl) ?_ | refine ax_q (q_load1_rptr rfl rfl (mapAt (by first | assumption | omega)) rfl) ?_
          refine ax_q (q_lenT rfl) ?_
          refine ax_q (q_ibin rfl rfl rfl) ?_
          exact ax_nil ⟨rfl, by repeat (first | exact trivial | refine ⟨rfl, ?_⟩ | refine ⟨?_, ?_⟩)⟩
        refine ax_nil ?_
        refine cx_keep rfl rfl ?_
        refine cx_cond rfl (fun h3 => ?_) (fun h3 => ?_)
        · have h3 := (fun h => (or_T h).imp nT dT) h3
          refine cx_seq ?_
          refine cx_ops ?_
          refine ax_q (q_mov rfl) ?_
          refine ax_nil ?_
          refine cx_keep rfl rfl ?_
          refine cx_ret (ret0 rfl rfl ?_)
          have e : valueOK v = false := by
            rw [valueOK_2 h0 h1]
            rcases h3 with h | h
            · simp [h]
            · unfold isWord; rw [decide_eq_false (show ¬ ((v.T.length : Int) ≤ 10) from by omega)]; simp
          exact ⟨by rw [e] <;> rfl, rfl⟩
        · have h3 := (fun h => And.intro (nF (or_F h).1) (dF (or_F h).2)) h3
          refine cx_skip ?_
          refine cx_keep rfl rfl ?_
          refine cx_seq ?_
          refine cx_seq ?_
          refine cx_ops ?_
          refine ax_q (q_mov rfl) ?_
          refine ax_nil ?_
          refine cx_keep rfl rfl ?_
          refine cx_block ?_
          refine cx_loopU (fun n k => k ≤ v.T.length ∧ n = v.T.length - k ∧ ∀ j, j < k → ∀ x, v.T[j]? = some x → badCh x = false) (fun k : Nat => [(3, int k)]) (fun _ => [(1, .box [.d (.int .i64 v.Kind), .d (.int .i64 v.N), .d (.str v.T)])]) ⟨_, 0, ⟨Nat.zero_le _, rfl, fun j hj => by omega⟩, by repeat (first | exact trivial | refine ⟨rfl, ?_⟩ | refine ⟨?_, ?_⟩)⟩ ?_
          rintro n k ⟨hk, rfl, hb⟩
          refine cx_seq ?_
          refine cx_seq ?_
          refine cx_ops ?_
          refine ax_q (q_mov rfl) ?_
          first | refine ax_q (q_fadr_ptr rfl) ?_ | refine ax_q (q_fadr_rptr rfl) ?_ | refine ax_q (q_fadr_ip rfl) ?_
          first | refine ax_q (q_load1_ptr rfl rfl rfl) ?_ | refine ax_q (q_load1_ip rfl) ?_ | refine ax_q (q_load1_rptr rfl rfl rfl rfl) ?_ | refine ax_q (q_load1_rptr rfl rfl (by assumption) rfl) ?_ | refine ax_q (q_load1_rptr rfl rfl (mapAt (by first | assumption | omega)) rfl) ?_
          refine ax_q (q_lenT rfl) ?_
          refine ax_q (q_ibin rfl rfl rfl) ?_
          refine ax_nil ?_
          refine cx_keep rfl rfl ?_
          refine cx_cond rfl (fun h4 => ?_) (fun h4 => ?_)
          · have h4 := dT h4
            have h4x : k < v.T.length := by omega
            refine cx_skip ?_
            refine cx_keep rfl rfl ?_
            refine cx_seq ?_
            refine cx_block ?_
            refine cx_seq ?_
            refine cx_ops ?_
            first | refine ax_q (q_fadr_ptr rfl) ?_ | refine ax_q (q_fadr_rptr rfl) ?_ | refine ax_q (q_fadr_ip rfl) ?_
            first | refine ax_q (q_load1_ptr rfl rfl rfl) ?_ | refine ax_q (q_load1_ip rfl) ?_ | refine ax_q (q_load1_rptr rfl rfl rfl rfl) ?_ | refine ax_q (q_load1_rptr rfl rfl (by assumption) rfl) ?_ | refine ax_q (q_load1_rptr rfl rfl (mapAt (by first | assumption | omega)) rfl) ?_
            refine ax_q (q_mov rfl) ?_
            refine ax_q (q_idxN rfl rfl (by first | assumption | omega)) ?_
            first | refine ax_q (q_convB rfl) ?_ | refine ax_q (q_convI rfl (by omega)) ?_ | refine ax_q (q_convU8 rfl) ?_ | refine ax_q (q_conv rfl) ?_
            first | refine ax_call rfl (vc_pure0 (c_l01In  ) hP rfl rfl ?_) | refine ax_call rfl (vc_lend0 (c_l01In  ) hP (by repeat (first | exact lal_id _ rfl | exact LAL.nil | refine LAL.cons ?_ ?_ | exact la_id _ rfl | exact LA.lend (lend_whole rfl (by first | (simp; done) | (rw [List.length_map]; rfl))) | refine LA.agg ?_ | refine LA.fn ?_ | refine LA.lend ?_ | exact Lend.d _ | exact Lend.zs _ | exact lend_whole rfl (by first | (simp; done) | (rw [List.length_map]; rfl)) | refine Lend.ptr rfl ?_ | refine Lend.fn ?_ | exact LendL.nil | refine LendL.cons ?_ ?_)) rfl rfl ?_)
            refine ax_q (q_not rfl) ?_
            refine ax_nil ?_
            refine cx_keep rfl rfl ?_
            refine cx_cond rfl (fun h5 => ?_) (fun h5 => ?_)
            · have h5 : badCh v.T[k] = true := h5
              refine cx_seq ?_
              refine cx_ops ?_
              refine ax_q (q_mov rfl) ?_
              refine ax_nil ?_
              refine cx_keep rfl rfl ?_
              refine cx_ret (ret0 rfl rfl ?_)
              have e : valueOK v = false := by
                rw [valueOK_2 h0 h1]; unfold isWord; rw [any_hit h4x h5]; simp
              exact ⟨by rw [e]; rfl, rfl⟩
            · have h5 : badCh v.T[k] = false := h5
              refine cx_skip ?_
              refine cx_keep rfl rfl ?_
              refine cx_ops ?_
              refine ax_q (q_mov rfl) ?_
              refine ax_qe (r' := int ((k + 1 : Nat) : Int)) (q_ibin rfl rfl rfl) (by rw [wi (by omega) (by omega)]; rfl) ?_
              refine ax_q (q_mov rfl) ?_
              refine ax_nil ?_
              exact ⟨_, k + 1, by omega, ⟨by omega, rfl, before_step h4x hb h5⟩, by repeat (first | exact trivial | refine ⟨rfl, ?_⟩ | refine ⟨?_, ?_⟩)⟩
          · have h4 := dF h4
            have h4x : k = v.T.length := by omega
            refine cx_exit rfl ?_
            refine cx_keep rfl rfl ?_
            refine cx_seq ?_
            refine cx_ops ?_
            refine ax_q (q_mov rfl) ?_
            refine ax_nil ?_
            refine cx_keep rfl rfl ?_
            refine cx_ret (ret0 rfl rfl ?_)
            exact ⟨by rw [valueOK_2 h0 h1]; unfold isWord; rw [any_all (fun i hi => hb i (by omega)), decide_eq_true h2, decide_eq_true (show v.N = 0 from by omega), decide_eq_true (show (v.T.length : Int) ≤ 10 from by omega)] <;> rfl, rfl⟩
      · have h2 := dF h2
        refine cx_skip ?_
        refine cx_keep rfl rfl ?_
        refine cx_seq ?_
        refine cx_ops ?_
        refine ax_q (q_mov rfl) ?_
        refine ax_nil ?_
        refine cx_keep rfl rfl ?_
        refine cx_ret (ret0 rfl rfl ?_)
        exact ⟨by rw [valueOK_2 h0 h1, decide_eq_false h2] <;> rfl, rfl⟩


/- loop.example/g00332/spec.l10Walk -/
def k_c_l10Walk : XCode :=
  .seq (.ops [.op (some 2) (.box (.t 0)),
     .op (some 4) (.mov (.k (.int .i64 0))),
     .op (some 5) (.mov (.k (.int .i64 0))),
     .op (some 6) (.mov (.k (.bool false)))])
  (.keep [1, 2] (.seq (.seq (.ops [.op (some 17) (.mov (.t 1)),
      .op (some 18) (.bin .lss (.t 17) (.k (.int .i64 0)))])
   (.keep [1, 2, 18] (.cond (.t 18)
    (.seq (.ops [.op (some 4) (.mov (.k (.int .i64 0))),
        .op (some 5) (.mov (.k (.int .i64 0))),
        .op (some 6) (.mov (.k (.bool false)))])
     (.keep [4, 5, 6] (.ret)))
    (.skip))))
  (.keep [1, 2] (.seq (.ops [.op (some 19) (.fadr (.t 2) 0),
     .op (some 20) (.load1 (.t 19)),
     .op (some 21) (.mov (.t 1)),
     .op (some 22) (.iadr 7 (.t 20) (.t 21)),
     .op (some 23) (.loadN 7 (.t 22)),
     .op (some 7) (.alloc [.int .i64 0, .int .i64 0, .int .i64 0, .int .i64 0, .int .i64 0, .int .i64 0, .str []]),
     .op none (.store 7 (.t 7) (.t 23))])
  (.keep [1, 2, 7] (.seq (.block 0 (.seq (.ops [.op (some 25) (.fadr (.t 7) 0),
       .op (some 26) (.load1 (.t 25)),
       .op (some 27) (.bin .eql (.t 26) (.k (.int .i64 1))),
       .op (some 24) (.mov (.t 27))])
    (.keep [1, 2, 7, 24] (.cond (.t 24)
     (.seq (.ops [.op (some 28) (.mov (.t 1)),
         .op (some 29) (.fadr (.t 7) 1),
         .op (some 30) (.load1 (.t 29)),
         .op (some 31) (.bin .eql (.t 30) (.k (.int .i64 0))),
         .op (some 32) (.mov (.t 31)),
         .andor 36 true 4 32 [.op (some 33) (.fadr (.t 7) 2), .op (some 34) (.load1 (.t 33)), .op (some 35) (.bin .eql (.t 34) (.k (.int .i64 0)))] (.t 35),
         .op (some 37) (.mov (.t 36)),
         .andor 41 true 9 37 [.op (some 38) (.fadr (.t 7) 3), .op (some 39) (.load1 (.t 38)), .op (some 40) (.bin .eql (.t 39) (.k (.int .i64 0)))] (.t 40),
         .op (some 42) (.mov (.t 41)),
         .andor 46 true 14 42 [.op (some 43) (.fadr (.t 7) 4), .op (some 44) (.loadN 3 (.t 43)), .call (some 45) 72 [.t 44]] (.t 45),
         .op (some 4) (.mov (.t 28)),
         .op (some 5) (.mov (.k (.int .i64 1))),
         .op (some 6) (.mov (.t 46))])
      (.keep [4, 5, 6] (.ret)))
     (.seq (.ops [.op (some 48) (.fadr (.t 7) 0),
         .op (some 49) (.load1 (.t 48)),
         .op (some 50) (.bin .eql (.t 49) (.k (.int .i64 2))),
         .op (some 47) (.mov (.t 50))])
      (.keep [1, 2, 7, 47] (.cond (.t 47)
       (.seq (.draw [.op (some 51) (.mov (.t 1)),
           .op (some 52) (.fadr (.t 7) 1),
           .op (some 53) (.load1 (.t 52)),
           .op (some 54) (.bin .eql (.t 53) (.k (.int .i64 0))),
           .op (some 55) (.mov (.t 54)),
           .andor 59 true 4 55 [.op (some 56) (.fadr (.t 7) 2), .op (some 57) (.load1 (.t 56)), .op (some 58) (.bin .eql (.t 57) (.k (.int .i64 0)))] (.t 58),
           .op (some 60) (.mov (.t 59)),
           .andor 64 true 9 60 [.op (some 61) (.fadr (.t 7) 3), .op (some 62) (.load1 (.t 61)), .call (some 63) 45 [.t 62, .k (.int .i64 0), .k (.int .i64 2)]] (.t 63),
           .op (some 65) (.mov (.t 64)),
           .andor 70 true 14 65 [.op (some 66) (.fadr (.t 7) 4), .op (some 67) (.loadN 3 (.t 66)), .op (some 68) (.build [.int .i64 0, .int .i64 0, .str []] []), .op (some 69) (.eqs false [0, 0, 2] (.t 67) (.t 68))] (.t 69),
           .op (some 4) (.mov (.t 51)),
           .op (some 5) (.mov (.k (.int .i64 1))),
           .op (some 6) (.mov (.t 70))])
        (.keep [4, 5, 6] (.ret)))
       (.seq (.ops [.op (some 72) (.fadr (.t 7) 0),
           .op (some 73) (.load1 (.t 72)),
           .call (some 74) 45 [.t 73, .k (.int .i64 3), .k (.int .i64 5)],
           .op (some 71) (.mov (.t 74))])
        (.keep [1, 2, 7, 71] (.cond (.t 71)
         (.seq (.ops [.op (some 76) (.loadN 1 (.t 2)),
             .op (some 77) (.mov (.t 1)),
             .op (some 78) (.bin .sub (.t 77) (.k (.int .i64 1))),
             .call (some 79) 75 [.t 76, .t 78],
             .op (some 75) (.mov (.t 79)),
             .op (some 80) (.ext (.t 75) 0),
             .op (some 81) (.ext (.t 75) 1),
             .op (some 82) (.ext (.t 75) 2),
             .op (some 8) (.mov (.t 80)),
             .op (some 9) (.mov (.t 81)),
             .op (some 10) (.mov (.t 82))])
          (.keep [1, 7, 8, 9, 10] (.seq (.draw [.op (some 83) (.mov (.t 8)),
             .op (some 84) (.mov (.t 9)),
             .op (some 85) (.bin .add (.t 84) (.k (.int .i64 1))),
             .op (some 86) (.mov (.t 10)),
             .op (some 87) (.mov (.t 86)),
             .andor 93 true 4 87 [.op (some 88) (.fadr (.t 7) 1), .op (some 89) (.load1 (.t 88)), .op (some 90) (.mov (.t 1)), .op (some 91) (.bin .sub (.t 90) (.k (.int .i64 1))), .op (some 92) (.bin .eql (.t 89) (.t 91))] (.t 92),
             .op (some 94) (.mov (.t 93)),
             .andor 98 true 11 94 [.op (some 95) (.fadr (.t 7) 2), .op (some 96) (.load1 (.t 95)), .op (some 97) (.bin .eql (.t 96) (.k (.int .i64 0)))] (.t 97),
             .op (some 99) (.mov (.t 98)),
             .andor 103 true 16 99 [.op (some 100) (.fadr (.t 7) 3), .op (some 101) (.load1 (.t 100)), .op (some 102) (.bin .eql (.t 101) (.k (.int .i64 0)))] (.t 102),
             .op (some 104) (.mov (.t 103)),
             .andor 109 true 21 104 [.op (some 105) (.fadr (.t 7) 4), .op (some 106) (.loadN 3 (.t 105)), .op (some 107) (.build [.int .i64 0, .int .i64 0, .str []] []), .op (some 108) (.eqs false [0, 0, 2] (.t 106) (.t 107))] (.t 108),
             .op (some 4) (.mov (.t 83)),
             .op (some 5) (.mov (.t 85)),
             .op (some 6) (.mov (.t 109))])
          (.keep [4, 5, 6] (.ret)))))
         (.seq (.ops [.op (some 111) (.fadr (.t 7) 0),
             .op (some 112) (.load1 (.t 111)),
             .call (some 113) 45 [.t 112, .k (.int .i64 6), .k (.int .i64 13)],
             .op (some 110) (.mov (.t 113))])
          (.keep [1, 2, 7, 110] (.cond (.t 110)
           (.seq (.ops [.op (some 115) (.loadN 1 (.t 2)),
               .op (some 116) (.mov (.t 1)),
               .op (some 117) (.bin .sub (.t 116) (.k (.int .i64 1))),
               .call (some 118) 75 [.t 115, .t 117],
               .op (some 114) (.mov (.t 118)),
               .op (some 119) (.ext (.t 114) 0),
               .op (some 120) (.ext (.t 114) 1),
               .op (some 121) (.ext (.t 114) 2),
               .op (some 11) (.mov (.t 119)),
               .op (some 12) (.mov (.t 120)),
               .op (some 13) (.mov (.t 121))])
            (.keep [1, 2, 7, 11, 12, 13] (.seq (.seq (.ops [.op (some 122) (.mov (.t 13)),
                .op (some 123) (.not (.t 122))])
             (.keep [1, 2, 7, 11, 12, 123] (.cond (.t 123)
              (.seq (.ops [.op (some 4) (.mov (.k (.int .i64 0))),
                  .op (some 5) (.mov (.k (.int .i64 0))),
                  .op (some 6) (.mov (.k (.bool false)))])
               (.keep [4, 5, 6] (.ret)))
              (.skip))))
            (.keep [1, 2, 7, 11, 12] (.seq (.ops [.op (some 125) (.loadN 1 (.t 2)),
               .op (some 126) (.mov (.t 11)),
               .op (some 127) (.bin .sub (.t 126) (.k (.int .i64 1))),
               .call (some 128) 75 [.t 125, .t 127],
               .op (some 124) (.mov (.t 128)),
               .op (some 129) (.ext (.t 124) 0),
               .op (some 130) (.ext (.t 124) 1),
               .op (some 131) (.ext (.t 124) 2),
               .op (some 14) (.mov (.t 129)),
               .op (some 15) (.mov (.t 130)),
               .op (some 16) (.mov (.t 131))])
            (.keep [1, 7, 11, 12, 14, 15, 16] (.seq (.draw [.op (some 132) (.mov (.t 14)),
               .op (some 133) (.mov (.t 15)),
               .op (some 134) (.mov (.t 12)),
               .op (some 135) (.mx true (.t 133) (.t 134)),
               .op (some 136) (.bin .add (.t 135) (.k (.int .i64 1))),
               .op (some 137) (.mov (.t 16)),
               .op (some 138) (.mov (.t 137)),
               .andor 144 true 6 138 [.op (some 139) (.fadr (.t 7) 1), .op (some 140) (.load1 (.t 139)), .op (some 141) (.mov (.t 11)), .op (some 142) (.bin .sub (.t 141) (.k (.int .i64 1))), .op (some 143) (.bin .eql (.t 140) (.t 142))] (.t 143),
               .op (some 145) (.mov (.t 144)),
               .andor 151 true 13 145 [.op (some 146) (.fadr (.t 7) 2), .op (some 147) (.load1 (.t 146)), .op (some 148) (.mov (.t 1)), .op (some 149) (.bin .sub (.t 148) (.k (.int .i64 1))), .op (some 150) (.bin .eql (.t 147) (.t 149))] (.t 150),
               .op (some 152) (.mov (.t 151)),
               .andor 156 true 20 152 [.op (some 153) (.fadr (.t 7) 3), .op (some 154) (.load1 (.t 153)), .op (some 155) (.bin .eql (.t 154) (.k (.int .i64 0)))] (.t 155),
               .op (some 157) (.mov (.t 156)),
               .andor 162 true 25 157 [.op (some 158) (.fadr (.t 7) 4), .op (some 159) (.loadN 3 (.t 158)), .op (some 160) (.build [.int .i64 0, .int .i64 0, .str []] []), .op (some 161) (.eqs false [0, 0, 2] (.t 159) (.t 160))] (.t 161),
               .op (some 4) (.mov (.t 132)),
               .op (some 5) (.mov (.t 136)),
               .op (some 6) (.mov (.t 162))])
            (.keep [4, 5, 6] (.ret)))))))))
           (.skip))))))))))))))
  (.keep [] (.seq (.ops [.op (some 4) (.mov (.k (.int .i64 0))),
     .op (some 5) (.mov (.k (.int .i64 0))),
     .op (some 6) (.mov (.k (.bool false)))])
  (.keep [4, 5, 6] (.ret))))))))))
theorem k_c_l10Walk_fits : fitsF Try.prog 75 ⟨163, k_c_l10Walk, [.t 4, .t 5, .t 6]⟩ = true := by kernel_rfl
theorem c_l10Walk {e : GExpr} {f : Nat} {i : Int} (hn : -1 ≤ i) (hi : i + 1 < f) (hf : f ≤ 1000) (hl : i < e.Nodes.length) (hw : e.Nodes.length ≤ 1048576) (hv : ∀ x ∈ e.Nodes, x.V.T.length ≤ 1048576) : Con Try.prog noMv 75 [e.av, int i] [] (fun r h => r = .tup [int (walkF e.Nodes f i).1, int (walkF e.Nodes f i).2.1, bool (walkF e.Nodes f i).2.2] ∧ h = []) := by
  induction f generalizing i with
  | zero => exact absurd hi (by omega)
  | succ f ih =>
    refine con_of2 k_c_l10Walk_fits rfl fun C hP hmv => ?_
    unfold k_c_l10Walk
    refine cx_seq ?_
    refine cx_ops ?_
    refine ax_e (e_box rfl rfl (by decide) rfl rfl rfl) ?_
    refine ax_q (q_mov rfl) ?_
    refine ax_q (q_mov rfl) ?_
    refine ax_q (q_mov rfl) ?_
    refine ax_nil ?_
    refine cx_keep rfl rfl ?_
    refine cx_seq ?_
    refine cx_seq ?_
    refine cx_ops ?_
    refine ax_q (q_mov rfl) ?_
    refine ax_q (q_ibin rfl rfl rfl) ?_
    refine ax_nil ?_
    refine cx_keep rfl rfl ?_
    refine cx_cond rfl (fun h0 => ?_) (fun h0 => ?_)
    · have h0 := dT h0
      refine cx_seq ?_
      refine cx_ops ?_
      refine ax_q (q_mov rfl) ?_
      refine ax_q (q_mov rfl) ?_
      refine ax_q (q_mov rfl) ?_
      refine ax_nil ?_
      refine cx_keep rfl rfl ?_
      refine cx_ret (ret0 rfl rfl ?_)
      exact ⟨by rw [walkF_neg h0]; rfl, rfl⟩
    · have h0 := dF h0
      obtain ⟨j, rfl⟩ : ∃ j : Nat, i = (j : Int) := ⟨i.toNat, by omega⟩
      have hj : j < e.Nodes.length := by omega
      have hvj := hv _ (List.getElem_mem hj)
      have wb := @walkF_b e.Nodes f ((j : Int) - 1)
      have wc := @walkF_b e.Nodes f ((walkF e.Nodes f ((j : Int) - 1)).1 - 1)
      have hm := mxI_b (n := f) (a := (walkF e.Nodes f ((walkF e.Nodes f ((j : Int) - 1)).1 - 1)).2.1) (b := (walkF e.Nodes f ((j : Int) - 1)).2.1) ⟨wc.2.2.1, wc.2.2.2⟩ ⟨wb.2.2.1, wb.2.2.2⟩
      refine cx_skip ?_
      refine cx_keep rfl rfl ?_
      refine cx_seq ?_
      refine cx_ops ?_
      first | refine ax_q (q_fadr_ptr rfl) ?_ | refine ax_q (q_fadr_rptr rfl) ?_ | refine ax_q (q_fadr_ip rfl) ?_
      first | refine ax_q (q_load1_ptr rfl rfl rfl) ?_ | refine ax_q (q_load1_ip rfl) ?_ | refine ax_q (q_load1_rptr rfl rfl rfl rfl) ?_ | refine ax_q (q_load1_rptr rfl rfl (by assumption) rfl) ?_ | refine ax_q (q_load1_rptr rfl rfl (mapAt (by first | assumption | omega)) rfl) ?_
      refine ax_q (q_mov rfl) ?_
      refine ax_q (q_ix rfl rfl (mapAt hj)) ?_
      first | refine ax_q (q_ldN rfl rfl rfl) ?_ | refine ax_q (q_loadN_ip rfl (Nat.le_refl _)) ?_ | refine ax_q (q_loadN_ip rfl (by decide)) ?_ | refine ax_q (q_loadN_rptr rfl rfl (by assumption) (by decide)) ?_ | refine ax_q (q_loadN_rptr rfl rfl (mapAt (by first | assumption | omega)) (by decide)) ?_
      refine ax_e (e_alloc (by decide) rfl rfl) ?_
      refine ax_e (e_st rfl rfl rfl rfl rfl rfl rfl) ?_
      refine ax_nil ?_
      refine cx_keep rfl rfl ?_
      refine cx_seq ?_
      refine cx_block ?_
      refine cx_seq ?_
      refine cx_ops ?_
      first | refine ax_q (q_fadr_ptr rfl) ?_ | refine ax_q (q_fadr_rptr rfl) ?_ | refine ax_q (q_fadr_ip rfl) ?_
      first | refine ax_q (q_load1_ptr rfl rfl rfl) ?_ | refine ax_q (q_load1_ip rfl) ?_ | refine ax_q (q_load1_rptr rfl rfl rfl rfl) ?_ | refine ax_q (q_load1_rptr rfl rfl (by assumption) rfl) ?_ | refine ax_q (q_load1_rptr rfl rfl (mapAt (by first | assumption | omega)) rfl) ?_
      refine ax_q (q_ibin rfl rfl rfl) ?_
      refine ax_q (q_mov rfl) ?_
      refine ax_nil ?_
      refine cx_keep rfl rfl ?_
      refine cx_cond rfl (fun h1 => ?_) (fun h1 => ?_)
      · have h1 := dT h1
        refine cx_seq ?_
        refine cx_ops ?_
        refine ax_q (q_mov rfl) ?_
        first | refine ax_q (q_fadr_ptr rfl) ?_ | refine ax_q (q_fadr_rptr rfl) ?_ | refine ax_q (q_fadr_ip rfl) ?_
        first | refine ax_q (q_load1_ptr rfl rfl rfl) ?_ | refine ax_q (q_load1_ip rfl) ?_ | refine ax_q (q_load1_rptr rfl rfl rfl rfl) ?_ | refine ax_q (q_load1_rptr rfl rfl (by assumption) rfl) ?_ | refine ax_q (q_load1_rptr rfl rfl (mapAt (by first | assumption | omega)) rfl) ?_
        refine ax_q (q_ibin rfl rfl rfl) ?_
        refine ax_q (q_mov rfl) ?_
        apply ax_and rfl rfl
        · intro g
          have g := dT g
          first | refine ax_q (q_fadr_ptr rfl) ?_ | refine ax_q (q_fadr_rptr rfl) ?_ | refine ax_q (q_fadr_ip rfl) ?_
          first | refine ax_q (q_load1_ptr rfl rfl rfl) ?_ | refine ax_q (q_load1_ip rfl) ?_ | refine ax_q (q_load1_rptr rfl rfl rfl rfl) ?_ | refine ax_q (q_load1_rptr rfl rfl (by assumption) rfl) ?_ | refine ax_q (q_load1_rptr rfl rfl (mapAt (by first | assumption | omega)) rfl) ?_
          refine ax_q (q_ibin rfl rfl rfl) ?_
          exact ax_nil ⟨rfl, by repeat (first | exact trivial | refine ⟨rfl, ?_⟩ | refine ⟨?_, ?_⟩)⟩
        refine ax_q (q_mov rfl) ?_
        apply ax_and rfl rfl
        · intro g
          have g := (fun h => And.intro (dT (and_T h).1) (dT (and_T h).2)) g
          first | refine ax_q (q_fadr_ptr rfl) ?_ | refine ax_q (q_fadr_rptr rfl) ?_ | refine ax_q (q_fadr_ip rfl) ?_
          first | refine ax_q (q_load1_ptr rfl rfl rfl) ?_ | refine ax_q (q_load1_ip rfl) ?_ | refine ax_q (q_load1_rptr rfl rfl rfl rfl) ?_ | refine ax_q (q_load1_rptr rfl rfl (by assumption) rfl) ?_ | refine ax_q (q_load1_rptr rfl rfl (mapAt (by first | assumption | omega)) rfl) ?_
          refine ax_q (q_ibin rfl rfl rfl) ?_
          exact ax_nil ⟨rfl, by repeat (first | exact trivial | refine ⟨rfl, ?_⟩ | refine ⟨?_, ?_⟩)⟩
        refine ax_q (q_mov rfl) ?_
        apply ax_and rfl rfl
        · intro g
          have g := (fun h => And.intro ((fun h => And.intro (dT (and_T h).1) (dT (and_T h).2)) (and_T h).1) (dT (and_T h).2)) g
          first | refine ax_q (q_fadr_ptr rfl) ?_ | refine ax_q (q_fadr_rptr rfl) ?_ | refine ax_q (q_fadr_ip rfl) ?_
          first | refine ax_q (q_ldN rfl rfl rfl) ?_ | refine ax_q (q_loadN_ip rfl (Nat.le_refl _)) ?_ | refine ax_q (q_loadN_ip rfl (by decide)) ?_ | refine ax_q (q_loadN_rptr rfl rfl (by assumption) (by decide)) ?_ | refine ax_q (q_loadN_rptr rfl rfl (mapAt (by first | assumption | omega)) (by decide)) ?_
          first | refine ax_call rfl (vc_pure0 (c_sValueOK (v := e.Nodes[j].V) ?_) hP rfl rfl ?_) | refine ax_call rfl (vc_lend0 (c_sValueOK (v := e.Nodes[j].V) ?_) hP (by repeat (first | exact lal_id _ rfl | exact LAL.nil | refine LAL.cons ?_ ?_ | exact la_id _ rfl | exact LA.lend (lend_whole rfl (by first | (simp; done) | (rw [List.length_map]; rfl))) | refine LA.agg ?_ | refine LA.fn ?_ | refine LA.lend ?_ | exact Lend.d _ | exact Lend.zs _ | exact lend_whole rfl (by first | (simp; done) | (rw [List.length_map]; rfl)) | refine Lend.ptr rfl ?_ | refine Lend.fn ?_ | exact LendL.nil | refine LendL.cons ?_ ?_)) rfl rfl ?_)
          · first | assumption | omega | (simp; done) | (simp; omega)
          exact ax_nil ⟨rfl, by repeat (first | exact trivial | refine ⟨rfl, ?_⟩ | refine ⟨?_, ?_⟩)⟩
        refine ax_q (q_mov rfl) ?_
        refine ax_q (q_mov rfl) ?_
        refine ax_q (q_mov rfl) ?_
        refine ax_nil ?_
        refine cx_keep rfl rfl ?_
        refine cx_ret (ret0 rfl rfl ?_)
        exact ⟨by rw [walkF_at hj, nodeW_1 h1]; rfl, rfl⟩
      · have h1 := dF h1
        refine cx_seq ?_
        refine cx_ops ?_
        first | refine ax_q (q_fadr_ptr rfl) ?_ | refine ax_q (q_fadr_rptr rfl) ?_ | refine ax_q (q_fadr_ip rfl) ?_
        first | refine ax_q (q_load1_ptr rfl rfl rfl) ?_ | refine ax_q (q_load1_ip rfl) ?_ | refine ax_q (q_load1_rptr rfl rfl rfl rfl) ?_ | refine ax_q (q_load1_rptr rfl rfl (by assumption) rfl) ?_ | refine ax_q (q_load1_rptr rfl rfl (mapAt (by first | assumption | omega)) rfl) ?_
        refine ax_q (q_ibin rfl rfl rfl) ?_
        refine ax_q (q_mov rfl) ?_
        refine ax_nil ?_
        refine cx_keep rfl rfl ?_
        refine cx_cond rfl (fun h2 => ?_) (fun h2 => ?_)
        · have h2 := dT h2
          refine cx_seq ?_
          refine cx_draw ?_
          refine ax_q (q_mov rfl) ?_
          first | refine ax_q (q_fadr_ptr rfl) ?_ | refine ax_q (q_fadr_rptr rfl) ?_ | refine ax_q (q_fadr_ip rfl) ?_
          first | refine ax_q (q_load1_ptr rfl rfl rfl) ?_ | refine ax_q (q_load1_ip rfl) ?_ | refine ax_q (q_load1_rptr rfl rfl rfl rfl) ?_ | refine ax_q (q_load1_rptr rfl rfl (by assumption) rfl) ?_ | refine ax_q (q_load1_rptr rfl rfl (mapAt (by first | assumption | omega)) rfl) ?_
          refine ax_q (q_ibin rfl rfl rfl) ?_
          refine ax_q (q_mov rfl) ?_
          apply ax_and rfl rfl
          · intro g
            have g := dT g
            first | refine ax_q (q_fadr_ptr rfl) ?_ | refine ax_q (q_fadr_rptr rfl) ?_ | refine ax_q (q_fadr_ip rfl) ?_
            first | refine ax_q (q_load1_ptr rfl rfl rfl) ?_ | refine ax_q (q_load1_ip rfl) ?_ | refine ax_q (q_load1_rptr rfl rfl rfl rfl) ?_ | refine ax_q (q_load1_rptr rfl rfl (by assumption) rfl) ?_ | refine ax_q (q_load1_rptr rfl rfl (mapAt (by first | assumption | omega)) rfl) ?_
            refine ax_q (q_ibin rfl rfl rfl) ?_
            exact ax_nil ⟨rfl, by repeat (first | exact trivial | refine ⟨rfl, ?_⟩ | refine ⟨?_, ?_⟩)⟩
          refine ax_q (q_mov rfl) ?_
          apply ax_and rfl rfl
          · intro g
            have g := (fun h => And.intro (dT (and_T h).1) (dT (and_T h).2)) g
            first | refine ax_q (q_fadr_ptr rfl) ?_ | refine ax_q (q_fadr_rptr rfl) ?_ | refine ax_q (q_fadr_ip rfl) ?_
            first | refine ax_q (q_load1_ptr rfl rfl rfl) ?_ | refine ax_q (q_load1_ip rfl) ?_ | refine ax_q (q_load1_rptr rfl rfl rfl rfl) ?_ | refine ax_q (q_load1_rptr rfl rfl (by assumption) rfl) ?_ | refine ax_q (q_load1_rptr rfl rfl (mapAt (by first | assumption | omega)) rfl) ?_
            first | refine ax_callq rfl (c_l01In  ) hP (lal_id _ rfl) rfl ?_ | refine ax_callq rfl (c_l01In  ) hP (by repeat (first | exact lal_id _ rfl | exact LAL.nil | refine LAL.cons ?_ ?_ | exact la_id _ rfl | exact LA.lend (lend_whole rfl (by first | (simp; done) | (rw [List.length_map]; rfl))) | refine LA.agg ?_ | refine LA.fn ?_ | refine LA.lend ?_ | exact Lend.d _ | exact Lend.zs _ | exact lend_whole rfl (by first | (simp; done) | (rw [List.length_map]; rfl)) | refine Lend.ptr rfl ?_ | refine Lend.fn ?_ | exact LendL.nil | refine LendL.cons ?_ ?_)) rfl ?_
            exact ax_nil ⟨rfl, by repeat (first | exact trivial | refine ⟨rfl, ?_⟩ | refine ⟨?_, ?_⟩)⟩
          refine ax_q (q_mov rfl) ?_
          apply ax_and rfl rfl
          · intro g
            have g := (fun h => And.intro ((fun h => And.intro (dT (and_T h).1) (dT (and_T h).2)) (and_T h).1) (id (and_T h).2)) g
            first | refine ax_q (q_fadr_ptr rfl) ?_ | refine ax_q (q_fadr_rptr rfl) ?_ | refine ax_q (q_fadr_ip rfl) ?_
            first | refine ax_q (q_ldN rfl rfl rfl) ?_ | refine ax_q (q_loadN_ip rfl (Nat.le_refl _)) ?_ | refine ax_q (q_loadN_ip rfl (by decide)) ?_ | refine ax_q (q_loadN_rptr rfl rfl (by assumption) (by decide)) ?_ | refine ax_q (q_loadN_rptr rfl rfl (mapAt (by first | assumption | omega)) (by decide)) ?_
            refine ax_q (q_build rfl) ?_
            first | refine ax_q (GValue.q_eqs rfl rfl) ?_ | refine ax_q (q_eqs rfl rfl rfl) ?_
            exact ax_nil ⟨rfl, by repeat (first | exact trivial | refine ⟨rfl, ?_⟩ | refine ⟨?_, ?_⟩)⟩
          refine ax_q (q_mov rfl) ?_
          refine ax_q (q_mov rfl) ?_
          refine ax_q (q_mov rfl) ?_
          refine ax_nil ?_
          refine cx_keep rfl rfl ?_
          refine cx_ret (ret0 rfl rfl ?_)
          exact ⟨by rw [walkF_at hj, nodeW_2 h1 h2]; rfl, rfl⟩
        · have h2 := dF h2
          refine cx_seq ?_
          refine cx_ops ?_
          first | refine ax_q (q_fadr_ptr rfl) ?_ | refine ax_q (q_fadr_rptr rfl) ?_ | refine ax_q (q_fadr_ip rfl) ?_
          first | refine ax_q (q_load1_ptr rfl rfl rfl) ?_ | refine ax_q (q_load1_ip rfl) ?_ | refine ax_q (q_load1_rptr rfl rfl rfl rfl) ?_ | refine ax_q (q_load1_rptr rfl rfl (by assumption) rfl) ?_ | refine ax_q (q_load1_rptr rfl rfl (mapAt (by first | assumption | omega)) rfl) ?_
          first | refine ax_call rfl (vc_pure0 (c_l01In  ) hP rfl rfl ?_) | refine ax_call rfl (vc_lend0 (c_l01In  ) hP (by repeat (first | exact lal_id _ rfl | exact LAL.nil | refine LAL.cons ?_ ?_ | exact la_id _ rfl | exact LA.lend (lend_whole rfl (by first | (simp; done) | (rw [List.length_map]; rfl))) | refine LA.agg ?_ | refine LA.fn ?_ | refine LA.lend ?_ | exact Lend.d _ | exact Lend.zs _ | exact lend_whole rfl (by first | (simp; done) | (rw [List.length_map]; rfl)) | refine Lend.ptr rfl ?_ | refine Lend.fn ?_ | exact LendL.nil | refine LendL.cons ?_ ?_)) rfl rfl ?_)
          refine ax_q (q_mov rfl) ?_
          refine ax_nil ?_
          refine cx_keep rfl rfl ?_
          refine cx_cond rfl (fun h3 => ?_) (fun h3 => ?_)
          · skip
            refine cx_seq ?_
            refine cx_ops ?_
            first | refine ax_q (q_ldN rfl rfl rfl) ?_ | refine ax_q (q_loadN_ip rfl (Nat.le_refl _)) ?_ | refine ax_q (q_loadN_ip rfl (by decide)) ?_ | refine ax_q (q_loadN_rptr rfl rfl (by assumption) (by decide)) ?_ | refine ax_q (q_loadN_rptr rfl rfl (mapAt (by first | assumption | omega)) (by decide)) ?_
            refine ax_q (q_mov rfl) ?_
            refine ax_q (q_sub rfl rfl (by omega)) ?_
            first | refine ax_call rfl (vc_pure0 (ih (i := (j : Int) - 1) ?_ ?_ ?_ ?_) hP rfl rfl ?_) | refine ax_call rfl (vc_lend0 (ih (i := (j : Int) - 1) ?_ ?_ ?_ ?_) hP (by repeat (first | exact lal_id _ rfl | exact LAL.nil | refine LAL.cons ?_ ?_ | exact la_id _ rfl | exact LA.lend (lend_whole rfl (by first | (simp; done) | (rw [List.length_map]; rfl))) | refine LA.agg ?_ | refine LA.fn ?_ | refine LA.lend ?_ | exact Lend.d _ | exact Lend.zs _ | exact lend_whole rfl (by first | (simp; done) | (rw [List.length_map]; rfl)) | refine Lend.ptr rfl ?_ | refine Lend.fn ?_ | exact LendL.nil | refine LendL.cons ?_ ?_)) rfl rfl ?_)
            · first | assumption | omega | (simp; done) | (simp; omega)
            · first | assumption | omega | (simp; done) | (simp; omega)
            · first | assumption | omega | (simp; done) | (simp; omega)
            · first | assumption | omega | (simp; done) | (simp; omega)
            refine ax_q (q_mov rfl) ?_
            refine ax_q (q_ext rfl rfl) ?_
            refine ax_q (q_ext rfl rfl) ?_
            refine ax_q (q_ext rfl rfl) ?_
            refine ax_q (q_mov rfl) ?_
            refine ax_q (q_mov rfl) ?_
            refine ax_q (q_mov rfl) ?_
            refine ax_nil ?_
            refine cx_keep rfl rfl ?_
            refine cx_seq ?_
            refine cx_draw ?_
            refine ax_q (q_mov rfl) ?_
            refine ax_q (q_mov rfl) ?_
            refine ax_q (q_add rfl rfl (by omega)) ?_
            refine ax_q (q_mov rfl) ?_
            refine ax_q (q_mov rfl) ?_
            apply ax_and rfl rfl
            · intro g
              first | refine ax_q (q_fadr_ptr rfl) ?_ | refine ax_q (q_fadr_rptr rfl) ?_ | refine ax_q (q_fadr_ip rfl) ?_
              first | refine ax_q (q_load1_ptr rfl rfl rfl) ?_ | refine ax_q (q_load1_ip rfl) ?_ | refine ax_q (q_load1_rptr rfl rfl rfl rfl) ?_ | refine ax_q (q_load1_rptr rfl rfl (by assumption) rfl) ?_ | refine ax_q (q_load1_rptr rfl rfl (mapAt (by first | assumption | omega)) rfl) ?_
              refine ax_q (q_mov rfl) ?_
              refine ax_q (q_sub rfl rfl (by omega)) ?_
              refine ax_q (q_ibin rfl rfl rfl) ?_
              exact ax_nil ⟨rfl, by repeat (first | exact trivial | refine ⟨rfl, ?_⟩ | refine ⟨?_, ?_⟩)⟩
            refine ax_q (q_mov rfl) ?_
            apply ax_and rfl rfl
            · intro g
              have g := (fun h => And.intro (id (and_T h).1) (dT (and_T h).2)) g
              first | refine ax_q (q_fadr_ptr rfl) ?_ | refine ax_q (q_fadr_rptr rfl) ?_ | refine ax_q (q_fadr_ip rfl) ?_
              first | refine ax_q (q_load1_ptr rfl rfl rfl) ?_ | refine ax_q (q_load1_ip rfl) ?_ | refine ax_q (q_load1_rptr rfl rfl rfl rfl) ?_ | refine ax_q (q_load1_rptr rfl rfl (by assumption) rfl) ?_ | refine ax_q (q_load1_rptr rfl rfl (mapAt (by first | assumption | omega)) rfl) ?_
              refine ax_q (q_ibin rfl rfl rfl) ?_
              exact ax_nil ⟨rfl, by repeat (first | exact trivial | refine ⟨rfl, ?_⟩ | refine ⟨?_, ?_⟩)⟩
            refine ax_q (q_mov rfl) ?_
            apply ax_and rfl rfl
            · intro g
              have g := (fun h => And.intro ((fun h => And.intro (id (and_T h).1) (dT (and_T h).2)) (and_T h).1) (dT (and_T h).2)) g
              first | refine ax_q (q_fadr_ptr rfl) ?_ | refine ax_q (q_fadr_rptr rfl) ?_ | refine ax_q (q_fadr_ip rfl) ?_
              first | refine ax_q (q_load1_ptr rfl rfl rfl) ?_ | refine ax_q (q_load1_ip rfl) ?_ | refine ax_q (q_load1_rptr rfl rfl rfl rfl) ?_ | refine ax_q (q_load1_rptr rfl rfl (by assumption) rfl) ?_ | refine ax_q (q_load1_rptr rfl rfl (mapAt (by first | assumption | omega)) rfl) ?_
              refine ax_q (q_ibin rfl rfl rfl) ?_
              exact ax_nil ⟨rfl, by repeat (first | exact trivial | refine ⟨rfl, ?_⟩ | refine ⟨?_, ?_⟩)⟩
            refine ax_q (q_mov rfl) ?_
            apply ax_and rfl rfl
            · intro g
              have g := (fun h => And.intro ((fun h => And.intro ((fun h => And.intro (id (and_T h).1) (dT (and_T h).2)) (and_T h).1) (dT (and_T h).2)) (and_T h).1) (dT (and_T h).2)) g
              first | refine ax_q (q_fadr_ptr rfl) ?_ | refine ax_q (q_fadr_rptr rfl) ?_ | refine ax_q (q_fadr_ip rfl) ?_
              first | refine ax_q (q_ldN rfl rfl rfl) ?_ | refine ax_q (q_loadN_ip rfl (Nat.le_refl _)) ?_ | refine ax_q (q_loadN_ip rfl (by decide)) ?_ | refine ax_q (q_loadN_rptr rfl rfl (by assumption) (by decide)) ?_ | refine ax_q (q_loadN_rptr rfl rfl (mapAt (by first | assumption | omega)) (by decide)) ?_
              refine ax_q (q_build rfl) ?_
              first | refine ax_q (GValue.q_eqs rfl rfl) ?_ | refine ax_q (q_eqs rfl rfl rfl) ?_
              exact ax_nil ⟨rfl, by repeat (first | exact trivial | refine ⟨rfl, ?_⟩ | refine ⟨?_, ?_⟩)⟩
            refine ax_q (q_mov rfl) ?_
            refine ax_q (q_mov rfl) ?_
            refine ax_q (q_mov rfl) ?_
            refine ax_nil ?_
            refine cx_keep rfl rfl ?_
            refine cx_ret (ret0 rfl rfl ?_)
            exact ⟨by rw [walkF_at hj, nodeW_3 h1 h2 h3]; rfl, rfl⟩
          · skip
            refine cx_seq ?_
            refine cx_ops ?_
            first | refine ax_q (q_fadr_ptr rfl) ?_ | refine ax_q (q_fadr_rptr rfl) ?_ | refine ax_q (q_fadr_ip rfl) ?_
            first | refine ax_q (q_load1_ptr rfl rfl rfl) ?_ | refine ax_q (q_load1_ip rfl) ?_ | refine ax_q (q_load1_rptr rfl rfl rfl rfl) ?_ | refine ax_q (q_load1_rptr rfl rfl (by assumption) rfl) ?_ | refine ax_q (q_load1_rptr rfl rfl (mapAt (by first | assumption | omega)) rfl) ?_
            first | refine ax_call rfl (vc_pure0 (c_l01In  ) hP rfl rfl ?_) | refine ax_call rfl (vc_lend0 (c_l01In  ) hP (by repeat (first | exact lal_id _ rfl | exact LAL.nil | refine LAL.cons ?_ ?_ | exact la_id _ rfl | exact LA.lend (lend_whole rfl (by first | (simp; done) | (rw [List.length_map]; rfl))) | refine LA.agg ?_ | refine LA.fn ?_ | refine LA.lend ?_ | exact Lend.d _ | exact Lend.zs _ | exact lend_whole rfl (by first | (simp; done) | (rw [List.length_map]; rfl)) | refine Lend.ptr rfl ?_ | refine Lend.fn ?_ | exact LendL.nil | refine LendL.cons ?_ ?_)) rfl rfl ?_)
            refine ax_q (q_mov rfl) ?_
            refine ax_nil ?_
            refine cx_keep rfl rfl ?_
            refine cx_cond rfl (fun h4 => ?_) (fun h4 => ?_)
            · skip
              refine cx_seq ?_
              refine cx_ops ?_
              first | refine ax_q (q_ldN rfl rfl rfl) ?_ | refine ax_q (q_loadN_ip rfl (Nat.le_refl _)) ?_ | refine ax_q (q_loadN_ip rfl (by decide)) ?_ | refine ax_q (q_loadN_rptr rfl rfl (by assumption) (by decide)) ?_ | refine ax_q (q_loadN_rptr rfl rfl (mapAt (by first | assumption | omega)) (by decide)) ?_
              refine ax_q (q_mov rfl) ?_
              refine ax_q (q_sub rfl rfl (by omega)) ?_
              first | refine ax_call rfl (vc_pure0 (ih (i := (j : Int) - 1) ?_ ?_ ?_ ?_) hP rfl rfl ?_) | refine ax_call rfl (vc_lend0 (ih (i := (j : Int) - 1) ?_ ?_ ?_ ?_) hP (by repeat (first | exact lal_id _ rfl | exact LAL.nil | refine LAL.cons ?_ ?_ | exact la_id _ rfl | exact LA.lend (lend_whole rfl (by first | (simp; done) | (rw [List.length_map]; rfl))) | refine LA.agg ?_ | refine LA.fn ?_ | refine LA.lend ?_ | exact Lend.d _ | exact Lend.zs _ | exact lend_whole rfl (by first | (simp; done) | (rw [List.length_map]; rfl)) | refine Lend.ptr rfl ?_ | refine Lend.fn ?_ | exact LendL.nil | refine LendL.cons ?_ ?_)) rfl rfl ?_)
              · first | assumption | omega | (simp; done) | (simp; omega)
              · first | assumption | omega | (simp; done) | (simp; omega)
              · first | assumption | omega | (simp; done) | (simp; omega)
              · first | assumption | omega | (simp; done) | (simp; omega)
              refine ax_q (q_mov rfl) ?_
              refine ax_q (q_ext rfl rfl) ?_
              refine ax_q (q_ext rfl rfl) ?_
              refine ax_q (q_ext rfl rfl) ?_
              refine ax_q (q_mov rfl) ?_
              refine ax_q (q_mov rfl) ?_
              refine ax_q (q_mov rfl) ?_
              refine ax_nil ?_
              refine cx_keep rfl rfl ?_
              refine cx_seq ?_
              refine cx_seq ?_
              refine cx_ops ?_
              refine ax_q (q_mov rfl) ?_
              refine ax_q (q_not rfl) ?_
              refine ax_nil ?_
              refine cx_keep rfl rfl ?_
              refine cx_cond rfl (fun h5 => ?_) (fun h5 => ?_)
              · have h5 := bT h5
                refine cx_seq ?_
                refine cx_ops ?_
                refine ax_q (q_mov rfl) ?_
                refine ax_q (q_mov rfl) ?_
                refine ax_q (q_mov rfl) ?_
                refine ax_nil ?_
                refine cx_keep rfl rfl ?_
                refine cx_ret (ret0 rfl rfl ?_)
                exact ⟨by rw [walkF_at hj, nodeW_4 h1 h2 h3 h4 h5]; rfl, rfl⟩
              · have h5 := bF h5
                refine cx_skip ?_
                refine cx_keep rfl rfl ?_
                refine cx_seq ?_
                refine cx_ops ?_
                first | refine ax_q (q_ldN rfl rfl rfl) ?_ | refine ax_q (q_loadN_ip rfl (Nat.le_refl _)) ?_ | refine ax_q (q_loadN_ip rfl (by decide)) ?_ | refine ax_q (q_loadN_rptr rfl rfl (by assumption) (by decide)) ?_ | refine ax_q (q_loadN_rptr rfl rfl (mapAt (by first | assumption | omega)) (by decide)) ?_
                refine ax_q (q_mov rfl) ?_
                refine ax_q (q_sub rfl rfl (by omega)) ?_
                first | refine ax_call rfl (vc_pure0 (ih (i := (walkF e.Nodes f ((j : Int) - 1)).1 - 1) ?_ ?_ ?_ ?_) hP rfl rfl ?_) | refine ax_call rfl (vc_lend0 (ih (i := (walkF e.Nodes f ((j : Int) - 1)).1 - 1) ?_ ?_ ?_ ?_) hP (by repeat (first | exact lal_id _ rfl | exact LAL.nil | refine LAL.cons ?_ ?_ | exact la_id _ rfl | exact LA.lend (lend_whole rfl (by first | (simp; done) | (rw [List.length_map]; rfl))) | refine LA.agg ?_ | refine LA.fn ?_ | refine LA.lend ?_ | exact Lend.d _ | exact Lend.zs _ | exact lend_whole rfl (by first | (simp; done) | (rw [List.length_map]; rfl)) | refine Lend.ptr rfl ?_ | refine Lend.fn ?_ | exact LendL.nil | refine LendL.cons ?_ ?_)) rfl rfl ?_)
                · first | assumption | omega | (simp; done) | (simp; omega)
                · first | assumption | omega | (simp; done) | (simp; omega)
                · first | assumption | omega | (simp; done) | (simp; omega)
                · first | assumption | omega | (simp; done) | (simp; omega)
                refine ax_q (q_mov rfl) ?_
                refine ax_q (q_ext rfl rfl) ?_
                refine ax_q (q_ext rfl rfl) ?_
                refine ax_q (q_ext rfl rfl) ?_
                refine ax_q (q_mov rfl) ?_
                refine ax_q (q_mov rfl) ?_
                refine ax_q (q_mov rfl) ?_
                refine ax_nil ?_
                refine cx_keep rfl rfl ?_
                refine cx_seq ?_
                refine cx_draw ?_
                refine ax_q (q_mov rfl) ?_
                refine ax_q (q_mov rfl) ?_
                refine ax_q (q_mov rfl) ?_
                refine ax_qe (r' := int (mxI (walkF e.Nodes f ((walkF e.Nodes f ((j : Int) - 1)).1 - 1)).2.1 (walkF e.Nodes f ((j : Int) - 1)).2.1)) (q_mx rfl rfl) (rfl) ?_
                refine ax_q (q_add rfl rfl (by omega)) ?_
                refine ax_q (q_mov rfl) ?_
                refine ax_q (q_mov rfl) ?_
                apply ax_and rfl rfl
                · intro g
                  first | refine ax_q (q_fadr_ptr rfl) ?_ | refine ax_q (q_fadr_rptr rfl) ?_ | refine ax_q (q_fadr_ip rfl) ?_
                  first | refine ax_q (q_load1_ptr rfl rfl rfl) ?_ | refine ax_q (q_load1_ip rfl) ?_ | refine ax_q (q_load1_rptr rfl rfl rfl rfl) ?_ | refine ax_q (q_load1_rptr rfl rfl (by assumption) rfl) ?_ | refine ax_q (q_load1_rptr rfl rfl (mapAt (by first | assumption | omega)) rfl) ?_
                  refine ax_q (q_mov rfl) ?_
                  refine ax_q (q_sub rfl rfl (by omega)) ?_
                  refine ax_q (q_ibin rfl rfl rfl) ?_
                  exact ax_nil ⟨rfl, by repeat (first | exact trivial | refine ⟨rfl, ?_⟩ | refine ⟨?_, ?_⟩)⟩
                refine ax_q (q_mov rfl) ?_
                apply ax_and rfl rfl
                · intro g
                  have g := (fun h => And.intro (id (and_T h).1) (dT (and_T h).2)) g
                  first | refine ax_q (q_fadr_ptr rfl) ?_ | refine ax_q (q_fadr_rptr rfl) ?_ | refine ax_q (q_fadr_ip rfl) ?_
                  first | refine ax_q (q_load1_ptr rfl rfl rfl) ?_ | refine ax_q (q_load1_ip rfl) ?_ | refine ax_q (q_load1_rptr rfl rfl rfl rfl) ?_ | refine ax_q (q_load1_rptr rfl rfl (by assumption) rfl) ?_ | refine ax_q (q_load1_rptr rfl rfl (mapAt (by first | assumption | omega)) rfl) ?_
                  refine ax_q (q_mov rfl) ?_
                  refine ax_q (q_sub rfl rfl (by omega)) ?_
                  refine ax_q (q_ibin rfl rfl rfl) ?_
                  exact ax_nil ⟨rfl, by repeat (first | exact trivial | refine ⟨rfl, ?_⟩ | refine ⟨?_, ?_⟩)⟩
                refine ax_q (q_mov rfl) ?_
                apply ax_and rfl rfl
                · intro g
                  have g := (fun h => And.intro ((fun h => And.intro (id (and_T h).1) (dT (and_T h).2)) (and_T h).1) (dT (and_T h).2)) g
                  first | refine ax_q (q_fadr_ptr rfl) ?_ | refine ax_q (q_fadr_rptr rfl) ?_ | refine ax_q (q_fadr_ip rfl) ?_
                  first | refine ax_q (q_load1_ptr rfl rfl rfl) ?_ | refine ax_q (q_load1_ip rfl) ?_ | refine ax_q (q_load1_rptr rfl rfl rfl rfl) ?_ | refine ax_q (q_load1_rptr rfl rfl (by assumption) rfl) ?_ | refine ax_q (q_load1_rptr rfl rfl (mapAt (by first | assumption | omega)) rfl) ?_
                  refine ax_q (q_ibin rfl rfl rfl) ?_
                  exact ax_nil ⟨rfl, by repeat (first | exact trivial | refine ⟨rfl, ?_⟩ | refine ⟨?_, ?_⟩)⟩
                refine ax_q (q_mov rfl) ?_
                apply ax_and rfl rfl
                · intro g
                  have g := (fun h => And.intro ((fun h => And.intro ((fun h => And.intro (id (and_T h).1) (dT (and_T h).2)) (and_T h).1) (dT (and_T h).2)) (and_T h).1) (dT (and_T h).2)) g
                  first | refine ax_q (q_fadr_ptr rfl) ?_ | refine ax_q (q_fadr_rptr rfl) ?_ | refine ax_q (q_fadr_ip rfl) ?_
                  first | refine ax_q (q_ldN rfl rfl rfl) ?_ | refine ax_q (q_loadN_ip rfl (Nat.le_refl _)) ?_ | refine ax_q (q_loadN_ip rfl (by decide)) ?_ | refine ax_q (q_loadN_rptr rfl rfl (by assumption) (by decide)) ?_ | refine ax_q (q_loadN_rptr rfl rfl (mapAt (by first | assumption | omega)) (by decide)) ?_
                  refine ax_q (q_build rfl) ?_
                  first | refine ax_q (GValue.q_eqs rfl rfl) ?_ | refine ax_q (q_eqs rfl rfl rfl) ?_
                  exact ax_nil ⟨rfl, by repeat (first | exact trivial | refine ⟨rfl, ?_⟩ | refine ⟨?_, ?_⟩)⟩
                refine ax_q (q_mov rfl) ?_
                refine ax_q (q_mov rfl) ?_
                refine ax_q (q_mov rfl) ?_
                refine ax_nil ?_
                refine cx_keep rfl rfl ?_
                refine cx_ret (ret0 rfl rfl ?_)
                exact ⟨by rw [walkF_at hj, nodeW_5 h1 h2 h3 h4 h5]; rfl, rfl⟩
            · skip
              refine cx_skip ?_
              refine cx_keep rfl rfl ?_
              refine cx_seq ?_
              refine cx_ops ?_
              refine ax_q (q_mov rfl) ?_
              refine ax_q (q_mov rfl) ?_
              refine ax_q (q_mov rfl) ?_
              refine ax_nil ?_
              refine cx_keep rfl rfl ?_
              refine cx_ret (ret0 rfl rfl ?_)
              exact ⟨by rw [walkF_at hj, nodeW_6 h1 h2 h3 h4]; rfl, rfl⟩


/- loop.example/g00332/spec.ExprOK -/
def k_c_sExprOK : XCode :=
  .seq (.ops [.op (some 1) (.box (.t 0)),
     .op (some 2) (.mov (.k (.bool false)))])
  (.keep [1] (.seq (.seq (.ops [.op (some 6) (.fadr (.t 1) 0),
      .op (some 7) (.load1 (.t 6)),
      .op (some 8) (.lenS (.t 7)),
      .call (some 9) 45 [.t 8, .k (.int .i64 1), .k (.int .i64 40)],
      .op (some 10) (.not (.t 9))])
   (.keep [1, 10] (.cond (.t 10)
    (.seq (.ops [.op (some 2) (.mov (.k (.bool false)))])
     (.keep [2] (.ret)))
    (.skip))))
  (.keep [1] (.seq (.ops [.op (some 12) (.loadN 1 (.t 1)),
     .op (some 13) (.fadr (.t 1) 0),
     .op (some 14) (.load1 (.t 13)),
     .op (some 15) (.lenS (.t 14)),
     .op (some 16) (.bin .sub (.t 15) (.k (.int .i64 1))),
     .call (some 17) 75 [.t 12, .t 16],
     .op (some 11) (.mov (.t 17)),
     .op (some 18) (.ext (.t 11) 0),
     .op (some 19) (.ext (.t 11) 1),
     .op (some 20) (.ext (.t 11) 2),
     .op (some 3) (.mov (.t 18)),
     .op (some 4) (.mov (.t 19)),
     .op (some 5) (.mov (.t 20))])
  (.keep [3, 4, 5] (.seq (.ops [.op (some 21) (.mov (.t 5)),
     .op (some 22) (.mov (.t 21)),
     .andor 25 true 1 22 [.op (some 23) (.mov (.t 3)), .op (some 24) (.bin .eql (.t 23) (.k (.int .i64 0)))] (.t 24),
     .op (some 26) (.mov (.t 25)),
     .andor 29 true 5 26 [.op (some 27) (.mov (.t 4)), .op (some 28) (.bin .leq (.t 27) (.k (.int .i64 12)))] (.t 28),
     .op (some 2) (.mov (.t 29))])
  (.keep [2] (.ret))))))))
theorem k_c_sExprOK_fits : fitsF Try.prog 47 ⟨30, k_c_sExprOK, [.t 2]⟩ = true := by kernel_rfl
theorem c_sExprOK {e : GExpr} (hw : e.Nodes.length ≤ 1048576) (hv : ∀ x ∈ e.Nodes, x.V.T.length ≤ 1048576) : Con Try.prog noMv 47 [e.av] [] (fun r h => r = bool (exprOK e) ∧ h = []) := by
  refine con_of2 k_c_sExprOK_fits rfl fun C hP hmv => ?_
  unfold k_c_sExprOK
  refine cx_seq ?_
  refine cx_ops ?_
  refine ax_e (e_box rfl rfl (by decide) rfl rfl rfl) ?_
  refine ax_q (q_mov rfl) ?_
  refine ax_nil ?_
  refine cx_keep rfl rfl ?_
  refine cx_seq ?_
  refine cx_seq ?_
  refine cx_ops ?_
  first | refine ax_q (q_fadr_ptr rfl) ?_ | refine ax_q (q_fadr_rptr rfl) ?_ | refine ax_q (q_fadr_ip rfl) ?_
  first | refine ax_q (q_load1_ptr rfl rfl rfl) ?_ | refine ax_q (q_load1_ip rfl) ?_ | refine ax_q (q_load1_rptr rfl rfl rfl rfl) ?_ | refine ax_q (q_load1_rptr rfl rfl (by assumption) rfl) ?_ | refine ax_q (q_load1_rptr rfl rfl (mapAt (by first | assumption | omega)) rfl) ?_
  first | refine ax_q (q_lenS_map rfl) ?_ | refine ax_q (q_lenS_osl rfl) ?_ | refine ax_q (q_lenS_zs rfl) ?_ | refine ax_q (q_lenS rfl) ?_
  first | refine ax_call rfl (vc_pure0 (c_l01In  ) hP rfl rfl ?_) | refine ax_call rfl (vc_lend0 (c_l01In  ) hP (by repeat (first | exact lal_id _ rfl | exact LAL.nil | refine LAL.cons ?_ ?_ | exact la_id _ rfl | exact LA.lend (lend_whole rfl (by first | (simp; done) | (rw [List.length_map]; rfl))) | refine LA.agg ?_ | refine LA.fn ?_ | refine LA.lend ?_ | exact Lend.d _ | exact Lend.zs _ | exact lend_whole rfl (by first | (simp; done) | (rw [List.length_map]; rfl)) | refine Lend.ptr rfl ?_ | refine Lend.fn ?_ | exact LendL.nil | refine LendL.cons ?_ ?_)) rfl rfl ?_)
  refine ax_q (q_not rfl) ?_
  refine ax_nil ?_
  refine cx_keep rfl rfl ?_
  refine cx_cond rfl (fun h0 => ?_) (fun h0 => ?_)
  · have h0 := bT h0
    refine cx_seq ?_
    refine cx_ops ?_
    refine ax_q (q_mov rfl) ?_
    refine ax_nil ?_
    refine cx_keep rfl rfl ?_
    refine cx_ret (ret0 rfl rfl ?_)
    exact ⟨by rw [exprOK_0 h0]; rfl, rfl⟩
  · have h0 := bF h0
    have hn := inR_iff.1 h0
    refine cx_skip ?_
    refine cx_keep rfl rfl ?_
    refine cx_seq ?_
    refine cx_ops ?_
    first | refine ax_q (q_ldN rfl rfl rfl) ?_ | refine ax_q (q_loadN_ip rfl (Nat.le_refl _)) ?_ | refine ax_q (q_loadN_ip rfl (by decide)) ?_ | refine ax_q (q_loadN_rptr rfl rfl (by assumption) (by decide)) ?_ | refine ax_q (q_loadN_rptr rfl rfl (mapAt (by first | assumption | omega)) (by decide)) ?_
    first | refine ax_q (q_fadr_ptr rfl) ?_ | refine ax_q (q_fadr_rptr rfl) ?_ | refine ax_q (q_fadr_ip rfl) ?_
    first | refine ax_q (q_load1_ptr rfl rfl rfl) ?_ | refine ax_q (q_load1_ip rfl) ?_ | refine ax_q (q_load1_rptr rfl rfl rfl rfl) ?_ | refine ax_q (q_load1_rptr rfl rfl (by assumption) rfl) ?_ | refine ax_q (q_load1_rptr rfl rfl (mapAt (by first | assumption | omega)) rfl) ?_
    first | refine ax_q (q_lenS_map rfl) ?_ | refine ax_q (q_lenS_osl rfl) ?_ | refine ax_q (q_lenS_zs rfl) ?_ | refine ax_q (q_lenS rfl) ?_
    refine ax_q (q_sub rfl rfl (by omega)) ?_
    first | refine ax_call rfl (vc_pure0 (c_l10Walk (f := e.Nodes.length + 1) ?_ ?_ ?_ ?_ ?_ ?_) hP rfl rfl ?_) | refine ax_call rfl (vc_lend0 (c_l10Walk (f := e.Nodes.length + 1) ?_ ?_ ?_ ?_ ?_ ?_) hP (by repeat (first | exact lal_id _ rfl | exact LAL.nil | refine LAL.cons ?_ ?_ | exact la_id _ rfl | exact LA.lend (lend_whole rfl (by first | (simp; done) | (rw [List.length_map]; rfl))) | refine LA.agg ?_ | refine LA.fn ?_ | refine LA.lend ?_ | exact Lend.d _ | exact Lend.zs _ | exact lend_whole rfl (by first | (simp; done) | (rw [List.length_map]; rfl)) | refine Lend.ptr rfl ?_ | refine Lend.fn ?_ | exact LendL.nil | refine LendL.cons ?_ ?_)) rfl rfl ?_)
    · first | assumption | omega | (simp; done) | (simp; omega)
    · first | assumption | omega | (simp; done) | (simp; omega)
    · first | assumption | omega | (simp; done) | (simp; omega)
    · first | assumption | omega | (simp; done) | (simp; omega)
    · first | assumption | omega | (simp; done) | (simp; omega)
    · first | assumption | omega | (simp; done) | (simp; omega)
    refine ax_q (q_mov rfl) ?_
    refine ax_q (q_ext rfl rfl) ?_
    refine ax_q (q_ext rfl rfl) ?_
    refine ax_q (q_ext rfl rfl) ?_
    refine ax_q (q_mov rfl) ?_
    refine ax_q (q_mov rfl) ?_
    refine ax_q (q_mov rfl) ?_
    refine ax_nil ?_
    refine cx_keep rfl rfl ?_
    refine cx_seq ?_
    refine cx_ops ?_
    refine ax_q (q_mov rfl) ?_
    refine ax_q (q_mov rfl) ?_
    apply ax_and rfl rfl
    · intro g
      refine ax_q (q_mov rfl) ?_
      refine ax_q (q_ibin rfl rfl rfl) ?_
      exact ax_nil ⟨rfl, by repeat (first | exact trivial | refine ⟨rfl, ?_⟩ | refine ⟨?_, ?_⟩)⟩
    refine ax_q (q_mov rfl) ?_
    apply ax_and rfl rfl
    · intro g
      have g := (fun h => And.intro (id (and_T h).1) (dT (and_T h).2)) g
      refine ax_q (q_mov rfl) ?_
      refine ax_q (q_ibin rfl rfl rfl) ?_
      exact ax_nil ⟨rfl, by repeat (first | exact trivial | refine ⟨rfl, ?_⟩ | refine ⟨?_, ?_⟩)⟩
    refine ax_q (q_mov rfl) ?_
    refine ax_nil ?_
    refine cx_keep rfl rfl ?_
    refine cx_ret (ret0 rfl rfl ?_)
    exact ⟨by rw [exprOK_1 h0]; rfl, rfl⟩


/- loop.example/g00332/spec.l07Row -/
def k_c_l07Row : XCode :=
  .seq (.ops [.op (some 1) (.box (.t 0)),
     .op (some 2) (.mov (.k (.bool false)))])
  (.keep [1] (.seq (.ops [.op (some 3) (.fadr (.t 1) 0),
     .op (some 4) (.load1 (.t 3)),
     .call (some 5) 45 [.t 4, .k (.int .i64 0), .k (.int .i64 1000)],
     .op (some 6) (.mov (.t 5)),
     .andor 10 true 3 6 [.op (some 7) (.fadr (.t 1) 1), .op (some 8) (.loadN 3 (.t 7)), .call (some 9) 72 [.t 8]] (.t 9),
     .op (some 11) (.mov (.t 10)),
     .andor 15 true 8 11 [.op (some 12) (.fadr (.t 1) 4), .op (some 13) (.loadN 3 (.t 12)), .call (some 14) 72 [.t 13]] (.t 14),
     .op (some 16) (.mov (.t 15)),
     .andor 21 true 13 16 [.op (some 17) (.fadr (.t 1) 1), .op (some 18) (.fadr (.t 17) 0), .op (some 19) (.load1 (.t 18)), .op (some 20) (.bin .neq (.t 19) (.k (.int .i64 2)))] (.t 20),
     .op (some 22) (.mov (.t 21)),
     .andor 27 true 19 22 [.op (some 23) (.fadr (.t 1) 4), .op (some 24) (.fadr (.t 23) 0), .op (some 25) (.load1 (.t 24)), .op (some 26) (.bin .neq (.t 25) (.k (.int .i64 1)))] (.t 26),
     .op (some 2) (.mov (.t 27))])
  (.keep [2] (.ret))))
theorem k_c_l07Row_fits : fitsF Try.prog 48 ⟨28, k_c_l07Row, [.t 2]⟩ = true := by kernel_rfl
theorem c_l07Row {a : GRow} (hv : a.N.T.length ≤ 1048576) (hw : a.Name.T.length ≤ 1048576) : Con Try.prog noMv 48 [a.av] [] (fun r h => r = bool (rowOK a) ∧ h = []) := by
  refine con_of2 k_c_l07Row_fits rfl fun C hP hmv => ?_
  unfold k_c_l07Row
  refine cx_seq ?_
  refine cx_ops ?_
  refine ax_e (e_box rfl rfl (by decide) rfl rfl rfl) ?_
  refine ax_q (q_mov rfl) ?_
  refine ax_nil ?_
  refine cx_keep rfl rfl ?_
  refine cx_seq ?_
  refine cx_ops ?_
  first | refine ax_q (q_fadr_ptr rfl) ?_ | refine ax_q (q_fadr_rptr rfl) ?_ | refine ax_q (q_fadr_ip rfl) ?_
  first | refine ax_q (q_load1_ptr rfl rfl rfl) ?_ | refine ax_q (q_load1_ip rfl) ?_ | refine ax_q (q_load1_rptr rfl rfl rfl rfl) ?_ | refine ax_q (q_load1_rptr rfl rfl (by assumption) rfl) ?_ | refine ax_q (q_load1_rptr rfl rfl (mapAt (by first | assumption | omega)) rfl) ?_
  first | refine ax_call rfl (vc_pure0 (c_l01In  ) hP rfl rfl ?_) | refine ax_call rfl (vc_lend0 (c_l01In  ) hP (by repeat (first | exact lal_id _ rfl | exact LAL.nil | refine LAL.cons ?_ ?_ | exact la_id _ rfl | exact LA.lend (lend_whole rfl (by first | (simp; done) | (rw [List.length_map]; rfl))) | refine LA.agg ?_ | refine LA.fn ?_ | refine LA.lend ?_ | exact Lend.d _ | exact Lend.zs _ | exact lend_whole rfl (by first | (simp; done) | (rw [List.length_map]; rfl)) | refine Lend.ptr rfl ?_ | refine Lend.fn ?_ | exact LendL.nil | refine LendL.cons ?_ ?_)) rfl rfl ?_)
  refine ax_q (q_mov rfl) ?_
  apply ax_and rfl rfl
  · intro g
    first | refine ax_q (q_fadr_ptr rfl) ?_ | refine ax_q (q_fadr_rptr rfl) ?_ | refine ax_q (q_fadr_ip rfl) ?_
    first | refine ax_q (q_ldN rfl rfl rfl) ?_ | refine ax_q (q_loadN_ip rfl (Nat.le_refl _)) ?_ | refine ax_q (q_loadN_ip rfl (by decide)) ?_ | refine ax_q (q_loadN_rptr rfl rfl (by assumption) (by decide)) ?_ | refine ax_q (q_loadN_rptr rfl rfl (mapAt (by first | assumption | omega)) (by decide)) ?_
    first | refine ax_call rfl (vc_pure0 (c_sValueOK (v := a.N) ?_) hP rfl rfl ?_) | refine ax_call rfl (vc_lend0 (c_sValueOK (v := a.N) ?_) hP (by repeat (first | exact lal_id _ rfl | exact LAL.nil | refine LAL.cons ?_ ?_ | exact la_id _ rfl | exact LA.lend (lend_whole rfl (by first | (simp; done) | (rw [List.length_map]; rfl))) | refine LA.agg ?_ | refine LA.fn ?_ | refine LA.lend ?_ | exact Lend.d _ | exact Lend.zs _ | exact lend_whole rfl (by first | (simp; done) | (rw [List.length_map]; rfl)) | refine Lend.ptr rfl ?_ | refine Lend.fn ?_ | exact LendL.nil | refine LendL.cons ?_ ?_)) rfl rfl ?_)
    · first | assumption | omega | (simp; done) | (simp; omega)
    exact ax_nil ⟨rfl, by repeat (first | exact trivial | refine ⟨rfl, ?_⟩ | refine ⟨?_, ?_⟩)⟩
  refine ax_q (q_mov rfl) ?_
  apply ax_and rfl rfl
  · intro g
    have g := (fun h => And.intro (id (and_T h).1) (id (and_T h).2)) g
    first | refine ax_q (q_fadr_ptr rfl) ?_ | refine ax_q (q_fadr_rptr rfl) ?_ | refine ax_q (q_fadr_ip rfl) ?_
    first | refine ax_q (q_ldN rfl rfl rfl) ?_ | refine ax_q (q_loadN_ip rfl (Nat.le_refl _)) ?_ | refine ax_q (q_loadN_ip rfl (by decide)) ?_ | refine ax_q (q_loadN_rptr rfl rfl (by assumption) (by decide)) ?_ | refine ax_q (q_loadN_rptr rfl rfl (mapAt (by first | assumption | omega)) (by decide)) ?_
    first | refine ax_call rfl (vc_pure0 (c_sValueOK (v := a.Name) ?_) hP rfl rfl ?_) | refine ax_call rfl (vc_lend0 (c_sValueOK (v := a.Name) ?_) hP (by repeat (first | exact lal_id _ rfl | exact LAL.nil | refine LAL.cons ?_ ?_ | exact la_id _ rfl | exact LA.lend (lend_whole rfl (by first | (simp; done) | (rw [List.length_map]; rfl))) | refine LA.agg ?_ | refine LA.fn ?_ | refine LA.lend ?_ | exact Lend.d _ | exact Lend.zs _ | exact lend_whole rfl (by first | (simp; done) | (rw [List.length_map]; rfl)) | refine Lend.ptr rfl ?_ | refine Lend.fn ?_ | exact LendL.nil | refine LendL.cons ?_ ?_)) rfl rfl ?_)
    · first | assumption | omega | (simp; done) | (simp; omega)
    exact ax_nil ⟨rfl, by repeat (first | exact trivial | refine ⟨rfl, ?_⟩ | refine ⟨?_, ?_⟩)⟩
  refine ax_q (q_mov rfl) ?_
  apply ax_and rfl rfl
  · intro g
    have g := (fun h => And.intro ((fun h => And.intro (id (and_T h).1) (id (and_T h).2)) (and_T h).1) (id (and_T h).2)) g
    first | refine ax_q (q_fadr_ptr rfl) ?_ | refine ax_q (q_fadr_rptr rfl) ?_ | refine ax_q (q_fadr_ip rfl) ?_
    first | refine ax_q (q_fadr_ptr rfl) ?_ | refine ax_q (q_fadr_rptr rfl) ?_ | refine ax_q (q_fadr_ip rfl) ?_
    first | refine ax_q (q_load1_ptr rfl rfl rfl) ?_ | refine ax_q (q_load1_ip rfl) ?_ | refine ax_q (q_load1_rptr rfl rfl rfl rfl) ?_ | refine ax_q (q_load1_rptr rfl rfl (by assumption) rfl) ?_ | refine ax_q (q_load1_rptr rfl rfl (mapAt (by first | assumption | omega)) rfl) ?_
    refine ax_q (q_ibin rfl rfl rfl) ?_
    exact ax_nil ⟨rfl, by repeat (first | exact trivial | refine ⟨rfl, ?_⟩ | refine ⟨?_, ?_⟩)⟩
  refine ax_q (q_mov rfl) ?_
  apply ax_and rfl rfl
  · intro g
    have g := (fun h => And.intro ((fun h => And.intro ((fun h => And.intro (id (and_T h).1) (id (and_T h).2)) (and_T h).1) (id (and_T h).2)) (and_T h).1) (nT (and_T h).2)) g
    first | refine ax_q (q_fadr_ptr rfl) ?_ | refine ax_q (q_fadr_rptr rfl) ?_ | refine ax_q (q_fadr_ip rfl) ?_
    first | refine ax_q (q_fadr_ptr rfl) ?_ | refine ax_q (q_fadr_rptr rfl) ?_ | refine ax_q (q_fadr_ip rfl) ?_
    first | refine ax_q (q_load1_ptr rfl rfl rfl) ?_ | refine ax_q (q_load1_ip rfl) ?_ | refine ax_q (q_load1_rptr rfl rfl rfl rfl) ?_ | refine ax_q (q_load1_rptr rfl rfl (by assumption) rfl) ?_ | refine ax_q (q_load1_rptr rfl rfl (mapAt (by first | assumption | omega)) rfl) ?_
    refine ax_q (q_ibin rfl rfl rfl) ?_
    exact ax_nil ⟨rfl, by repeat (first | exact trivial | refine ⟨rfl, ?_⟩ | refine ⟨?_, ?_⟩)⟩
  refine ax_q (q_mov rfl) ?_
  refine ax_nil ?_
  refine cx_keep rfl rfl ?_
  refine cx_ret (ret0 rfl rfl ?_)
  exact ⟨rfl, rfl⟩


/- loop.example/g00332/spec.l10Int -/
def k_c_sInt : XCode :=
  .seq (.ops [.op (some 2) (.alloc [.int .i64 0, .int .i64 0, .str []])])
  (.keep [0, 2] (.seq (.ops [.op (some 3) (.mov (.t 0)),
     .op (some 4) (.build [.int .i64 0, .int .i64 0, .str []] [(0, 1, .k (.int .i64 1)), (1, 1, .t 3)]),
     .op none (.store 3 (.t 2) (.t 4))])
  (.keep [2] (.ret))))
theorem k_c_sInt_fits : fitsF Try.prog 86 ⟨5, k_c_sInt, [.cN 2 3]⟩ = true := by kernel_rfl
theorem c_sInt {n : Int} : Con Try.prog noMv 86 [int n] [] (fun r h => r = (vI n).av ∧ h = []) := by
  refine con_of2 k_c_sInt_fits rfl fun C hP hmv => ?_
  unfold k_c_sInt
  refine cx_seq ?_
  refine cx_ops ?_
  refine ax_e (e_alloc (by decide) rfl rfl) ?_
  refine ax_nil ?_
  refine cx_keep rfl rfl ?_
  refine cx_seq ?_
  refine cx_ops ?_
  refine ax_q (q_mov rfl) ?_
  refine ax_q (q_build rfl) ?_
  refine ax_e (e_st rfl rfl rfl rfl rfl rfl rfl) ?_
  refine ax_nil ?_
  refine cx_keep rfl rfl ?_
  refine cx_ret (ret0 rfl rfl ?_)
  exact ⟨rfl, rfl⟩


/- loop.example/g00332/spec.l10Column -/
def k_c_sColumn : XCode :=
  .seq (.ops [.op (some 2) (.box (.t 0)),
     .op (some 4) (.alloc [.int .i64 0, .int .i64 0, .str []])])
  (.keep [1, 2, 4] (.seq (.seq (.ops [.op (some 5) (.mov (.t 1))])
   (.keep [2, 4, 5] (.block 0 (.seq (.ops [.op (some 7) (.bin .eql (.t 5) (.k (.int .i64 0))),
       .op (some 6) (.mov (.t 7))])
    (.keep [2, 4, 5, 6] (.cond (.t 6)
     (.seq (.ops [.op (some 8) (.fadr (.t 2) 0),
         .op (some 9) (.load1 (.t 8)),
         .call (some 10) 86 [.t 9],
         .op none (.store 3 (.t 4) (.t 10))])
      (.keep [4] (.ret)))
     (.seq (.ops [.op (some 12) (.bin .eql (.t 5) (.k (.int .i64 1))),
         .op (some 11) (.mov (.t 12))])
      (.keep [2, 4, 11] (.cond (.t 11)
       (.seq (.ops [.op (some 13) (.fadr (.t 2) 1),
           .op (some 14) (.loadN 3 (.t 13)),
           .op none (.store 3 (.t 4) (.t 14))])
        (.keep [4] (.ret)))
       (.skip))))))))))
  (.keep [2, 4] (.seq (.ops [.op (some 15) (.fadr (.t 2) 4),
     .op (some 16) (.loadN 3 (.t 15)),
     .op none (.store 3 (.t 4) (.t 16))])
  (.keep [4] (.ret))))))
theorem k_c_sColumn_fits : fitsF Try.prog 84 ⟨17, k_c_sColumn, [.cN 4 3]⟩ = true := by kernel_rfl
theorem c_sColumn {w : GRow} {k : Int} : Con Try.prog noMv 84 [w.av, int k] [] (fun r h => r = (colF w k).av ∧ h = []) := by
  refine con_of2 k_c_sColumn_fits rfl fun C hP hmv => ?_
  unfold k_c_sColumn
  refine cx_seq ?_
  refine cx_ops ?_
  refine ax_e (e_box rfl rfl (by decide) rfl rfl rfl) ?_
  refine ax_e (e_alloc (by decide) rfl rfl) ?_
  refine ax_nil ?_
  refine cx_keep rfl rfl ?_
  refine cx_seq ?_
  refine cx_seq ?_
  refine cx_ops ?_
  refine ax_q (q_mov rfl) ?_
  refine ax_nil ?_
  refine cx_keep rfl rfl ?_
  refine cx_block ?_
  refine cx_seq ?_
  refine cx_ops ?_
  refine ax_q (q_ibin rfl rfl rfl) ?_
  refine ax_q (q_mov rfl) ?_
  refine ax_nil ?_
  refine cx_keep rfl rfl ?_
  refine cx_cond rfl (fun h0 => ?_) (fun h0 => ?_)
  · have h0 := dT h0
    refine cx_seq ?_
    refine cx_ops ?_
    first | refine ax_q (q_fadr_ptr rfl) ?_ | refine ax_q (q_fadr_rptr rfl) ?_ | refine ax_q (q_fadr_ip rfl) ?_
    first | refine ax_q (q_load1_ptr rfl rfl rfl) ?_ | refine ax_q (q_load1_ip rfl) ?_ | refine ax_q (q_load1_rptr rfl rfl rfl rfl) ?_ | refine ax_q (q_load1_rptr rfl rfl (by assumption) rfl) ?_ | refine ax_q (q_load1_rptr rfl rfl (mapAt (by first | assumption | omega)) rfl) ?_
    first | refine ax_call rfl (vc_pure0 (c_sInt  ) hP rfl rfl ?_) | refine ax_call rfl (vc_lend0 (c_sInt  ) hP (by repeat (first | exact lal_id _ rfl | exact LAL.nil | refine LAL.cons ?_ ?_ | exact la_id _ rfl | exact LA.lend (lend_whole rfl (by first | (simp; done) | (rw [List.length_map]; rfl))) | refine LA.agg ?_ | refine LA.fn ?_ | refine LA.lend ?_ | exact Lend.d _ | exact Lend.zs _ | exact lend_whole rfl (by first | (simp; done) | (rw [List.length_map]; rfl)) | refine Lend.ptr rfl ?_ | refine Lend.fn ?_ | exact LendL.nil | refine LendL.cons ?_ ?_)) rfl rfl ?_)
    refine ax_e (e_st rfl rfl rfl rfl rfl rfl rfl) ?_
    refine ax_nil ?_
    refine cx_keep rfl rfl ?_
    refine cx_ret (ret0 rfl rfl ?_)
    exact ⟨by unfold colF; rw [if_pos h0]; rfl, rfl⟩
  · have h0 := dF h0
    refine cx_seq ?_
    refine cx_ops ?_
    refine ax_q (q_ibin rfl rfl rfl) ?_
    refine ax_q (q_mov rfl) ?_
    refine ax_nil ?_
    refine cx_keep rfl rfl ?_
    refine cx_cond rfl (fun h1 => ?_) (fun h1 => ?_)
    · have h1 := dT h1
      refine cx_seq ?_
      refine cx_ops ?_
      first | refine ax_q (q_fadr_ptr rfl) ?_ | refine ax_q (q_fadr_rptr rfl) ?_ | refine ax_q (q_fadr_ip rfl) ?_
      first | refine ax_q (q_ldN rfl rfl rfl) ?_ | refine ax_q (q_loadN_ip rfl (Nat.le_refl _)) ?_ | refine ax_q (q_loadN_ip rfl (by decide)) ?_ | refine ax_q (q_loadN_rptr rfl rfl (by assumption) (by decide)) ?_ | refine ax_q (q_loadN_rptr rfl rfl (mapAt (by first | assumption | omega)) (by decide)) ?_
      refine ax_e (e_st rfl rfl rfl rfl rfl rfl rfl) ?_
      refine ax_nil ?_
      refine cx_keep rfl rfl ?_
      refine cx_ret (ret0 rfl rfl ?_)
      exact ⟨by unfold colF; rw [if_neg h0, if_pos h1]; rfl, rfl⟩
    · have h1 := dF h1
      refine cx_skip ?_
      refine cx_keep rfl rfl ?_
      refine cx_seq ?_
      refine cx_ops ?_
      first | refine ax_q (q_fadr_ptr rfl) ?_ | refine ax_q (q_fadr_rptr rfl) ?_ | refine ax_q (q_fadr_ip rfl) ?_
      first | refine ax_q (q_ldN rfl rfl rfl) ?_ | refine ax_q (q_loadN_ip rfl (Nat.le_refl _)) ?_ | refine ax_q (q_loadN_ip rfl (by decide)) ?_ | refine ax_q (q_loadN_rptr rfl rfl (by assumption) (by decide)) ?_ | refine ax_q (q_loadN_rptr rfl rfl (mapAt (by first | assumption | omega)) (by decide)) ?_
      refine ax_e (e_st rfl rfl rfl rfl rfl rfl rfl) ?_
      refine ax_nil ?_
      refine cx_keep rfl rfl ?_
      refine cx_ret (ret0 rfl rfl ?_)
      exact ⟨by unfold colF; rw [if_neg h0, if_neg h1]; rfl, rfl⟩


/- loop.example/g00332/spec.l01Bit -/
def k_c_l01Bit : XCode :=
  .seq (.ops [.op (some 2) (.mov (.k (.int .i64 0)))])
  (.keep [0] (.seq (.seq (.ops [.op (some 3) (.mov (.t 0))])
   (.keep [3] (.cond (.t 3)
    (.seq (.ops [.op (some 2) (.mov (.k (.int .i64 1)))])
     (.keep [2] (.ret)))
    (.skip))))
  (.keep [] (.seq (.ops [.op (some 2) (.mov (.k (.int .i64 0)))])
  (.keep [2] (.ret))))))
theorem k_c_l01Bit_fits : fitsF Try.prog 80 ⟨4, k_c_l01Bit, [.t 2]⟩ = true := by kernel_rfl
theorem c_l01Bit {b : Bool} : Con Try.prog noMv 80 [bool b] [] (fun r h => r = int (bitI b) ∧ h = []) := by
  refine con_of2 k_c_l01Bit_fits rfl fun C hP hmv => ?_
  unfold k_c_l01Bit
  refine cx_seq ?_
  refine cx_ops ?_
  refine ax_q (q_mov rfl) ?_
  refine ax_nil ?_
  refine cx_keep rfl rfl ?_
  refine cx_seq ?_
  refine cx_seq ?_
  refine cx_ops ?_
  refine ax_q (q_mov rfl) ?_
  refine ax_nil ?_
  refine cx_keep rfl rfl ?_
  refine cx_cond rfl (fun h0 => ?_) (fun h0 => ?_)
  · skip
    refine cx_seq ?_
    refine cx_ops ?_
    refine ax_q (q_mov rfl) ?_
    refine ax_nil ?_
    refine cx_keep rfl rfl ?_
    refine cx_ret (ret0 rfl rfl ?_)
    exact ⟨by rw [h0]; rfl, rfl⟩
  · skip
    refine cx_skip ?_
    refine cx_keep rfl rfl ?_
    refine cx_seq ?_
    refine cx_ops ?_
    refine ax_q (q_mov rfl) ?_
    refine ax_nil ?_
    refine cx_keep rfl rfl ?_
    refine cx_ret (ret0 rfl rfl ?_)
    exact ⟨by rw [h0]; rfl, rfl⟩


/- loop.example/g00332/spec.l10Unary -/
def k_c_sUnary : XCode :=
  .seq (.ops [.op (some 3) (.box (.t 1)),
     .op (some 4) (.alloc [.int .i64 0, .int .i64 0, .str []]),
     .op (some 5) (.mov (.k (.int .i64 0)))])
  (.keep [0, 3, 4] (.seq (.block 0 (.seq (.ops [.op (some 7) (.mov (.t 0)),
       .op (some 8) (.bin .eql (.t 7) (.k (.int .i64 4))),
       .op (some 6) (.mov (.t 8))])
    (.keep [0, 3, 4, 6] (.cond (.t 6)
     (.seq (.ops [.op (some 9) (.fadr (.t 3) 0),
         .op (some 10) (.load1 (.t 9)),
         .op (some 11) (.bin .eql (.t 10) (.k (.int .i64 0))),
         .call (some 12) 80 [.t 11],
         .call (some 13) 86 [.t 12],
         .op none (.store 3 (.t 4) (.t 13)),
         .op (some 5) (.mov (.k (.int .i64 0)))])
      (.keep [4, 5] (.ret)))
     (.seq (.ops [.op (some 15) (.fadr (.t 3) 0),
         .op (some 16) (.load1 (.t 15)),
         .op (some 17) (.bin .eql (.t 16) (.k (.int .i64 2))),
         .op (some 14) (.mov (.t 17))])
      (.keep [0, 3, 4, 14] (.cond (.t 14)
       (.seq (.ops [.op (some 18) (.build [.int .i64 0, .int .i64 0, .str []] []),
           .op none (.store 3 (.t 4) (.t 18)),
           .op (some 5) (.mov (.k (.int .i64 10)))])
        (.keep [4, 5] (.ret)))
       (.seq (.ops [.op (some 20) (.fadr (.t 3) 0),
           .op (some 21) (.load1 (.t 20)),
           .op (some 22) (.bin .eql (.t 21) (.k (.int .i64 0))),
           .op (some 19) (.mov (.t 22))])
        (.keep [0, 3, 4, 19] (.cond (.t 19)
         (.seq (.ops [.op (some 23) (.loadN 3 (.t 3)),
             .op none (.store 3 (.t 4) (.t 23)),
             .op (some 5) (.mov (.k (.int .i64 0)))])
          (.keep [4, 5] (.ret)))
         (.seq (.ops [.op (some 25) (.mov (.t 0)),
             .op (some 26) (.bin .eql (.t 25) (.k (.int .i64 3))),
             .op (some 24) (.mov (.t 26))])
          (.keep [3, 4, 24] (.cond (.t 24)
           (.seq (.ops [.op (some 27) (.fadr (.t 3) 1),
               .op (some 28) (.load1 (.t 27)),
               .op (some 29) (.bin .eql (.t 28) (.k (.int .i64 0))),
               .call (some 30) 80 [.t 29],
               .call (some 31) 86 [.t 30],
               .op none (.store 3 (.t 4) (.t 31)),
               .op (some 5) (.mov (.k (.int .i64 0)))])
            (.keep [4, 5] (.ret)))
           (.skip))))))))))))))
  (.keep [3, 4] (.seq (.ops [.op (some 32) (.fadr (.t 3) 1),
     .op (some 33) (.load1 (.t 32)),
     .op (some 34) (.neg (.t 33)),
     .call (some 35) 86 [.t 34],
     .op none (.store 3 (.t 4) (.t 35)),
     .op (some 5) (.mov (.k (.int .i64 0)))])
  (.keep [4, 5] (.ret))))))
theorem k_c_sUnary_fits : fitsF Try.prog 85 ⟨36, k_c_sUnary, [.cN 4 3, .t 5]⟩ = true := by kernel_rfl
theorem c_sUnary {op : Int} {a : GValue} (ha : RV a) : Con Try.prog noMv 85 [int op, a.av] [] (fun r h => r = .tup [(unF op a).1.av, int (unF op a).2] ∧ h = []) := by
  refine con_of2 k_c_sUnary_fits rfl fun C hP hmv => ?_
  unfold k_c_sUnary
  have hn := ha.n
  refine cx_seq ?_
  refine cx_ops ?_
  refine ax_e (e_box rfl rfl (by decide) rfl rfl rfl) ?_
  refine ax_e (e_alloc (by decide) rfl rfl) ?_
  refine ax_q (q_mov rfl) ?_
  refine ax_nil ?_
  refine cx_keep rfl rfl ?_
  refine cx_seq ?_
  refine cx_block ?_
  refine cx_seq ?_
  refine cx_ops ?_
  refine ax_q (q_mov rfl) ?_
  refine ax_q (q_ibin rfl rfl rfl) ?_
  refine ax_q (q_mov rfl) ?_
  refine ax_nil ?_
  refine cx_keep rfl rfl ?_
  refine cx_cond rfl (fun h0 => ?_) (fun h0 => ?_)
  · have h0 := dT h0
    refine cx_seq ?_
    refine cx_ops ?_
    first | refine ax_q (q_fadr_ptr rfl) ?_ | refine ax_q (q_fadr_rptr rfl) ?_ | refine ax_q (q_fadr_ip rfl) ?_
    first | refine ax_q (q_load1_ptr rfl rfl rfl) ?_ | refine ax_q (q_load1_ip rfl) ?_ | refine ax_q (q_load1_rptr rfl rfl rfl rfl) ?_ | refine ax_q (q_load1_rptr rfl rfl (by assumption) rfl) ?_ | refine ax_q (q_load1_rptr rfl rfl (mapAt (by first | assumption | omega)) rfl) ?_
    refine ax_q (q_ibin rfl rfl rfl) ?_
    first | refine ax_call rfl (vc_pure0 (c_l01Bit  ) hP rfl rfl ?_) | refine ax_call rfl (vc_lend0 (c_l01Bit  ) hP (by repeat (first | exact lal_id _ rfl | exact LAL.nil | refine LAL.cons ?_ ?_ | exact la_id _ rfl | exact LA.lend (lend_whole rfl (by first | (simp; done) | (rw [List.length_map]; rfl))) | refine LA.agg ?_ | refine LA.fn ?_ | refine LA.lend ?_ | exact Lend.d _ | exact Lend.zs _ | exact lend_whole rfl (by first | (simp; done) | (rw [List.length_map]; rfl)) | refine Lend.ptr rfl ?_ | refine Lend.fn ?_ | exact LendL.nil | refine LendL.cons ?_ ?_)) rfl rfl ?_)
    first | refine ax_call rfl (vc_pure0 (c_sInt  ) hP rfl rfl ?_) | refine ax_call rfl (vc_lend0 (c_sInt  ) hP (by repeat (first | exact lal_id _ rfl | exact LAL.nil | refine LAL.cons ?_ ?_ | exact la_id _ rfl | exact LA.lend (lend_whole rfl (by first | (simp; done) | (rw [List.length_map]; rfl))) | refine LA.agg ?_ | refine LA.fn ?_ | refine LA.lend ?_ | exact Lend.d _ | exact Lend.zs _ | exact lend_whole rfl (by first | (simp; done) | (rw [List.length_map]; rfl)) | refine Lend.ptr rfl ?_ | refine Lend.fn ?_ | exact LendL.nil | refine LendL.cons ?_ ?_)) rfl rfl ?_)
    refine ax_e (e_st rfl rfl rfl rfl rfl rfl rfl) ?_
    refine ax_q (q_mov rfl) ?_
    refine ax_nil ?_
    refine cx_keep rfl rfl ?_
    refine cx_ret (ret0 rfl rfl ?_)
    have e : unF op a = (vB (decide (a.Kind = 0)), 0) := by unfold unF; rw [if_pos (by omega)]
    exact ⟨by rw [e]; rfl, rfl⟩
  · have h0 := dF h0
    refine cx_seq ?_
    refine cx_ops ?_
    first | refine ax_q (q_fadr_ptr rfl) ?_ | refine ax_q (q_fadr_rptr rfl) ?_ | refine ax_q (q_fadr_ip rfl) ?_
    first | refine ax_q (q_load1_ptr rfl rfl rfl) ?_ | refine ax_q (q_load1_ip rfl) ?_ | refine ax_q (q_load1_rptr rfl rfl rfl rfl) ?_ | refine ax_q (q_load1_rptr rfl rfl (by assumption) rfl) ?_ | refine ax_q (q_load1_rptr rfl rfl (mapAt (by first | assumption | omega)) rfl) ?_
    refine ax_q (q_ibin rfl rfl rfl) ?_
    refine ax_q (q_mov rfl) ?_
    refine ax_nil ?_
    refine cx_keep rfl rfl ?_
    refine cx_cond rfl (fun h1 => ?_) (fun h1 => ?_)
    · have h1 := dT h1
      refine cx_seq ?_
      refine cx_ops ?_
      refine ax_q (q_build rfl) ?_
      refine ax_e (e_st rfl rfl rfl rfl rfl rfl rfl) ?_
      refine ax_q (q_mov rfl) ?_
      refine ax_nil ?_
      refine cx_keep rfl rfl ?_
      refine cx_ret (ret0 rfl rfl ?_)
      have e : unF op a = (.zero, 10) := by unfold unF; rw [if_neg (by omega), if_pos (by omega)]
      exact ⟨by rw [e]; rfl, rfl⟩
    · have h1 := dF h1
      refine cx_seq ?_
      refine cx_ops ?_
      first | refine ax_q (q_fadr_ptr rfl) ?_ | refine ax_q (q_fadr_rptr rfl) ?_ | refine ax_q (q_fadr_ip rfl) ?_
      first | refine ax_q (q_load1_ptr rfl rfl rfl) ?_ | refine ax_q (q_load1_ip rfl) ?_ | refine ax_q (q_load1_rptr rfl rfl rfl rfl) ?_ | refine ax_q (q_load1_rptr rfl rfl (by assumption) rfl) ?_ | refine ax_q (q_load1_rptr rfl rfl (mapAt (by first | assumption | omega)) rfl) ?_
      refine ax_q (q_ibin rfl rfl rfl) ?_
      refine ax_q (q_mov rfl) ?_
      refine ax_nil ?_
      refine cx_keep rfl rfl ?_
      refine cx_cond rfl (fun h2 => ?_) (fun h2 => ?_)
      · have h2 := dT h2
        refine cx_seq ?_
        refine cx_ops ?_
        first | refine ax_q (q_ldN rfl rfl rfl) ?_ | refine ax_q (q_loadN_ip rfl (Nat.le_refl _)) ?_ | refine ax_q (q_loadN_ip rfl (by decide)) ?_ | refine ax_q (q_loadN_rptr rfl rfl (by assumption) (by decide)) ?_ | refine ax_q (q_loadN_rptr rfl rfl (mapAt (by first | assumption | omega)) (by decide)) ?_
        refine ax_e (e_st rfl rfl rfl rfl rfl rfl rfl) ?_
        refine ax_q (q_mov rfl) ?_
        refine ax_nil ?_
        refine cx_keep rfl rfl ?_
        refine cx_ret (ret0 rfl rfl ?_)
        have e : unF op a = (.zero, 0) := by unfold unF; rw [if_neg (by omega), if_neg (by omega), if_pos (by omega)]
        exact ⟨by rw [e, ha.z h2]; rfl, rfl⟩
      · have h2 := dF h2
        refine cx_seq ?_
        refine cx_ops ?_
        refine ax_q (q_mov rfl) ?_
        refine ax_q (q_ibin rfl rfl rfl) ?_
        refine ax_q (q_mov rfl) ?_
        refine ax_nil ?_
        refine cx_keep rfl rfl ?_
        refine cx_cond rfl (fun h3 => ?_) (fun h3 => ?_)
        · have h3 := dT h3
          refine cx_seq ?_
          refine cx_ops ?_
          first | refine ax_q (q_fadr_ptr rfl) ?_ | refine ax_q (q_fadr_rptr rfl) ?_ | refine ax_q (q_fadr_ip rfl) ?_
          first | refine ax_q (q_load1_ptr rfl rfl rfl) ?_ | refine ax_q (q_load1_ip rfl) ?_ | refine ax_q (q_load1_rptr rfl rfl rfl rfl) ?_ | refine ax_q (q_load1_rptr rfl rfl (by assumption) rfl) ?_ | refine ax_q (q_load1_rptr rfl rfl (mapAt (by first | assumption | omega)) rfl) ?_
          refine ax_q (q_ibin rfl rfl rfl) ?_
          first | refine ax_call rfl (vc_pure0 (c_l01Bit  ) hP rfl rfl ?_) | refine ax_call rfl (vc_lend0 (c_l01Bit  ) hP (by repeat (first | exact lal_id _ rfl | exact LAL.nil | refine LAL.cons ?_ ?_ | exact la_id _ rfl | exact LA.lend (lend_whole rfl (by first | (simp; done) | (rw [List.length_map]; rfl))) | refine LA.agg ?_ | refine LA.fn ?_ | refine LA.lend ?_ | exact Lend.d _ | exact Lend.zs _ | exact lend_whole rfl (by first | (simp; done) | (rw [List.length_map]; rfl)) | refine Lend.ptr rfl ?_ | refine Lend.fn ?_ | exact LendL.nil | refine LendL.cons ?_ ?_)) rfl rfl ?_)
          first | refine ax_call rfl (vc_pure0 (c_sInt  ) hP rfl rfl ?_) | refine ax_call rfl (vc_lend0 (c_sInt  ) hP (by repeat (first | exact lal_id _ rfl | exact LAL.nil | refine LAL.cons ?_ ?_ | exact la_id _ rfl | exact LA.lend (lend_whole rfl (by first | (simp; done) | (rw [List.length_map]; rfl))) | refine LA.agg ?_ | refine LA.fn ?_ | refine LA.lend ?_ | exact Lend.d _ | exact Lend.zs _ | exact lend_whole rfl (by first | (simp; done) | (rw [List.length_map]; rfl)) | refine Lend.ptr rfl ?_ | refine Lend.fn ?_ | exact LendL.nil | refine LendL.cons ?_ ?_)) rfl rfl ?_)
          refine ax_e (e_st rfl rfl rfl rfl rfl rfl rfl) ?_
          refine ax_q (q_mov rfl) ?_
          refine ax_nil ?_
          refine cx_keep rfl rfl ?_
          refine cx_ret (ret0 rfl rfl ?_)
          have e : unF op a = (vB (decide (a.N = 0)), 0) := by unfold unF; rw [if_neg (by omega), if_neg (by omega), if_neg (by omega), if_pos (by omega)]
          exact ⟨by rw [e]; rfl, rfl⟩
        · have h3 := dF h3
          refine cx_skip ?_
          refine cx_keep rfl rfl ?_
          refine cx_seq ?_
          refine cx_ops ?_
          first | refine ax_q (q_fadr_ptr rfl) ?_ | refine ax_q (q_fadr_rptr rfl) ?_ | refine ax_q (q_fadr_ip rfl) ?_
          first | refine ax_q (q_load1_ptr rfl rfl rfl) ?_ | refine ax_q (q_load1_ip rfl) ?_ | refine ax_q (q_load1_rptr rfl rfl rfl rfl) ?_ | refine ax_q (q_load1_rptr rfl rfl (by assumption) rfl) ?_ | refine ax_q (q_load1_rptr rfl rfl (mapAt (by first | assumption | omega)) rfl) ?_
          first | refine ax_q (q_negI rfl (by omega)) ?_ | refine ax_q (q_neg rfl) ?_
          first | refine ax_call rfl (vc_pure0 (c_sInt  ) hP rfl rfl ?_) | refine ax_call rfl (vc_lend0 (c_sInt  ) hP (by repeat (first | exact lal_id _ rfl | exact LAL.nil | refine LAL.cons ?_ ?_ | exact la_id _ rfl | exact LA.lend (lend_whole rfl (by first | (simp; done) | (rw [List.length_map]; rfl))) | refine LA.agg ?_ | refine LA.fn ?_ | refine LA.lend ?_ | exact Lend.d _ | exact Lend.zs _ | exact lend_whole rfl (by first | (simp; done) | (rw [List.length_map]; rfl)) | refine Lend.ptr rfl ?_ | refine Lend.fn ?_ | exact LendL.nil | refine LendL.cons ?_ ?_)) rfl rfl ?_)
          refine ax_e (e_st rfl rfl rfl rfl rfl rfl rfl) ?_
          refine ax_q (q_mov rfl) ?_
          refine ax_nil ?_
          refine cx_keep rfl rfl ?_
          refine cx_ret (ret0 rfl rfl ?_)
          have e : unF op a = (vI (-a.N), 0) := by unfold unF; rw [if_neg (by omega), if_neg (by omega), if_neg (by omega), if_neg (by omega)]
          exact ⟨by rw [e]; rfl, rfl⟩


/- loop.example/g00332/spec.l01Compare -/
def k_c_l01Compare : XCode :=
  .seq (.ops [.op (some 2) (.box (.t 0)),
     .op (some 3) (.box (.t 1)),
     .op (some 4) (.mov (.k (.int .i64 0)))])
  (.keep [2, 3] (.seq (.block 0 (.seq (.ops [.op (some 6) (.fadr (.t 2) 0),
       .op (some 7) (.load1 (.t 6)),
       .op (some 8) (.fadr (.t 3) 0),
       .op (some 9) (.load1 (.t 8)),
       .op (some 10) (.bin .neq (.t 7) (.t 9)),
       .op (some 5) (.mov (.t 10))])
    (.keep [2, 3, 5] (.cond (.t 5)
     (.seq (.ops [.op (some 11) (.fadr (.t 2) 0),
         .op (some 12) (.load1 (.t 11)),
         .op (some 13) (.fadr (.t 3) 0),
         .op (some 14) (.load1 (.t 13)),
         .op (some 15) (.bin .gtr (.t 12) (.t 14)),
         .call (some 16) 80 [.t 15],
         .op (some 17) (.bin .mul (.k (.int .i64 2)) (.t 16)),
         .op (some 18) (.bin .sub (.t 17) (.k (.int .i64 1))),
         .op (some 4) (.mov (.t 18))])
      (.keep [4] (.ret)))
     (.seq (.ops [.op (some 20) (.fadr (.t 2) 1),
         .op (some 21) (.load1 (.t 20)),
         .op (some 22) (.fadr (.t 3) 1),
         .op (some 23) (.load1 (.t 22)),
         .op (some 24) (.bin .neq (.t 21) (.t 23)),
         .op (some 19) (.mov (.t 24))])
      (.keep [2, 3, 19] (.cond (.t 19)
       (.seq (.ops [.op (some 25) (.fadr (.t 2) 1),
           .op (some 26) (.load1 (.t 25)),
           .op (some 27) (.fadr (.t 3) 1),
           .op (some 28) (.load1 (.t 27)),
           .op (some 29) (.bin .gtr (.t 26) (.t 28)),
           .call (some 30) 80 [.t 29],
           .op (some 31) (.bin .mul (.k (.int .i64 2)) (.t 30)),
           .op (some 32) (.bin .sub (.t 31) (.k (.int .i64 1))),
           .op (some 4) (.mov (.t 32))])
        (.keep [4] (.ret)))
       (.seq (.ops [.op (some 34) (.fadr (.t 2) 2),
           .op (some 35) (.load1 (.t 34)),
           .op (some 36) (.fadr (.t 3) 2),
           .op (some 37) (.load1 (.t 36)),
           .op (some 38) (.bin .neq (.t 35) (.t 37)),
           .op (some 33) (.mov (.t 38))])
        (.keep [2, 3, 33] (.cond (.t 33)
         (.seq (.ops [.op (some 39) (.fadr (.t 2) 2),
             .op (some 40) (.load1 (.t 39)),
             .op (some 41) (.fadr (.t 3) 2),
             .op (some 42) (.load1 (.t 41)),
             .op (some 43) (.bin .gtr (.t 40) (.t 42)),
             .call (some 44) 80 [.t 43],
             .op (some 45) (.bin .mul (.k (.int .i64 2)) (.t 44)),
             .op (some 46) (.bin .sub (.t 45) (.k (.int .i64 1))),
             .op (some 4) (.mov (.t 46))])
          (.keep [4] (.ret)))
         (.skip)))))))))))
  (.keep [] (.seq (.ops [.op (some 4) (.mov (.k (.int .i64 0)))])
  (.keep [4] (.ret))))))
theorem k_c_l01Compare_fits : fitsF Try.prog 104 ⟨47, k_c_l01Compare, [.t 4]⟩ = true := by kernel_rfl
theorem c_l01Compare {a b : GValue} : Con Try.prog noMv 104 [a.av, b.av] [] (fun r h => r = int (cmpV a b) ∧ h = []) := by
  refine con_of2 k_c_l01Compare_fits rfl fun C hP hmv => ?_
  unfold k_c_l01Compare
  refine cx_seq ?_
  refine cx_ops ?_
  refine ax_e (e_box rfl rfl (by decide) rfl rfl rfl) ?_
  refine ax_e (e_box rfl rfl (by decide) rfl rfl rfl) ?_
  refine ax_q (q_mov rfl) ?_
  refine ax_nil ?_
  refine cx_keep rfl rfl ?_
  refine cx_seq ?_
  refine cx_block ?_
  refine cx_seq ?_
  refine cx_ops ?_
  first | refine ax_q (q_fadr_ptr rfl) ?_ | refine ax_q (q_fadr_rptr rfl) ?_ | refine ax_q (q_fadr_ip rfl) ?_
  first | refine ax_q (q_load1_ptr rfl rfl rfl) ?_ | refine ax_q (q_load1_ip rfl) ?_ | refine ax_q (q_load1_rptr rfl rfl rfl rfl) ?_ | refine ax_q (q_load1_rptr rfl rfl (by assumption) rfl) ?_ | refine ax_q (q_load1_rptr rfl rfl (mapAt (by first | assumption | omega)) rfl) ?_
  first | refine ax_q (q_fadr_ptr rfl) ?_ | refine ax_q (q_fadr_rptr rfl) ?_ | refine ax_q (q_fadr_ip rfl) ?_
  first | refine ax_q (q_load1_ptr rfl rfl rfl) ?_ | refine ax_q (q_load1_ip rfl) ?_ | refine ax_q (q_load1_rptr rfl rfl rfl rfl) ?_ | refine ax_q (q_load1_rptr rfl rfl (by assumption) rfl) ?_ | refine ax_q (q_load1_rptr rfl rfl (mapAt (by first | assumption | omega)) rfl) ?_
  refine ax_q (q_ibin rfl rfl rfl) ?_
  refine ax_q (q_mov rfl) ?_
  refine ax_nil ?_
  refine cx_keep rfl rfl ?_
  refine cx_cond rfl (fun h0 => ?_) (fun h0 => ?_)
  · have h0 := nT h0
    refine cx_seq ?_
    refine cx_ops ?_
    first | refine ax_q (q_fadr_ptr rfl) ?_ | refine ax_q (q_fadr_rptr rfl) ?_ | refine ax_q (q_fadr_ip rfl) ?_
    first | refine ax_q (q_load1_ptr rfl rfl rfl) ?_ | refine ax_q (q_load1_ip rfl) ?_ | refine ax_q (q_load1_rptr rfl rfl rfl rfl) ?_ | refine ax_q (q_load1_rptr rfl rfl (by assumption) rfl) ?_ | refine ax_q (q_load1_rptr rfl rfl (mapAt (by first | assumption | omega)) rfl) ?_
    first | refine ax_q (q_fadr_ptr rfl) ?_ | refine ax_q (q_fadr_rptr rfl) ?_ | refine ax_q (q_fadr_ip rfl) ?_
    first | refine ax_q (q_load1_ptr rfl rfl rfl) ?_ | refine ax_q (q_load1_ip rfl) ?_ | refine ax_q (q_load1_rptr rfl rfl rfl rfl) ?_ | refine ax_q (q_load1_rptr rfl rfl (by assumption) rfl) ?_ | refine ax_q (q_load1_rptr rfl rfl (mapAt (by first | assumption | omega)) rfl) ?_
    refine ax_q (q_ibin rfl rfl rfl) ?_
    first | refine ax_call rfl (vc_pure0 (c_l01Bit  ) hP rfl rfl ?_) | refine ax_call rfl (vc_lend0 (c_l01Bit  ) hP (by repeat (first | exact lal_id _ rfl | exact LAL.nil | refine LAL.cons ?_ ?_ | exact la_id _ rfl | exact LA.lend (lend_whole rfl (by first | (simp; done) | (rw [List.length_map]; rfl))) | refine LA.agg ?_ | refine LA.fn ?_ | refine LA.lend ?_ | exact Lend.d _ | exact Lend.zs _ | exact lend_whole rfl (by first | (simp; done) | (rw [List.length_map]; rfl)) | refine Lend.ptr rfl ?_ | refine Lend.fn ?_ | exact LendL.nil | refine LendL.cons ?_ ?_)) rfl rfl ?_)
    have hbb := @bitI_b (decide (b.Kind < a.Kind))
    refine ax_q (q_mul rfl rfl (by omega)) ?_
    refine ax_q (q_sub rfl rfl (by omega)) ?_
    refine ax_q (q_mov rfl) ?_
    refine ax_nil ?_
    refine cx_keep rfl rfl ?_
    refine cx_ret (ret0 rfl rfl ?_)
    exact ⟨by rw [show cmpV a b = cmpI a.Kind b.Kind from by unfold cmpV; rw [if_pos h0], cmpI_ne h0]; rfl, rfl⟩
  · have h0 := nF h0
    refine cx_seq ?_
    refine cx_ops ?_
    first | refine ax_q (q_fadr_ptr rfl) ?_ | refine ax_q (q_fadr_rptr rfl) ?_ | refine ax_q (q_fadr_ip rfl) ?_
    first | refine ax_q (q_load1_ptr rfl rfl rfl) ?_ | refine ax_q (q_load1_ip rfl) ?_ | refine ax_q (q_load1_rptr rfl rfl rfl rfl) ?_ | refine ax_q (q_load1_rptr rfl rfl (by assumption) rfl) ?_ | refine ax_q (q_load1_rptr rfl rfl (mapAt (by first | assumption | omega)) rfl) ?_
    first | refine ax_q (q_fadr_ptr rfl) ?_ | refine ax_q (q_fadr_rptr rfl) ?_ | refine ax_q (q_fadr_ip rfl) ?_
    first | refine ax_q (q_load1_ptr rfl rfl rfl) ?_ | refine ax_q (q_load1_ip rfl) ?_ | refine ax_q (q_load1_rptr rfl rfl rfl rfl) ?_ | refine ax_q (q_load1_rptr rfl rfl (by assumption) rfl) ?_ | refine ax_q (q_load1_rptr rfl rfl (mapAt (by first | assumption | omega)) rfl) ?_
    refine ax_q (q_ibin rfl rfl rfl) ?_
    refine ax_q (q_mov rfl) ?_
    refine ax_nil ?_
    refine cx_keep rfl rfl ?_
    refine cx_cond rfl (fun h1 => ?_) (fun h1 => ?_)
    · have h1 := nT h1
      refine cx_seq ?_
      refine cx_ops ?_
      first | refine ax_q (q_fadr_ptr rfl) ?_ | refine ax_q (q_fadr_rptr rfl) ?_ | refine ax_q (q_fadr_ip rfl) ?_
      first | refine ax_q (q_load1_ptr rfl rfl rfl) ?_ | refine ax_q (q_load1_ip rfl) ?_ | refine ax_q (q_load1_rptr rfl rfl rfl rfl) ?_ | refine ax_q (q_load1_rptr rfl rfl (by assumption) rfl) ?_ | refine ax_q (q_load1_rptr rfl rfl (mapAt (by first | assumption | omega)) rfl) ?_
      first | refine ax_q (q_fadr_ptr rfl) ?_ | refine ax_q (q_fadr_rptr rfl) ?_ | refine ax_q (q_fadr_ip rfl) ?_
      first | refine ax_q (q_load1_ptr rfl rfl rfl) ?_ | refine ax_q (q_load1_ip rfl) ?_ | refine ax_q (q_load1_rptr rfl rfl rfl rfl) ?_ | refine ax_q (q_load1_rptr rfl rfl (by assumption) rfl) ?_ | refine ax_q (q_load1_rptr rfl rfl (mapAt (by first | assumption | omega)) rfl) ?_
      refine ax_q (q_ibin rfl rfl rfl) ?_
      first | refine ax_call rfl (vc_pure0 (c_l01Bit  ) hP rfl rfl ?_) | refine ax_call rfl (vc_lend0 (c_l01Bit  ) hP (by repeat (first | exact lal_id _ rfl | exact LAL.nil | refine LAL.cons ?_ ?_ | exact la_id _ rfl | exact LA.lend (lend_whole rfl (by first | (simp; done) | (rw [List.length_map]; rfl))) | refine LA.agg ?_ | refine LA.fn ?_ | refine LA.lend ?_ | exact Lend.d _ | exact Lend.zs _ | exact lend_whole rfl (by first | (simp; done) | (rw [List.length_map]; rfl)) | refine Lend.ptr rfl ?_ | refine Lend.fn ?_ | exact LendL.nil | refine LendL.cons ?_ ?_)) rfl rfl ?_)
      have hbb := @bitI_b (decide (b.N < a.N))
      refine ax_q (q_mul rfl rfl (by omega)) ?_
      refine ax_q (q_sub rfl rfl (by omega)) ?_
      refine ax_q (q_mov rfl) ?_
      refine ax_nil ?_
      refine cx_keep rfl rfl ?_
      refine cx_ret (ret0 rfl rfl ?_)
      exact ⟨by rw [show cmpV a b = cmpI a.N b.N from by unfold cmpV; rw [if_neg (by omega), if_pos h1], cmpI_ne h1]; rfl, rfl⟩
    · have h1 := nF h1
      refine cx_seq ?_
      refine cx_ops ?_
      first | refine ax_q (q_fadr_ptr rfl) ?_ | refine ax_q (q_fadr_rptr rfl) ?_ | refine ax_q (q_fadr_ip rfl) ?_
      first | refine ax_q (q_load1_ptr rfl rfl rfl) ?_ | refine ax_q (q_load1_ip rfl) ?_ | refine ax_q (q_load1_rptr rfl rfl rfl rfl) ?_ | refine ax_q (q_load1_rptr rfl rfl (by assumption) rfl) ?_ | refine ax_q (q_load1_rptr rfl rfl (mapAt (by first | assumption | omega)) rfl) ?_
      first | refine ax_q (q_fadr_ptr rfl) ?_ | refine ax_q (q_fadr_rptr rfl) ?_ | refine ax_q (q_fadr_ip rfl) ?_
      first | refine ax_q (q_load1_ptr rfl rfl rfl) ?_ | refine ax_q (q_load1_ip rfl) ?_ | refine ax_q (q_load1_rptr rfl rfl rfl rfl) ?_ | refine ax_q (q_load1_rptr rfl rfl (by assumption) rfl) ?_ | refine ax_q (q_load1_rptr rfl rfl (mapAt (by first | assumption | omega)) rfl) ?_
      refine ax_q (q_sbin rfl rfl rfl) ?_
      refine ax_q (q_mov rfl) ?_
      refine ax_nil ?_
      refine cx_keep rfl rfl ?_
      refine cx_cond rfl (fun h2 => ?_) (fun h2 => ?_)
      · have h2 := nT h2
        refine cx_seq ?_
        refine cx_ops ?_
        first | refine ax_q (q_fadr_ptr rfl) ?_ | refine ax_q (q_fadr_rptr rfl) ?_ | refine ax_q (q_fadr_ip rfl) ?_
        first | refine ax_q (q_load1_ptr rfl rfl rfl) ?_ | refine ax_q (q_load1_ip rfl) ?_ | refine ax_q (q_load1_rptr rfl rfl rfl rfl) ?_ | refine ax_q (q_load1_rptr rfl rfl (by assumption) rfl) ?_ | refine ax_q (q_load1_rptr rfl rfl (mapAt (by first | assumption | omega)) rfl) ?_
        first | refine ax_q (q_fadr_ptr rfl) ?_ | refine ax_q (q_fadr_rptr rfl) ?_ | refine ax_q (q_fadr_ip rfl) ?_
        first | refine ax_q (q_load1_ptr rfl rfl rfl) ?_ | refine ax_q (q_load1_ip rfl) ?_ | refine ax_q (q_load1_rptr rfl rfl rfl rfl) ?_ | refine ax_q (q_load1_rptr rfl rfl (by assumption) rfl) ?_ | refine ax_q (q_load1_rptr rfl rfl (mapAt (by first | assumption | omega)) rfl) ?_
        refine ax_q (q_sbin rfl rfl rfl) ?_
        first | refine ax_call rfl (vc_pure0 (c_l01Bit  ) hP rfl rfl ?_) | refine ax_call rfl (vc_lend0 (c_l01Bit  ) hP (by repeat (first | exact lal_id _ rfl | exact LAL.nil | refine LAL.cons ?_ ?_ | exact la_id _ rfl | exact LA.lend (lend_whole rfl (by first | (simp; done) | (rw [List.length_map]; rfl))) | refine LA.agg ?_ | refine LA.fn ?_ | refine LA.lend ?_ | exact Lend.d _ | exact Lend.zs _ | exact lend_whole rfl (by first | (simp; done) | (rw [List.length_map]; rfl)) | refine Lend.ptr rfl ?_ | refine Lend.fn ?_ | exact LendL.nil | refine LendL.cons ?_ ?_)) rfl rfl ?_)
        have hbb := @bitI_b (!(Op.bytesLess a.T b.T || decide (a.T = b.T)))
        refine ax_q (q_mul rfl rfl (by omega)) ?_
        refine ax_q (q_sub rfl rfl (by omega)) ?_
        refine ax_q (q_mov rfl) ?_
        refine ax_nil ?_
        refine cx_keep rfl rfl ?_
        refine cx_ret (ret0 rfl rfl ?_)
        exact ⟨by rw [show cmpV a b = cmpS a.T b.T from by unfold cmpV; rw [if_neg (by omega), if_neg (by omega)], cmpS_ne h2]; rfl, rfl⟩
      · have h2 := nF h2
        refine cx_skip ?_
        refine cx_keep rfl rfl ?_
        refine cx_seq ?_
        refine cx_ops ?_
        refine ax_q (q_mov rfl) ?_
        refine ax_nil ?_
        refine cx_keep rfl rfl ?_
        refine cx_ret (ret0 rfl rfl ?_)
        exact ⟨by rw [show cmpV a b = cmpS a.T b.T from by unfold cmpV; rw [if_neg (by omega), if_neg (by omega)], show cmpS a.T b.T = 0 from by unfold cmpS; rw [if_pos h2]]; rfl, rfl⟩


/- loop.example/g00332/spec.l10Bounded -/
def k_c_l10Bounded : XCode :=
  .seq (.ops [.op (some 2) (.alloc [.int .i64 0, .int .i64 0, .str []]),
     .op (some 3) (.mov (.k (.int .i64 0)))])
  (.keep [0, 2] (.seq (.seq (.ops [.op (some 4) (.mov (.t 0)),
      .call (some 5) 45 [.t 4, .k (.int .i64 (-1000000000)), .k (.int .i64 1000000000)],
      .op (some 6) (.not (.t 5))])
   (.keep [0, 2, 6] (.cond (.t 6)
    (.seq (.ops [.op (some 7) (.build [.int .i64 0, .int .i64 0, .str []] []),
        .op none (.store 3 (.t 2) (.t 7)),
        .op (some 3) (.mov (.k (.int .i64 12)))])
     (.keep [2, 3] (.ret)))
    (.skip))))
  (.keep [0, 2] (.seq (.ops [.op (some 8) (.mov (.t 0)),
     .call (some 9) 86 [.t 8],
     .op none (.store 3 (.t 2) (.t 9)),
     .op (some 3) (.mov (.k (.int .i64 0)))])
  (.keep [2, 3] (.ret))))))
theorem k_c_l10Bounded_fits : fitsF Try.prog 105 ⟨10, k_c_l10Bounded, [.cN 2 3, .t 3]⟩ = true := by kernel_rfl
theorem c_l10Bounded {n : Int} : Con Try.prog noMv 105 [int n] [] (fun r h => r = .tup [(bndF n).1.av, int (bndF n).2] ∧ h = []) := by
  refine con_of2 k_c_l10Bounded_fits rfl fun C hP hmv => ?_
  unfold k_c_l10Bounded
  refine cx_seq ?_
  refine cx_ops ?_
  refine ax_e (e_alloc (by decide) rfl rfl) ?_
  refine ax_q (q_mov rfl) ?_
  refine ax_nil ?_
  refine cx_keep rfl rfl ?_
  refine cx_seq ?_
  refine cx_seq ?_
  refine cx_ops ?_
  refine ax_q (q_mov rfl) ?_
  first | refine ax_call rfl (vc_pure0 (c_l01In  ) hP rfl rfl ?_) | refine ax_call rfl (vc_lend0 (c_l01In  ) hP (by repeat (first | exact lal_id _ rfl | exact LAL.nil | refine LAL.cons ?_ ?_ | exact la_id _ rfl | exact LA.lend (lend_whole rfl (by first | (simp; done) | (rw [List.length_map]; rfl))) | refine LA.agg ?_ | refine LA.fn ?_ | refine LA.lend ?_ | exact Lend.d _ | exact Lend.zs _ | exact lend_whole rfl (by first | (simp; done) | (rw [List.length_map]; rfl)) | refine Lend.ptr rfl ?_ | refine Lend.fn ?_ | exact LendL.nil | refine LendL.cons ?_ ?_)) rfl rfl ?_)
  refine ax_q (q_not rfl) ?_
  refine ax_nil ?_
  refine cx_keep rfl rfl ?_
  refine cx_cond rfl (fun h0 => ?_) (fun h0 => ?_)
  · have h0 := bT h0
    refine cx_seq ?_
    refine cx_ops ?_
    refine ax_q (q_build rfl) ?_
    refine ax_e (e_st rfl rfl rfl rfl rfl rfl rfl) ?_
    refine ax_q (q_mov rfl) ?_
    refine ax_nil ?_
    refine cx_keep rfl rfl ?_
    refine cx_ret (ret0 rfl rfl ?_)
    exact ⟨by rw [bnd_no h0]; rfl, rfl⟩
  · have h0 := bF h0
    refine cx_skip ?_
    refine cx_keep rfl rfl ?_
    refine cx_seq ?_
    refine cx_ops ?_
    refine ax_q (q_mov rfl) ?_
    first | refine ax_call rfl (vc_pure0 (c_sInt  ) hP rfl rfl ?_) | refine ax_call rfl (vc_lend0 (c_sInt  ) hP (by repeat (first | exact lal_id _ rfl | exact LAL.nil | refine LAL.cons ?_ ?_ | exact la_id _ rfl | exact LA.lend (lend_whole rfl (by first | (simp; done) | (rw [List.length_map]; rfl))) | refine LA.agg ?_ | refine LA.fn ?_ | refine LA.lend ?_ | exact Lend.d _ | exact Lend.zs _ | exact lend_whole rfl (by first | (simp; done) | (rw [List.length_map]; rfl)) | refine Lend.ptr rfl ?_ | refine Lend.fn ?_ | exact LendL.nil | refine LendL.cons ?_ ?_)) rfl rfl ?_)
    refine ax_e (e_st rfl rfl rfl rfl rfl rfl rfl) ?_
    refine ax_q (q_mov rfl) ?_
    refine ax_nil ?_
    refine cx_keep rfl rfl ?_
    refine cx_ret (ret0 rfl rfl ?_)
    exact ⟨by rw [bnd_yes h0]; rfl, rfl⟩


/- loop.example/g00332/spec.l10Binary -/
def k_c_sBinary : XCode :=
  .seq (.ops [.op (some 4) (.box (.t 1)),
     .op (some 5) (.box (.t 2)),
     .op (some 6) (.alloc [.int .i64 0, .int .i64 0, .str []]),
     .op (some 7) (.mov (.k (.int .i64 0)))])
  (.keep [0, 4, 5, 6] (.seq (.seq (.ops [.op (some 12) (.mov (.t 0)),
      .op (some 13) (.bin .eql (.t 12) (.k (.int .i64 12))),
      .op (some 14) (.mov (.t 13)),
      .andor 17 false 2 14 [.op (some 15) (.mov (.t 0)), .op (some 16) (.bin .eql (.t 15) (.k (.int .i64 13)))] (.t 16)])
   (.keep [0, 4, 5, 6, 17] (.cond (.t 17)
    (.seq (.seq (.ops [.op (some 18) (.fadr (.t 4) 0),
         .op (some 19) (.load1 (.t 18)),
         .op (some 20) (.bin .eql (.t 19) (.k (.int .i64 2))),
         .op (some 21) (.mov (.t 20)),
         .andor 25 false 3 21 [.op (some 22) (.fadr (.t 5) 0), .op (some 23) (.load1 (.t 22)), .op (some 24) (.bin .eql (.t 23) (.k (.int .i64 2)))] (.t 24)])
      (.keep [0, 4, 5, 6, 25] (.cond (.t 25)
       (.seq (.ops [.op (some 26) (.build [.int .i64 0, .int .i64 0, .str []] []),
           .op none (.store 3 (.t 6) (.t 26)),
           .op (some 7) (.mov (.k (.int .i64 10)))])
        (.keep [6, 7] (.ret)))
       (.skip))))
     (.keep [0, 4, 5, 6] (.seq (.ops [.op (some 27) (.fadr (.t 4) 0),
        .op (some 28) (.load1 (.t 27)),
        .op (some 29) (.bin .eql (.t 28) (.k (.int .i64 1))),
        .op (some 30) (.mov (.t 29)),
        .andor 34 true 3 30 [.op (some 31) (.fadr (.t 4) 1), .op (some 32) (.load1 (.t 31)), .op (some 33) (.bin .eql (.t 32) (.k (.int .i64 0)))] (.t 33),
        .op (some 35) (.mov (.t 34)),
        .andor 44 false 8 35 [.op (some 36) (.fadr (.t 5) 0), .op (some 37) (.load1 (.t 36)), .op (some 38) (.bin .eql (.t 37) (.k (.int .i64 1))), .op (some 39) (.mov (.t 38)), .andor 43 true 12 39 [.op (some 40) (.fadr (.t 5) 1), .op (some 41) (.load1 (.t 40)), .op (some 42) (.bin .eql (.t 41) (.k (.int .i64 0)))] (.t 42)] (.t 43),
        .op (some 8) (.mov (.t 44))])
     (.keep [0, 4, 5, 6, 8] (.seq (.ops [.op (some 45) (.fadr (.t 4) 0),
        .op (some 46) (.load1 (.t 45)),
        .op (some 47) (.bin .eql (.t 46) (.k (.int .i64 1))),
        .op (some 48) (.mov (.t 47)),
        .andor 52 true 3 48 [.op (some 49) (.fadr (.t 4) 1), .op (some 50) (.load1 (.t 49)), .op (some 51) (.bin .neq (.t 50) (.k (.int .i64 0)))] (.t 51),
        .op (some 53) (.mov (.t 52)),
        .andor 62 false 8 53 [.op (some 54) (.fadr (.t 5) 0), .op (some 55) (.load1 (.t 54)), .op (some 56) (.bin .eql (.t 55) (.k (.int .i64 1))), .op (some 57) (.mov (.t 56)), .andor 61 true 12 57 [.op (some 58) (.fadr (.t 5) 1), .op (some 59) (.load1 (.t 58)), .op (some 60) (.bin .neq (.t 59) (.k (.int .i64 0)))] (.t 60)] (.t 61),
        .op (some 9) (.mov (.t 62))])
     (.keep [0, 4, 5, 6, 8, 9] (.seq (.ops [.op (some 63) (.fadr (.t 4) 0),
        .op (some 64) (.load1 (.t 63)),
        .op (some 65) (.bin .eql (.t 64) (.k (.int .i64 0))),
        .op (some 66) (.mov (.t 65)),
        .andor 70 false 3 66 [.op (some 67) (.fadr (.t 5) 0), .op (some 68) (.load1 (.t 67)), .op (some 69) (.bin .eql (.t 68) (.k (.int .i64 0)))] (.t 69),
        .op (some 10) (.mov (.t 70))])
     (.keep [0, 6, 8, 9, 10] (.seq (.block 0 (.seq (.ops [.op (some 72) (.mov (.t 0)),
          .op (some 73) (.bin .eql (.t 72) (.k (.int .i64 12))),
          .op (some 74) (.mov (.t 73)),
          .andor 76 true 2 74 [.op (some 75) (.mov (.t 8))] (.t 75),
          .op (some 71) (.mov (.t 76))])
       (.keep [0, 6, 9, 10, 71] (.cond (.t 71)
        (.seq (.ops [.call (some 77) 86 [.k (.int .i64 0)],
            .op none (.store 3 (.t 6) (.t 77)),
            .op (some 7) (.mov (.k (.int .i64 0)))])
         (.keep [6, 7] (.ret)))
        (.seq (.ops [.op (some 79) (.mov (.t 0)),
            .op (some 80) (.bin .eql (.t 79) (.k (.int .i64 13))),
            .op (some 81) (.mov (.t 80)),
            .andor 83 true 2 81 [.op (some 82) (.mov (.t 9))] (.t 82),
            .op (some 78) (.mov (.t 83))])
         (.keep [0, 6, 10, 78] (.cond (.t 78)
          (.seq (.ops [.call (some 84) 86 [.k (.int .i64 1)],
              .op none (.store 3 (.t 6) (.t 84)),
              .op (some 7) (.mov (.k (.int .i64 0)))])
           (.keep [6, 7] (.ret)))
          (.seq (.ops [.op (some 86) (.mov (.t 10)),
              .op (some 85) (.mov (.t 86))])
           (.keep [0, 6, 85] (.cond (.t 85)
            (.seq (.ops [.op (some 87) (.build [.int .i64 0, .int .i64 0, .str []] []),
                .op none (.store 3 (.t 6) (.t 87)),
                .op (some 7) (.mov (.k (.int .i64 0)))])
             (.keep [6, 7] (.ret)))
            (.skip)))))))))))
     (.keep [0, 6] (.seq (.ops [.op (some 88) (.mov (.t 0)),
        .op (some 89) (.bin .eql (.t 88) (.k (.int .i64 12))),
        .call (some 90) 80 [.t 89],
        .call (some 91) 86 [.t 90],
        .op none (.store 3 (.t 6) (.t 91)),
        .op (some 7) (.mov (.k (.int .i64 0)))])
     (.keep [6, 7] (.ret)))))))))))))
    (.skip))))
  (.keep [0, 4, 5, 6] (.seq (.ops [.op (some 92) (.mov (.t 0)),
     .op (some 93) (.bin .eql (.t 92) (.k (.int .i64 10))),
     .op (some 94) (.mov (.t 93)),
     .andor 97 false 2 94 [.op (some 95) (.mov (.t 0)), .op (some 96) (.bin .eql (.t 95) (.k (.int .i64 11)))] (.t 96),
     .op (some 11) (.mov (.t 97))])
  (.keep [0, 4, 5, 6, 11] (.seq (.seq (.ops [.op (some 98) (.mov (.t 11)),
      .op (some 99) (.not (.t 98)),
      .op (some 100) (.mov (.t 99)),
      .andor 109 true 2 100 [.op (some 101) (.fadr (.t 4) 0), .op (some 102) (.load1 (.t 101)), .op (some 103) (.bin .eql (.t 102) (.k (.int .i64 2))), .op (some 104) (.mov (.t 103)), .andor 108 false 6 104 [.op (some 105) (.fadr (.t 5) 0), .op (some 106) (.load1 (.t 105)), .op (some 107) (.bin .eql (.t 106) (.k (.int .i64 2)))] (.t 107)] (.t 108)])
   (.keep [0, 4, 5, 6, 109] (.cond (.t 109)
    (.seq (.ops [.op (some 110) (.build [.int .i64 0, .int .i64 0, .str []] []),
        .op none (.store 3 (.t 6) (.t 110)),
        .op (some 7) (.mov (.k (.int .i64 10)))])
     (.keep [6, 7] (.ret)))
    (.skip))))
  (.keep [0, 4, 5, 6] (.seq (.seq (.ops [.op (some 111) (.fadr (.t 4) 0),
      .op (some 112) (.load1 (.t 111)),
      .op (some 113) (.bin .eql (.t 112) (.k (.int .i64 0))),
      .op (some 114) (.mov (.t 113)),
      .andor 118 false 3 114 [.op (some 115) (.fadr (.t 5) 0), .op (some 116) (.load1 (.t 115)), .op (some 117) (.bin .eql (.t 116) (.k (.int .i64 0)))] (.t 117)])
   (.keep [0, 4, 5, 6, 118] (.cond (.t 118)
    (.seq (.ops [.op (some 119) (.build [.int .i64 0, .int .i64 0, .str []] []),
        .op none (.store 3 (.t 6) (.t 119)),
        .op (some 7) (.mov (.k (.int .i64 0)))])
     (.keep [6, 7] (.ret)))
    (.skip))))
  (.keep [0, 4, 5, 6] (.seq (.seq (.ops [.op (some 120) (.fadr (.t 4) 0),
      .op (some 121) (.load1 (.t 120)),
      .op (some 122) (.fadr (.t 5) 0),
      .op (some 123) (.load1 (.t 122)),
      .op (some 124) (.bin .neq (.t 121) (.t 123))])
   (.keep [0, 4, 5, 6, 124] (.cond (.t 124)
    (.seq (.ops [.op (some 125) (.build [.int .i64 0, .int .i64 0, .str []] []),
        .op none (.store 3 (.t 6) (.t 125)),
        .op (some 7) (.mov (.k (.int .i64 10)))])
     (.keep [6, 7] (.ret)))
    (.skip))))
  (.keep [0, 4, 5, 6] (.seq (.seq (.ops [.op (some 126) (.mov (.t 0))])
   (.keep [4, 5, 6, 126] (.block 1 (.seq (.ops [.op (some 128) (.bin .eql (.t 126) (.k (.int .i64 10))),
       .op (some 127) (.mov (.t 128))])
    (.keep [4, 5, 6, 126, 127] (.cond (.t 127)
     (.seq (.ops [.op (some 129) (.loadN 3 (.t 4)),
         .op (some 130) (.loadN 3 (.t 5)),
         .op (some 131) (.eqs false [0, 0, 2] (.t 129) (.t 130)),
         .call (some 132) 80 [.t 131],
         .call (some 133) 86 [.t 132],
         .op none (.store 3 (.t 6) (.t 133)),
         .op (some 7) (.mov (.k (.int .i64 0)))])
      (.keep [6, 7] (.ret)))
     (.seq (.ops [.op (some 135) (.bin .eql (.t 126) (.k (.int .i64 11))),
         .op (some 134) (.mov (.t 135))])
      (.keep [4, 5, 6, 126, 134] (.cond (.t 134)
       (.seq (.ops [.op (some 136) (.loadN 3 (.t 4)),
           .op (some 137) (.loadN 3 (.t 5)),
           .call (some 138) 104 [.t 136, .t 137],
           .op (some 139) (.bin .lss (.t 138) (.k (.int .i64 0))),
           .call (some 140) 80 [.t 139],
           .call (some 141) 86 [.t 140],
           .op none (.store 3 (.t 6) (.t 141)),
           .op (some 7) (.mov (.k (.int .i64 0)))])
        (.keep [6, 7] (.ret)))
       (.seq (.ops [.op (some 143) (.bin .eql (.t 126) (.k (.int .i64 6))),
           .op (some 142) (.mov (.t 143))])
        (.keep [4, 5, 6, 126, 142] (.cond (.t 142)
         (.seq (.ops [.op (some 144) (.fadr (.t 4) 1),
             .op (some 145) (.load1 (.t 144)),
             .op (some 146) (.fadr (.t 5) 1),
             .op (some 147) (.load1 (.t 146)),
             .op (some 148) (.bin .add (.t 145) (.t 147)),
             .call (some 149) 105 [.t 148],
             .op (some 150) (.ext (.t 149) 0),
             .op (some 151) (.ext (.t 149) 1),
             .op none (.store 3 (.t 6) (.t 150)),
             .op (some 7) (.mov (.t 151))])
          (.keep [6, 7] (.ret)))
         (.seq (.ops [.op (some 153) (.bin .eql (.t 126) (.k (.int .i64 7))),
             .op (some 152) (.mov (.t 153))])
          (.keep [4, 5, 6, 126, 152] (.cond (.t 152)
           (.seq (.ops [.op (some 154) (.fadr (.t 4) 1),
               .op (some 155) (.load1 (.t 154)),
               .op (some 156) (.fadr (.t 5) 1),
               .op (some 157) (.load1 (.t 156)),
               .op (some 158) (.bin .sub (.t 155) (.t 157)),
               .call (some 159) 105 [.t 158],
               .op (some 160) (.ext (.t 159) 0),
               .op (some 161) (.ext (.t 159) 1),
               .op none (.store 3 (.t 6) (.t 160)),
               .op (some 7) (.mov (.t 161))])
            (.keep [6, 7] (.ret)))
           (.seq (.ops [.op (some 163) (.bin .eql (.t 126) (.k (.int .i64 8))),
               .op (some 162) (.mov (.t 163))])
            (.keep [4, 5, 6, 162] (.cond (.t 162)
             (.seq (.ops [.op (some 164) (.fadr (.t 4) 1),
                 .op (some 165) (.load1 (.t 164)),
                 .op (some 166) (.fadr (.t 5) 1),
                 .op (some 167) (.load1 (.t 166)),
                 .op (some 168) (.bin .mul (.t 165) (.t 167)),
                 .call (some 169) 105 [.t 168],
                 .op (some 170) (.ext (.t 169) 0),
                 .op (some 171) (.ext (.t 169) 1),
                 .op none (.store 3 (.t 6) (.t 170)),
                 .op (some 7) (.mov (.t 171))])
              (.keep [6, 7] (.ret)))
             (.skip)))))))))))))))))))
  (.keep [4, 5, 6] (.seq (.seq (.ops [.op (some 172) (.fadr (.t 5) 1),
      .op (some 173) (.load1 (.t 172)),
      .op (some 174) (.bin .eql (.t 173) (.k (.int .i64 0)))])
   (.keep [4, 5, 6, 174] (.cond (.t 174)
    (.seq (.ops [.op (some 175) (.build [.int .i64 0, .int .i64 0, .str []] []),
        .op none (.store 3 (.t 6) (.t 175)),
        .op (some 7) (.mov (.k (.int .i64 11)))])
     (.keep [6, 7] (.ret)))
    (.skip))))
  (.keep [4, 5, 6] (.seq (.ops [.op (some 176) (.fadr (.t 4) 1),
     .op (some 177) (.load1 (.t 176)),
     .op (some 178) (.fadr (.t 5) 1),
     .op (some 179) (.load1 (.t 178)),
     .op (some 180) (.bin .quo (.t 177) (.t 179)),
     .call (some 181) 105 [.t 180],
     .op (some 182) (.ext (.t 181) 0),
     .op (some 183) (.ext (.t 181) 1),
     .op none (.store 3 (.t 6) (.t 182)),
     .op (some 7) (.mov (.t 183))])
  (.keep [6, 7] (.ret))))))))))))))))))
theorem k_c_sBinary_fits : fitsF Try.prog 87 ⟨184, k_c_sBinary, [.cN 6 3, .t 7]⟩ = true := by kernel_rfl
set_option maxHeartbeats 4000000 in
theorem c_sBinary {op : Int} {a b : GValue} (ha : RV a) (hb : RV b) : Con Try.prog noMv 87 [int op, a.av, b.av] [] (fun r h => r = .tup [(binF op a b).1.av, int (binF op a b).2] ∧ h = []) := by
  refine con_of2 k_c_sBinary_fits rfl fun C hP hmv => ?_
  unfold k_c_sBinary
  have hn := ha.n; have hm := hb.n; have hmul := mulB hn hm; have hka := ha.k; have hkb := hb.k
  refine cx_seq ?_
  refine cx_ops ?_
  refine ax_e (e_box rfl rfl (by decide) rfl rfl rfl) ?_
  refine ax_e (e_box rfl rfl (by decide) rfl rfl rfl) ?_
  refine ax_e (e_alloc (by decide) rfl rfl) ?_
  refine ax_q (q_mov rfl) ?_
  refine ax_nil ?_
  refine cx_keep rfl rfl ?_
  refine cx_seq ?_
  refine cx_seq ?_
  refine cx_ops ?_
  refine ax_q (q_mov rfl) ?_
  refine ax_q (q_ibin rfl rfl rfl) ?_
  refine ax_q (q_mov rfl) ?_
  apply ax_or rfl rfl
  · intro g
    have g := dF g
    refine ax_q (q_mov rfl) ?_
    refine ax_q (q_ibin rfl rfl rfl) ?_
    exact ax_nil ⟨rfl, by repeat (first | exact trivial | refine ⟨rfl, ?_⟩ | refine ⟨?_, ?_⟩)⟩
  refine ax_nil ?_
  refine cx_keep rfl rfl ?_
  refine cx_cond rfl (fun h0 => ?_) (fun h0 => ?_)
  · have h0 := (fun h => (or_T h).imp dT dT) h0
    refine cx_seq ?_
    refine cx_seq ?_
    refine cx_ops ?_
    first | refine ax_q (q_fadr_ptr rfl) ?_ | refine ax_q (q_fadr_rptr rfl) ?_ | refine ax_q (q_fadr_ip rfl) ?_
    first | refine ax_q (q_load1_ptr rfl rfl rfl) ?_ | refine ax_q (q_load1_ip rfl) ?_ | refine ax_q (q_load1_rptr rfl rfl rfl rfl) ?_ | refine ax_q (q_load1_rptr rfl rfl (by assumption) rfl) ?_ | refine ax_q (q_load1_rptr rfl rfl (mapAt (by first | assumption | omega)) rfl) ?_
    refine ax_q (q_ibin rfl rfl rfl) ?_
    refine ax_q (q_mov rfl) ?_
    apply ax_or rfl rfl
    · intro g
      have g := dF g
      first | refine ax_q (q_fadr_ptr rfl) ?_ | refine ax_q (q_fadr_rptr rfl) ?_ | refine ax_q (q_fadr_ip rfl) ?_
      first | refine ax_q (q_load1_ptr rfl rfl rfl) ?_ | refine ax_q (q_load1_ip rfl) ?_ | refine ax_q (q_load1_rptr rfl rfl rfl rfl) ?_ | refine ax_q (q_load1_rptr rfl rfl (by assumption) rfl) ?_ | refine ax_q (q_load1_rptr rfl rfl (mapAt (by first | assumption | omega)) rfl) ?_
      refine ax_q (q_ibin rfl rfl rfl) ?_
      exact ax_nil ⟨rfl, by repeat (first | exact trivial | refine ⟨rfl, ?_⟩ | refine ⟨?_, ?_⟩)⟩
    refine ax_nil ?_
    refine cx_keep rfl rfl ?_
    refine cx_cond rfl (fun h1 => ?_) (fun h1 => ?_)
    · have h1 := (fun h => (or_T h).imp dT dT) h1
      refine cx_seq ?_
      refine cx_ops ?_
      refine ax_q (q_build rfl) ?_
      refine ax_e (e_st rfl rfl rfl rfl rfl rfl rfl) ?_
      refine ax_q (q_mov rfl) ?_
      refine ax_nil ?_
      refine cx_keep rfl rfl ?_
      refine cx_ret (ret0 rfl rfl ?_)
      have e : binF op a b = (.zero, 10) := by unfold binF; rw [if_pos (by omega)]; unfold conF; rw [if_pos h1]
      exact ⟨by rw [e]; rfl, rfl⟩
    · have h1 := (fun h => And.intro (dF (or_F h).1) (dF (or_F h).2)) h1
      refine cx_skip ?_
      refine cx_keep rfl rfl ?_
      refine cx_seq ?_
      refine cx_ops ?_
      first | refine ax_q (q_fadr_ptr rfl) ?_ | refine ax_q (q_fadr_rptr rfl) ?_ | refine ax_q (q_fadr_ip rfl) ?_
      first | refine ax_q (q_load1_ptr rfl rfl rfl) ?_ | refine ax_q (q_load1_ip rfl) ?_ | refine ax_q (q_load1_rptr rfl rfl rfl rfl) ?_ | refine ax_q (q_load1_rptr rfl rfl (by assumption) rfl) ?_ | refine ax_q (q_load1_rptr rfl rfl (mapAt (by first | assumption | omega)) rfl) ?_
      refine ax_q (q_ibin rfl rfl rfl) ?_
      refine ax_q (q_mov rfl) ?_
      apply ax_and rfl rfl
      · intro g
        have g := dT g
        first | refine ax_q (q_fadr_ptr rfl) ?_ | refine ax_q (q_fadr_rptr rfl) ?_ | refine ax_q (q_fadr_ip rfl) ?_
        first | refine ax_q (q_load1_ptr rfl rfl rfl) ?_ | refine ax_q (q_load1_ip rfl) ?_ | refine ax_q (q_load1_rptr rfl rfl rfl rfl) ?_ | refine ax_q (q_load1_rptr rfl rfl (by assumption) rfl) ?_ | refine ax_q (q_load1_rptr rfl rfl (mapAt (by first | assumption | omega)) rfl) ?_
        refine ax_q (q_ibin rfl rfl rfl) ?_
        exact ax_nil ⟨rfl, by repeat (first | exact trivial | refine ⟨rfl, ?_⟩ | refine ⟨?_, ?_⟩)⟩
      refine ax_q (q_mov rfl) ?_
      apply ax_or rfl rfl
      · intro g
        have g := (fun h => (and_F h).imp dF dF) g
        first | refine ax_q (q_fadr_ptr rfl) ?_ | refine ax_q (q_fadr_rptr rfl) ?_ | refine ax_q (q_fadr_ip rfl) ?_
        first | refine ax_q (q_load1_ptr rfl rfl rfl) ?_ | refine ax_q (q_load1_ip rfl) ?_ | refine ax_q (q_load1_rptr rfl rfl rfl rfl) ?_ | refine ax_q (q_load1_rptr rfl rfl (by assumption) rfl) ?_ | refine ax_q (q_load1_rptr rfl rfl (mapAt (by first | assumption | omega)) rfl) ?_
        refine ax_q (q_ibin rfl rfl rfl) ?_
        refine ax_q (q_mov rfl) ?_
        apply ax_and rfl rfl
        · intro g
          have g := dT g
          first | refine ax_q (q_fadr_ptr rfl) ?_ | refine ax_q (q_fadr_rptr rfl) ?_ | refine ax_q (q_fadr_ip rfl) ?_
          first | refine ax_q (q_load1_ptr rfl rfl rfl) ?_ | refine ax_q (q_load1_ip rfl) ?_ | refine ax_q (q_load1_rptr rfl rfl rfl rfl) ?_ | refine ax_q (q_load1_rptr rfl rfl (by assumption) rfl) ?_ | refine ax_q (q_load1_rptr rfl rfl (mapAt (by first | assumption | omega)) rfl) ?_
          refine ax_q (q_ibin rfl rfl rfl) ?_
          exact ax_nil ⟨rfl, by repeat (first | exact trivial | refine ⟨rfl, ?_⟩ | refine ⟨?_, ?_⟩)⟩
        exact ax_nil ⟨rfl, by repeat (first | exact trivial | refine ⟨rfl, ?_⟩ | refine ⟨?_, ?_⟩)⟩
      refine ax_q (q_mov rfl) ?_
      refine ax_nil ?_
      refine cx_keep rfl rfl ?_
      refine cx_seq ?_
      refine cx_ops ?_
      first | refine ax_q (q_fadr_ptr rfl) ?_ | refine ax_q (q_fadr_rptr rfl) ?_ | refine ax_q (q_fadr_ip rfl) ?_
      first | refine ax_q (q_load1_ptr rfl rfl rfl) ?_ | refine ax_q (q_load1_ip rfl) ?_ | refine ax_q (q_load1_rptr rfl rfl rfl rfl) ?_ | refine ax_q (q_load1_rptr rfl rfl (by assumption) rfl) ?_ | refine ax_q (q_load1_rptr rfl rfl (mapAt (by first | assumption | omega)) rfl) ?_
      refine ax_q (q_ibin rfl rfl rfl) ?_
      refine ax_q (q_mov rfl) ?_
      apply ax_and rfl rfl
      · intro g
        have g := dT g
        first | refine ax_q (q_fadr_ptr rfl) ?_ | refine ax_q (q_fadr_rptr rfl) ?_ | refine ax_q (q_fadr_ip rfl) ?_
        first | refine ax_q (q_load1_ptr rfl rfl rfl) ?_ | refine ax_q (q_load1_ip rfl) ?_ | refine ax_q (q_load1_rptr rfl rfl rfl rfl) ?_ | refine ax_q (q_load1_rptr rfl rfl (by assumption) rfl) ?_ | refine ax_q (q_load1_rptr rfl rfl (mapAt (by first | assumption | omega)) rfl) ?_
        refine ax_q (q_ibin rfl rfl rfl) ?_
        exact ax_nil ⟨rfl, by repeat (first | exact trivial | refine ⟨rfl, ?_⟩ | refine ⟨?_, ?_⟩)⟩
      refine ax_q (q_mov rfl) ?_
      apply ax_or rfl rfl
      · intro g
        have g := (fun h => (and_F h).imp dF nF) g
        first | refine ax_q (q_fadr_ptr rfl) ?_ | refine ax_q (q_fadr_rptr rfl) ?_ | refine ax_q (q_fadr_ip rfl) ?_
        first | refine ax_q (q_load1_ptr rfl rfl rfl) ?_ | refine ax_q (q_load1_ip rfl) ?_ | refine ax_q (q_load1_rptr rfl rfl rfl rfl) ?_ | refine ax_q (q_load1_rptr rfl rfl (by assumption) rfl) ?_ | refine ax_q (q_load1_rptr rfl rfl (mapAt (by first | assumption | omega)) rfl) ?_
        refine ax_q (q_ibin rfl rfl rfl) ?_
        refine ax_q (q_mov rfl) ?_
        apply ax_and rfl rfl
        · intro g
          have g := dT g
          first | refine ax_q (q_fadr_ptr rfl) ?_ | refine ax_q (q_fadr_rptr rfl) ?_ | refine ax_q (q_fadr_ip rfl) ?_
          first | refine ax_q (q_load1_ptr rfl rfl rfl) ?_ | refine ax_q (q_load1_ip rfl) ?_ | refine ax_q (q_load1_rptr rfl rfl rfl rfl) ?_ | refine ax_q (q_load1_rptr rfl rfl (by assumption) rfl) ?_ | refine ax_q (q_load1_rptr rfl rfl (mapAt (by first | assumption | omega)) rfl) ?_
          refine ax_q (q_ibin rfl rfl rfl) ?_
          exact ax_nil ⟨rfl, by repeat (first | exact trivial | refine ⟨rfl, ?_⟩ | refine ⟨?_, ?_⟩)⟩
        exact ax_nil ⟨rfl, by repeat (first | exact trivial | refine ⟨rfl, ?_⟩ | refine ⟨?_, ?_⟩)⟩
      refine ax_q (q_mov rfl) ?_
      refine ax_nil ?_
      refine cx_keep rfl rfl ?_
      refine cx_seq ?_
      refine cx_ops ?_
      first | refine ax_q (q_fadr_ptr rfl) ?_ | refine ax_q (q_fadr_rptr rfl) ?_ | refine ax_q (q_fadr_ip rfl) ?_
      first | refine ax_q (q_load1_ptr rfl rfl rfl) ?_ | refine ax_q (q_load1_ip rfl) ?_ | refine ax_q (q_load1_rptr rfl rfl rfl rfl) ?_ | refine ax_q (q_load1_rptr rfl rfl (by assumption) rfl) ?_ | refine ax_q (q_load1_rptr rfl rfl (mapAt (by first | assumption | omega)) rfl) ?_
      refine ax_q (q_ibin rfl rfl rfl) ?_
      refine ax_q (q_mov rfl) ?_
      apply ax_or rfl rfl
      · intro g
        have g := dF g
        first | refine ax_q (q_fadr_ptr rfl) ?_ | refine ax_q (q_fadr_rptr rfl) ?_ | refine ax_q (q_fadr_ip rfl) ?_
        first | refine ax_q (q_load1_ptr rfl rfl rfl) ?_ | refine ax_q (q_load1_ip rfl) ?_ | refine ax_q (q_load1_rptr rfl rfl rfl rfl) ?_ | refine ax_q (q_load1_rptr rfl rfl (by assumption) rfl) ?_ | refine ax_q (q_load1_rptr rfl rfl (mapAt (by first | assumption | omega)) rfl) ?_
        refine ax_q (q_ibin rfl rfl rfl) ?_
        exact ax_nil ⟨rfl, by repeat (first | exact trivial | refine ⟨rfl, ?_⟩ | refine ⟨?_, ?_⟩)⟩
      refine ax_q (q_mov rfl) ?_
      refine ax_nil ?_
      refine cx_keep rfl rfl ?_
      refine cx_seq ?_
      refine cx_block ?_
      refine cx_seq ?_
      refine cx_ops ?_
      refine ax_q (q_mov rfl) ?_
      refine ax_q (q_ibin rfl rfl rfl) ?_
      refine ax_q (q_mov rfl) ?_
      apply ax_and rfl rfl
      · intro g
        have g := dT g
        refine ax_q (q_mov rfl) ?_
        exact ax_nil ⟨rfl, by repeat (first | exact trivial | refine ⟨rfl, ?_⟩ | refine ⟨?_, ?_⟩)⟩
      refine ax_q (q_mov rfl) ?_
      refine ax_nil ?_
      refine cx_keep rfl rfl ?_
      refine cx_cond rfl (fun h2 => ?_) (fun h2 => ?_)
      · have h2 := (fun h => And.intro (dT (and_T h).1) ((fun h => (or_T h).imp (fun h => And.intro (dT (and_T h).1) (dT (and_T h).2)) (fun h => And.intro (dT (and_T h).1) (dT (and_T h).2))) (and_T h).2)) h2
        refine cx_seq ?_
        refine cx_ops ?_
        first | refine ax_call rfl (vc_pure0 (c_sInt  ) hP rfl rfl ?_) | refine ax_call rfl (vc_lend0 (c_sInt  ) hP (by repeat (first | exact lal_id _ rfl | exact LAL.nil | refine LAL.cons ?_ ?_ | exact la_id _ rfl | exact LA.lend (lend_whole rfl (by first | (simp; done) | (rw [List.length_map]; rfl))) | refine LA.agg ?_ | refine LA.fn ?_ | refine LA.lend ?_ | exact Lend.d _ | exact Lend.zs _ | exact lend_whole rfl (by first | (simp; done) | (rw [List.length_map]; rfl)) | refine Lend.ptr rfl ?_ | refine Lend.fn ?_ | exact LendL.nil | refine LendL.cons ?_ ?_)) rfl rfl ?_)
        refine ax_e (e_st rfl rfl rfl rfl rfl rfl rfl) ?_
        refine ax_q (q_mov rfl) ?_
        refine ax_nil ?_
        refine cx_keep rfl rfl ?_
        refine cx_ret (ret0 rfl rfl ?_)
        have e : binF op a b = (vI 0, 0) := by unfold binF; rw [if_pos (by omega)]; unfold conF; rw [if_neg (by omega), if_pos (by simp only [isZ_iff, isO_iff]; omega)]
        exact ⟨by rw [e]; rfl, rfl⟩
      · have h2 := (fun h => (and_F h).imp dF (fun h => And.intro ((fun h => (and_F h).imp dF dF) (or_F h).1) ((fun h => (and_F h).imp dF dF) (or_F h).2))) h2
        refine cx_seq ?_
        refine cx_ops ?_
        refine ax_q (q_mov rfl) ?_
        refine ax_q (q_ibin rfl rfl rfl) ?_
        refine ax_q (q_mov rfl) ?_
        apply ax_and rfl rfl
        · intro g
          have g := dT g
          refine ax_q (q_mov rfl) ?_
          exact ax_nil ⟨rfl, by repeat (first | exact trivial | refine ⟨rfl, ?_⟩ | refine ⟨?_, ?_⟩)⟩
        refine ax_q (q_mov rfl) ?_
        refine ax_nil ?_
        refine cx_keep rfl rfl ?_
        refine cx_cond rfl (fun h3 => ?_) (fun h3 => ?_)
        · have h3 := (fun h => And.intro (dT (and_T h).1) ((fun h => (or_T h).imp (fun h => And.intro (dT (and_T h).1) (nT (and_T h).2)) (fun h => And.intro (dT (and_T h).1) (nT (and_T h).2))) (and_T h).2)) h3
          refine cx_seq ?_
          refine cx_ops ?_
          first | refine ax_call rfl (vc_pure0 (c_sInt  ) hP rfl rfl ?_) | refine ax_call rfl (vc_lend0 (c_sInt  ) hP (by repeat (first | exact lal_id _ rfl | exact LAL.nil | refine LAL.cons ?_ ?_ | exact la_id _ rfl | exact LA.lend (lend_whole rfl (by first | (simp; done) | (rw [List.length_map]; rfl))) | refine LA.agg ?_ | refine LA.fn ?_ | refine LA.lend ?_ | exact Lend.d _ | exact Lend.zs _ | exact lend_whole rfl (by first | (simp; done) | (rw [List.length_map]; rfl)) | refine Lend.ptr rfl ?_ | refine Lend.fn ?_ | exact LendL.nil | refine LendL.cons ?_ ?_)) rfl rfl ?_)
          refine ax_e (e_st rfl rfl rfl rfl rfl rfl rfl) ?_
          refine ax_q (q_mov rfl) ?_
          refine ax_nil ?_
          refine cx_keep rfl rfl ?_
          refine cx_ret (ret0 rfl rfl ?_)
          have e : binF op a b = (vI 1, 0) := by unfold binF; rw [if_pos (by omega)]; unfold conF; rw [if_neg (by omega), if_neg (by simp only [isZ_iff, isO_iff]; omega), if_pos (by simp only [isZ_iff, isO_iff]; omega)]
          exact ⟨by rw [e]; rfl, rfl⟩
        · have h3 := (fun h => (and_F h).imp dF (fun h => And.intro ((fun h => (and_F h).imp dF nF) (or_F h).1) ((fun h => (and_F h).imp dF nF) (or_F h).2))) h3
          refine cx_seq ?_
          refine cx_ops ?_
          refine ax_q (q_mov rfl) ?_
          refine ax_q (q_mov rfl) ?_
          refine ax_nil ?_
          refine cx_keep rfl rfl ?_
          refine cx_cond rfl (fun h4 => ?_) (fun h4 => ?_)
          · have h4 := (fun h => (or_T h).imp dT dT) h4
            refine cx_seq ?_
            refine cx_ops ?_
            refine ax_q (q_build rfl) ?_
            refine ax_e (e_st rfl rfl rfl rfl rfl rfl rfl) ?_
            refine ax_q (q_mov rfl) ?_
            refine ax_nil ?_
            refine cx_keep rfl rfl ?_
            refine cx_ret (ret0 rfl rfl ?_)
            have e : binF op a b = (.zero, 0) := by unfold binF; rw [if_pos (by omega)]; unfold conF; rw [if_neg (by omega), if_neg (by simp only [isZ_iff, isO_iff]; omega), if_neg (by simp only [isZ_iff, isO_iff]; omega), if_pos (by omega)]
            exact ⟨by rw [e]; rfl, rfl⟩
          · have h4 := (fun h => And.intro (dF (or_F h).1) (dF (or_F h).2)) h4
            refine cx_skip ?_
            refine cx_keep rfl rfl ?_
            refine cx_seq ?_
            refine cx_ops ?_
            refine ax_q (q_mov rfl) ?_
            refine ax_q (q_ibin rfl rfl rfl) ?_
            first | refine ax_call rfl (vc_pure0 (c_l01Bit  ) hP rfl rfl ?_) | refine ax_call rfl (vc_lend0 (c_l01Bit  ) hP (by repeat (first | exact lal_id _ rfl | exact LAL.nil | refine LAL.cons ?_ ?_ | exact la_id _ rfl | exact LA.lend (lend_whole rfl (by first | (simp; done) | (rw [List.length_map]; rfl))) | refine LA.agg ?_ | refine LA.fn ?_ | refine LA.lend ?_ | exact Lend.d _ | exact Lend.zs _ | exact lend_whole rfl (by first | (simp; done) | (rw [List.length_map]; rfl)) | refine Lend.ptr rfl ?_ | refine Lend.fn ?_ | exact LendL.nil | refine LendL.cons ?_ ?_)) rfl rfl ?_)
            first | refine ax_call rfl (vc_pure0 (c_sInt  ) hP rfl rfl ?_) | refine ax_call rfl (vc_lend0 (c_sInt  ) hP (by repeat (first | exact lal_id _ rfl | exact LAL.nil | refine LAL.cons ?_ ?_ | exact la_id _ rfl | exact LA.lend (lend_whole rfl (by first | (simp; done) | (rw [List.length_map]; rfl))) | refine LA.agg ?_ | refine LA.fn ?_ | refine LA.lend ?_ | exact Lend.d _ | exact Lend.zs _ | exact lend_whole rfl (by first | (simp; done) | (rw [List.length_map]; rfl)) | refine Lend.ptr rfl ?_ | refine Lend.fn ?_ | exact LendL.nil | refine LendL.cons ?_ ?_)) rfl rfl ?_)
            refine ax_e (e_st rfl rfl rfl rfl rfl rfl rfl) ?_
            refine ax_q (q_mov rfl) ?_
            refine ax_nil ?_
            refine cx_keep rfl rfl ?_
            refine cx_ret (ret0 rfl rfl ?_)
            have e : binF op a b = (vB (decide (op = 12)), 0) := by unfold binF; rw [if_pos (by omega)]; unfold conF; rw [if_neg (by omega), if_neg (by simp only [isZ_iff, isO_iff]; omega), if_neg (by simp only [isZ_iff, isO_iff]; omega), if_neg (by omega)]
            exact ⟨by rw [e]; rfl, rfl⟩
  · have h0 := (fun h => And.intro (dF (or_F h).1) (dF (or_F h).2)) h0
    refine cx_skip ?_
    refine cx_keep rfl rfl ?_
    refine cx_seq ?_
    refine cx_ops ?_
    refine ax_q (q_mov rfl) ?_
    refine ax_q (q_ibin rfl rfl rfl) ?_
    refine ax_q (q_mov rfl) ?_
    apply ax_or rfl rfl
    · intro g
      have g := dF g
      refine ax_q (q_mov rfl) ?_
      refine ax_q (q_ibin rfl rfl rfl) ?_
      exact ax_nil ⟨rfl, by repeat (first | exact trivial | refine ⟨rfl, ?_⟩ | refine ⟨?_, ?_⟩)⟩
    refine ax_q (q_mov rfl) ?_
    refine ax_nil ?_
    refine cx_keep rfl rfl ?_
    refine cx_seq ?_
    refine cx_seq ?_
    refine cx_ops ?_
    refine ax_q (q_mov rfl) ?_
    refine ax_q (q_not rfl) ?_
    refine ax_q (q_mov rfl) ?_
    apply ax_and rfl rfl
    · intro g
      have g := (fun h => (fun h => And.intro (dF (or_F h).1) (dF (or_F h).2)) (bT h)) g
      first | refine ax_q (q_fadr_ptr rfl) ?_ | refine ax_q (q_fadr_rptr rfl) ?_ | refine ax_q (q_fadr_ip rfl) ?_
      first | refine ax_q (q_load1_ptr rfl rfl rfl) ?_ | refine ax_q (q_load1_ip rfl) ?_ | refine ax_q (q_load1_rptr rfl rfl rfl rfl) ?_ | refine ax_q (q_load1_rptr rfl rfl (by assumption) rfl) ?_ | refine ax_q (q_load1_rptr rfl rfl (mapAt (by first | assumption | omega)) rfl) ?_
      refine ax_q (q_ibin rfl rfl rfl) ?_
      refine ax_q (q_mov rfl) ?_
      apply ax_or rfl rfl
      · intro g
        have g := dF g
        first | refine ax_q (q_fadr_ptr rfl) ?_ | refine ax_q (q_fadr_rptr rfl) ?_ | refine ax_q (q_fadr_ip rfl) ?_
        first | refine ax_q (q_load1_ptr rfl rfl rfl) ?_ | refine ax_q (q_load1_ip rfl) ?_ | refine ax_q (q_load1_rptr rfl rfl rfl rfl) ?_ | refine ax_q (q_load1_rptr rfl rfl (by assumption) rfl) ?_ | refine ax_q (q_load1_rptr rfl rfl (mapAt (by first | assumption | omega)) rfl) ?_
        refine ax_q (q_ibin rfl rfl rfl) ?_
        exact ax_nil ⟨rfl, by repeat (first | exact trivial | refine ⟨rfl, ?_⟩ | refine ⟨?_, ?_⟩)⟩
      exact ax_nil ⟨rfl, by repeat (first | exact trivial | refine ⟨rfl, ?_⟩ | refine ⟨?_, ?_⟩)⟩
    refine ax_nil ?_
    refine cx_keep rfl rfl ?_
    refine cx_cond rfl (fun h5 => ?_) (fun h5 => ?_)
    · have h5 := (fun h => And.intro ((fun h => (fun h => And.intro (dF (or_F h).1) (dF (or_F h).2)) (bT h)) (and_T h).1) ((fun h => (or_T h).imp dT dT) (and_T h).2)) h5
      refine cx_seq ?_
      refine cx_ops ?_
      refine ax_q (q_build rfl) ?_
      refine ax_e (e_st rfl rfl rfl rfl rfl rfl rfl) ?_
      refine ax_q (q_mov rfl) ?_
      refine ax_nil ?_
      refine cx_keep rfl rfl ?_
      refine cx_ret (ret0 rfl rfl ?_)
      have e : binF op a b = (.zero, 10) := by unfold binF; rw [if_neg (by omega), if_pos (by omega)]
      exact ⟨by rw [e]; rfl, rfl⟩
    · have h5 := (fun h => (and_F h).imp (fun h => (fun h => (or_T h).imp dT dT) (bF h)) (fun h => And.intro (dF (or_F h).1) (dF (or_F h).2))) h5
      refine cx_skip ?_
      refine cx_keep rfl rfl ?_
      refine cx_seq ?_
      refine cx_seq ?_
      refine cx_ops ?_
      first | refine ax_q (q_fadr_ptr rfl) ?_ | refine ax_q (q_fadr_rptr rfl) ?_ | refine ax_q (q_fadr_ip rfl) ?_
      first | refine ax_q (q_load1_ptr rfl rfl rfl) ?_ | refine ax_q (q_load1_ip rfl) ?_ | refine ax_q (q_load1_rptr rfl rfl rfl rfl) ?_ | refine ax_q (q_load1_rptr rfl rfl (by assumption) rfl) ?_ | refine ax_q (q_load1_rptr rfl rfl (mapAt (by first | assumption | omega)) rfl) ?_
      refine ax_q (q_ibin rfl rfl rfl) ?_
      refine ax_q (q_mov rfl) ?_
      apply ax_or rfl rfl
      · intro g
        have g := dF g
        first | refine ax_q (q_fadr_ptr rfl) ?_ | refine ax_q (q_fadr_rptr rfl) ?_ | refine ax_q (q_fadr_ip rfl) ?_
        first | refine ax_q (q_load1_ptr rfl rfl rfl) ?_ | refine ax_q (q_load1_ip rfl) ?_ | refine ax_q (q_load1_rptr rfl rfl rfl rfl) ?_ | refine ax_q (q_load1_rptr rfl rfl (by assumption) rfl) ?_ | refine ax_q (q_load1_rptr rfl rfl (mapAt (by first | assumption | omega)) rfl) ?_
        refine ax_q (q_ibin rfl rfl rfl) ?_
        exact ax_nil ⟨rfl, by repeat (first | exact trivial | refine ⟨rfl, ?_⟩ | refine ⟨?_, ?_⟩)⟩
      refine ax_nil ?_
      refine cx_keep rfl rfl ?_
      refine cx_cond rfl (fun h6 => ?_) (fun h6 => ?_)
      · have h6 := (fun h => (or_T h).imp dT dT) h6
        refine cx_seq ?_
        refine cx_ops ?_
        refine ax_q (q_build rfl) ?_
        refine ax_e (e_st rfl rfl rfl rfl rfl rfl rfl) ?_
        refine ax_q (q_mov rfl) ?_
        refine ax_nil ?_
        refine cx_keep rfl rfl ?_
        refine cx_ret (ret0 rfl rfl ?_)
        have e : binF op a b = (.zero, 0) := by unfold binF; rw [if_neg (by omega), if_neg (by omega), if_pos (by omega)]
        exact ⟨by rw [e]; rfl, rfl⟩
      · have h6 := (fun h => And.intro (dF (or_F h).1) (dF (or_F h).2)) h6
        refine cx_skip ?_
        refine cx_keep rfl rfl ?_
        refine cx_seq ?_
        refine cx_seq ?_
        refine cx_ops ?_
        first | refine ax_q (q_fadr_ptr rfl) ?_ | refine ax_q (q_fadr_rptr rfl) ?_ | refine ax_q (q_fadr_ip rfl) ?_
        first | refine ax_q (q_load1_ptr rfl rfl rfl) ?_ | refine ax_q (q_load1_ip rfl) ?_ | refine ax_q (q_load1_rptr rfl rfl rfl rfl) ?_ | refine ax_q (q_load1_rptr rfl rfl (by assumption) rfl) ?_ | refine ax_q (q_load1_rptr rfl rfl (mapAt (by first | assumption | omega)) rfl) ?_
        first | refine ax_q (q_fadr_ptr rfl) ?_ | refine ax_q (q_fadr_rptr rfl) ?_ | refine ax_q (q_fadr_ip rfl) ?_
        first | refine ax_q (q_load1_ptr rfl rfl rfl) ?_ | refine ax_q (q_load1_ip rfl) ?_ | refine ax_q (q_load1_rptr rfl rfl rfl rfl) ?_ | refine ax_q (q_load1_rptr rfl rfl (by assumption) rfl) ?_ | refine ax_q (q_load1_rptr rfl rfl (mapAt (by first | assumption | omega)) rfl) ?_
        refine ax_q (q_ibin rfl rfl rfl) ?_
        refine ax_nil ?_
        refine cx_keep rfl rfl ?_
        refine cx_cond rfl (fun h7 => ?_) (fun h7 => ?_)
        · have h7 := nT h7
          refine cx_seq ?_
          refine cx_ops ?_
          refine ax_q (q_build rfl) ?_
          refine ax_e (e_st rfl rfl rfl rfl rfl rfl rfl) ?_
          refine ax_q (q_mov rfl) ?_
          refine ax_nil ?_
          refine cx_keep rfl rfl ?_
          refine cx_ret (ret0 rfl rfl ?_)
          have e : binF op a b = (.zero, 10) := by unfold binF; rw [if_neg (by omega), if_neg (by omega), if_neg (by omega), if_pos (by omega)]
          exact ⟨by rw [e]; rfl, rfl⟩
        · have h7 := nF h7
          refine cx_skip ?_
          refine cx_keep rfl rfl ?_
          refine cx_seq ?_
          refine cx_seq ?_
          refine cx_ops ?_
          refine ax_q (q_mov rfl) ?_
          refine ax_nil ?_
          refine cx_keep rfl rfl ?_
          refine cx_block ?_
          refine cx_seq ?_
          refine cx_ops ?_
          refine ax_q (q_ibin rfl rfl rfl) ?_
          refine ax_q (q_mov rfl) ?_
          refine ax_nil ?_
          refine cx_keep rfl rfl ?_
          refine cx_cond rfl (fun h8 => ?_) (fun h8 => ?_)
          · have h8 := dT h8
            refine cx_seq ?_
            refine cx_ops ?_
            first | refine ax_q (q_ldN rfl rfl rfl) ?_ | refine ax_q (q_loadN_ip rfl (Nat.le_refl _)) ?_ | refine ax_q (q_loadN_ip rfl (by decide)) ?_ | refine ax_q (q_loadN_rptr rfl rfl (by assumption) (by decide)) ?_ | refine ax_q (q_loadN_rptr rfl rfl (mapAt (by first | assumption | omega)) (by decide)) ?_
            first | refine ax_q (q_ldN rfl rfl rfl) ?_ | refine ax_q (q_loadN_ip rfl (Nat.le_refl _)) ?_ | refine ax_q (q_loadN_ip rfl (by decide)) ?_ | refine ax_q (q_loadN_rptr rfl rfl (by assumption) (by decide)) ?_ | refine ax_q (q_loadN_rptr rfl rfl (mapAt (by first | assumption | omega)) (by decide)) ?_
            refine ax_qe (r' := bool (eqV a b)) (q_eqs rfl rfl rfl) (rfl) ?_
            first | refine ax_call rfl (vc_pure0 (c_l01Bit  ) hP rfl rfl ?_) | refine ax_call rfl (vc_lend0 (c_l01Bit  ) hP (by repeat (first | exact lal_id _ rfl | exact LAL.nil | refine LAL.cons ?_ ?_ | exact la_id _ rfl | exact LA.lend (lend_whole rfl (by first | (simp; done) | (rw [List.length_map]; rfl))) | refine LA.agg ?_ | refine LA.fn ?_ | refine LA.lend ?_ | exact Lend.d _ | exact Lend.zs _ | exact lend_whole rfl (by first | (simp; done) | (rw [List.length_map]; rfl)) | refine Lend.ptr rfl ?_ | refine Lend.fn ?_ | exact LendL.nil | refine LendL.cons ?_ ?_)) rfl rfl ?_)
            first | refine ax_call rfl (vc_pure0 (c_sInt  ) hP rfl rfl ?_) | refine ax_call rfl (vc_lend0 (c_sInt  ) hP (by repeat (first | exact lal_id _ rfl | exact LAL.nil | refine LAL.cons ?_ ?_ | exact la_id _ rfl | exact LA.lend (lend_whole rfl (by first | (simp; done) | (rw [List.length_map]; rfl))) | refine LA.agg ?_ | refine LA.fn ?_ | refine LA.lend ?_ | exact Lend.d _ | exact Lend.zs _ | exact lend_whole rfl (by first | (simp; done) | (rw [List.length_map]; rfl)) | refine Lend.ptr rfl ?_ | refine Lend.fn ?_ | exact LendL.nil | refine LendL.cons ?_ ?_)) rfl rfl ?_)
            refine ax_e (e_st rfl rfl rfl rfl rfl rfl rfl) ?_
            refine ax_q (q_mov rfl) ?_
            refine ax_nil ?_
            refine cx_keep rfl rfl ?_
            refine cx_ret (ret0 rfl rfl ?_)
            have e : binF op a b = (vB (eqV a b), 0) := by unfold binF; rw [if_neg (by omega), if_neg (by omega), if_neg (by omega), if_neg (by omega), if_pos (by omega)]
            exact ⟨by rw [e]; rfl, rfl⟩
          · have h8 := dF h8
            refine cx_seq ?_
            refine cx_ops ?_
            refine ax_q (q_ibin rfl rfl rfl) ?_
            refine ax_q (q_mov rfl) ?_
            refine ax_nil ?_
            refine cx_keep rfl rfl ?_
            refine cx_cond rfl (fun h9 => ?_) (fun h9 => ?_)
            · have h9 := dT h9
              refine cx_seq ?_
              refine cx_ops ?_
              first | refine ax_q (q_ldN rfl rfl rfl) ?_ | refine ax_q (q_loadN_ip rfl (Nat.le_refl _)) ?_ | refine ax_q (q_loadN_ip rfl (by decide)) ?_ | refine ax_q (q_loadN_rptr rfl rfl (by assumption) (by decide)) ?_ | refine ax_q (q_loadN_rptr rfl rfl (mapAt (by first | assumption | omega)) (by decide)) ?_
              first | refine ax_q (q_ldN rfl rfl rfl) ?_ | refine ax_q (q_loadN_ip rfl (Nat.le_refl _)) ?_ | refine ax_q (q_loadN_ip rfl (by decide)) ?_ | refine ax_q (q_loadN_rptr rfl rfl (by assumption) (by decide)) ?_ | refine ax_q (q_loadN_rptr rfl rfl (mapAt (by first | assumption | omega)) (by decide)) ?_
              first | refine ax_call rfl (vc_pure0 (c_l01Compare (a := a) (b := b) ) hP rfl rfl ?_) | refine ax_call rfl (vc_lend0 (c_l01Compare (a := a) (b := b) ) hP (by repeat (first | exact lal_id _ rfl | exact LAL.nil | refine LAL.cons ?_ ?_ | exact la_id _ rfl | exact LA.lend (lend_whole rfl (by first | (simp; done) | (rw [List.length_map]; rfl))) | refine LA.agg ?_ | refine LA.fn ?_ | refine LA.lend ?_ | exact Lend.d _ | exact Lend.zs _ | exact lend_whole rfl (by first | (simp; done) | (rw [List.length_map]; rfl)) | refine Lend.ptr rfl ?_ | refine Lend.fn ?_ | exact LendL.nil | refine LendL.cons ?_ ?_)) rfl rfl ?_)
              refine ax_q (q_ibin rfl rfl rfl) ?_
              first | refine ax_call rfl (vc_pure0 (c_l01Bit  ) hP rfl rfl ?_) | refine ax_call rfl (vc_lend0 (c_l01Bit  ) hP (by repeat (first | exact lal_id _ rfl | exact LAL.nil | refine LAL.cons ?_ ?_ | exact la_id _ rfl | exact LA.lend (lend_whole rfl (by first | (simp; done) | (rw [List.length_map]; rfl))) | refine LA.agg ?_ | refine LA.fn ?_ | refine LA.lend ?_ | exact Lend.d _ | exact Lend.zs _ | exact lend_whole rfl (by first | (simp; done) | (rw [List.length_map]; rfl)) | refine Lend.ptr rfl ?_ | refine Lend.fn ?_ | exact LendL.nil | refine LendL.cons ?_ ?_)) rfl rfl ?_)
              first | refine ax_call rfl (vc_pure0 (c_sInt  ) hP rfl rfl ?_) | refine ax_call rfl (vc_lend0 (c_sInt  ) hP (by repeat (first | exact lal_id _ rfl | exact LAL.nil | refine LAL.cons ?_ ?_ | exact la_id _ rfl | exact LA.lend (lend_whole rfl (by first | (simp; done) | (rw [List.length_map]; rfl))) | refine LA.agg ?_ | refine LA.fn ?_ | refine LA.lend ?_ | exact Lend.d _ | exact Lend.zs _ | exact lend_whole rfl (by first | (simp; done) | (rw [List.length_map]; rfl)) | refine Lend.ptr rfl ?_ | refine Lend.fn ?_ | exact LendL.nil | refine LendL.cons ?_ ?_)) rfl rfl ?_)
              refine ax_e (e_st rfl rfl rfl rfl rfl rfl rfl) ?_
              refine ax_q (q_mov rfl) ?_
              refine ax_nil ?_
              refine cx_keep rfl rfl ?_
              refine cx_ret (ret0 rfl rfl ?_)
              have e : binF op a b = (vB (decide (cmpV a b < 0)), 0) := by unfold binF; rw [if_neg (by omega), if_neg (by omega), if_neg (by omega), if_neg (by omega), if_neg (by omega), if_pos (by omega)]
              exact ⟨by rw [e]; rfl, rfl⟩
            · have h9 := dF h9
              refine cx_seq ?_
              refine cx_ops ?_
              refine ax_q (q_ibin rfl rfl rfl) ?_
              refine ax_q (q_mov rfl) ?_
              refine ax_nil ?_
              refine cx_keep rfl rfl ?_
              refine cx_cond rfl (fun h10 => ?_) (fun h10 => ?_)
              · have h10 := dT h10
                refine cx_seq ?_
                refine cx_ops ?_
                first | refine ax_q (q_fadr_ptr rfl) ?_ | refine ax_q (q_fadr_rptr rfl) ?_ | refine ax_q (q_fadr_ip rfl) ?_
                first | refine ax_q (q_load1_ptr rfl rfl rfl) ?_ | refine ax_q (q_load1_ip rfl) ?_ | refine ax_q (q_load1_rptr rfl rfl rfl rfl) ?_ | refine ax_q (q_load1_rptr rfl rfl (by assumption) rfl) ?_ | refine ax_q (q_load1_rptr rfl rfl (mapAt (by first | assumption | omega)) rfl) ?_
                first | refine ax_q (q_fadr_ptr rfl) ?_ | refine ax_q (q_fadr_rptr rfl) ?_ | refine ax_q (q_fadr_ip rfl) ?_
                first | refine ax_q (q_load1_ptr rfl rfl rfl) ?_ | refine ax_q (q_load1_ip rfl) ?_ | refine ax_q (q_load1_rptr rfl rfl rfl rfl) ?_ | refine ax_q (q_load1_rptr rfl rfl (by assumption) rfl) ?_ | refine ax_q (q_load1_rptr rfl rfl (mapAt (by first | assumption | omega)) rfl) ?_
                refine ax_q (q_add rfl rfl (by omega)) ?_
                first | refine ax_call rfl (vc_pure0 (c_l10Bounded  ) hP rfl rfl ?_) | refine ax_call rfl (vc_lend0 (c_l10Bounded  ) hP (by repeat (first | exact lal_id _ rfl | exact LAL.nil | refine LAL.cons ?_ ?_ | exact la_id _ rfl | exact LA.lend (lend_whole rfl (by first | (simp; done) | (rw [List.length_map]; rfl))) | refine LA.agg ?_ | refine LA.fn ?_ | refine LA.lend ?_ | exact Lend.d _ | exact Lend.zs _ | exact lend_whole rfl (by first | (simp; done) | (rw [List.length_map]; rfl)) | refine Lend.ptr rfl ?_ | refine Lend.fn ?_ | exact LendL.nil | refine LendL.cons ?_ ?_)) rfl rfl ?_)
                refine ax_q (q_ext rfl rfl) ?_
                refine ax_q (q_ext rfl rfl) ?_
                refine ax_e (e_st rfl rfl rfl rfl rfl rfl rfl) ?_
                refine ax_q (q_mov rfl) ?_
                refine ax_nil ?_
                refine cx_keep rfl rfl ?_
                refine cx_ret (ret0 rfl rfl ?_)
                have e : binF op a b = bndF (a.N + b.N) := by unfold binF; rw [if_neg (by omega), if_neg (by omega), if_neg (by omega), if_neg (by omega), if_neg (by omega), if_neg (by omega), ari_6 h10]
                exact ⟨by rw [e]; rfl, rfl⟩
              · have h10 := dF h10
                refine cx_seq ?_
                refine cx_ops ?_
                refine ax_q (q_ibin rfl rfl rfl) ?_
                refine ax_q (q_mov rfl) ?_
                refine ax_nil ?_
                refine cx_keep rfl rfl ?_
                refine cx_cond rfl (fun h11 => ?_) (fun h11 => ?_)
                · have h11 := dT h11
                  refine cx_seq ?_
                  refine cx_ops ?_
                  first | refine ax_q (q_fadr_ptr rfl) ?_ | refine ax_q (q_fadr_rptr rfl) ?_ | refine ax_q (q_fadr_ip rfl) ?_
                  first | refine ax_q (q_load1_ptr rfl rfl rfl) ?_ | refine ax_q (q_load1_ip rfl) ?_ | refine ax_q (q_load1_rptr rfl rfl rfl rfl) ?_ | refine ax_q (q_load1_rptr rfl rfl (by assumption) rfl) ?_ | refine ax_q (q_load1_rptr rfl rfl (mapAt (by first | assumption | omega)) rfl) ?_
                  first | refine ax_q (q_fadr_ptr rfl) ?_ | refine ax_q (q_fadr_rptr rfl) ?_ | refine ax_q (q_fadr_ip rfl) ?_
                  first | refine ax_q (q_load1_ptr rfl rfl rfl) ?_ | refine ax_q (q_load1_ip rfl) ?_ | refine ax_q (q_load1_rptr rfl rfl rfl rfl) ?_ | refine ax_q (q_load1_rptr rfl rfl (by assumption) rfl) ?_ | refine ax_q (q_load1_rptr rfl rfl (mapAt (by first | assumption | omega)) rfl) ?_
                  refine ax_q (q_sub rfl rfl (by omega)) ?_
                  first | refine ax_call rfl (vc_pure0 (c_l10Bounded  ) hP rfl rfl ?_) | refine ax_call rfl (vc_lend0 (c_l10Bounded  ) hP (by repeat (first | exact lal_id _ rfl | exact LAL.nil | refine LAL.cons ?_ ?_ | exact la_id _ rfl | exact LA.lend (lend_whole rfl (by first | (simp; done) | (rw [List.length_map]; rfl))) | refine LA.agg ?_ | refine LA.fn ?_ | refine LA.lend ?_ | exact Lend.d _ | exact Lend.zs _ | exact lend_whole rfl (by first | (simp; done) | (rw [List.length_map]; rfl)) | refine Lend.ptr rfl ?_ | refine Lend.fn ?_ | exact LendL.nil | refine LendL.cons ?_ ?_)) rfl rfl ?_)
                  refine ax_q (q_ext rfl rfl) ?_
                  refine ax_q (q_ext rfl rfl) ?_
                  refine ax_e (e_st rfl rfl rfl rfl rfl rfl rfl) ?_
                  refine ax_q (q_mov rfl) ?_
                  refine ax_nil ?_
                  refine cx_keep rfl rfl ?_
                  refine cx_ret (ret0 rfl rfl ?_)
                  have e : binF op a b = bndF (a.N - b.N) := by unfold binF; rw [if_neg (by omega), if_neg (by omega), if_neg (by omega), if_neg (by omega), if_neg (by omega), if_neg (by omega), ari_7 h11]
                  exact ⟨by rw [e]; rfl, rfl⟩
                · have h11 := dF h11
                  refine cx_seq ?_
                  refine cx_ops ?_
                  refine ax_q (q_ibin rfl rfl rfl) ?_
                  refine ax_q (q_mov rfl) ?_
                  refine ax_nil ?_
                  refine cx_keep rfl rfl ?_
                  refine cx_cond rfl (fun h12 => ?_) (fun h12 => ?_)
                  · have h12 := dT h12
                    refine cx_seq ?_
                    refine cx_ops ?_
                    first | refine ax_q (q_fadr_ptr rfl) ?_ | refine ax_q (q_fadr_rptr rfl) ?_ | refine ax_q (q_fadr_ip rfl) ?_
                    first | refine ax_q (q_load1_ptr rfl rfl rfl) ?_ | refine ax_q (q_load1_ip rfl) ?_ | refine ax_q (q_load1_rptr rfl rfl rfl rfl) ?_ | refine ax_q (q_load1_rptr rfl rfl (by assumption) rfl) ?_ | refine ax_q (q_load1_rptr rfl rfl (mapAt (by first | assumption | omega)) rfl) ?_
                    first | refine ax_q (q_fadr_ptr rfl) ?_ | refine ax_q (q_fadr_rptr rfl) ?_ | refine ax_q (q_fadr_ip rfl) ?_
                    first | refine ax_q (q_load1_ptr rfl rfl rfl) ?_ | refine ax_q (q_load1_ip rfl) ?_ | refine ax_q (q_load1_rptr rfl rfl rfl rfl) ?_ | refine ax_q (q_load1_rptr rfl rfl (by assumption) rfl) ?_ | refine ax_q (q_load1_rptr rfl rfl (mapAt (by first | assumption | omega)) rfl) ?_
                    refine ax_q (q_mul rfl rfl (by omega)) ?_
                    first | refine ax_call rfl (vc_pure0 (c_l10Bounded  ) hP rfl rfl ?_) | refine ax_call rfl (vc_lend0 (c_l10Bounded  ) hP (by repeat (first | exact lal_id _ rfl | exact LAL.nil | refine LAL.cons ?_ ?_ | exact la_id _ rfl | exact LA.lend (lend_whole rfl (by first | (simp; done) | (rw [List.length_map]; rfl))) | refine LA.agg ?_ | refine LA.fn ?_ | refine LA.lend ?_ | exact Lend.d _ | exact Lend.zs _ | exact lend_whole rfl (by first | (simp; done) | (rw [List.length_map]; rfl)) | refine Lend.ptr rfl ?_ | refine Lend.fn ?_ | exact LendL.nil | refine LendL.cons ?_ ?_)) rfl rfl ?_)
                    refine ax_q (q_ext rfl rfl) ?_
                    refine ax_q (q_ext rfl rfl) ?_
                    refine ax_e (e_st rfl rfl rfl rfl rfl rfl rfl) ?_
                    refine ax_q (q_mov rfl) ?_
                    refine ax_nil ?_
                    refine cx_keep rfl rfl ?_
                    refine cx_ret (ret0 rfl rfl ?_)
                    have e : binF op a b = bndF (a.N * b.N) := by unfold binF; rw [if_neg (by omega), if_neg (by omega), if_neg (by omega), if_neg (by omega), if_neg (by omega), if_neg (by omega), ari_8 h12]
                    exact ⟨by rw [e]; rfl, rfl⟩
                  · have h12 := dF h12
                    refine cx_skip ?_
                    refine cx_keep rfl rfl ?_
                    refine cx_seq ?_
                    refine cx_seq ?_
                    refine cx_ops ?_
                    first | refine ax_q (q_fadr_ptr rfl) ?_ | refine ax_q (q_fadr_rptr rfl) ?_ | refine ax_q (q_fadr_ip rfl) ?_
                    first | refine ax_q (q_load1_ptr rfl rfl rfl) ?_ | refine ax_q (q_load1_ip rfl) ?_ | refine ax_q (q_load1_rptr rfl rfl rfl rfl) ?_ | refine ax_q (q_load1_rptr rfl rfl (by assumption) rfl) ?_ | refine ax_q (q_load1_rptr rfl rfl (mapAt (by first | assumption | omega)) rfl) ?_
                    refine ax_q (q_ibin rfl rfl rfl) ?_
                    refine ax_nil ?_
                    refine cx_keep rfl rfl ?_
                    refine cx_cond rfl (fun h13 => ?_) (fun h13 => ?_)
                    · have h13 := dT h13
                      refine cx_seq ?_
                      refine cx_ops ?_
                      refine ax_q (q_build rfl) ?_
                      refine ax_e (e_st rfl rfl rfl rfl rfl rfl rfl) ?_
                      refine ax_q (q_mov rfl) ?_
                      refine ax_nil ?_
                      refine cx_keep rfl rfl ?_
                      refine cx_ret (ret0 rfl rfl ?_)
                      have e : binF op a b = (.zero, 11) := by unfold binF; rw [if_neg (by omega), if_neg (by omega), if_neg (by omega), if_neg (by omega), if_neg (by omega), if_neg (by omega), ari_0 h10 h11 h12 h13]
                      exact ⟨by rw [e]; rfl, rfl⟩
                    · have h13 := dF h13
                      refine cx_skip ?_
                      refine cx_keep rfl rfl ?_
                      refine cx_seq ?_
                      refine cx_ops ?_
                      first | refine ax_q (q_fadr_ptr rfl) ?_ | refine ax_q (q_fadr_rptr rfl) ?_ | refine ax_q (q_fadr_ip rfl) ?_
                      first | refine ax_q (q_load1_ptr rfl rfl rfl) ?_ | refine ax_q (q_load1_ip rfl) ?_ | refine ax_q (q_load1_rptr rfl rfl rfl rfl) ?_ | refine ax_q (q_load1_rptr rfl rfl (by assumption) rfl) ?_ | refine ax_q (q_load1_rptr rfl rfl (mapAt (by first | assumption | omega)) rfl) ?_
                      first | refine ax_q (q_fadr_ptr rfl) ?_ | refine ax_q (q_fadr_rptr rfl) ?_ | refine ax_q (q_fadr_ip rfl) ?_
                      first | refine ax_q (q_load1_ptr rfl rfl rfl) ?_ | refine ax_q (q_load1_ip rfl) ?_ | refine ax_q (q_load1_rptr rfl rfl rfl rfl) ?_ | refine ax_q (q_load1_rptr rfl rfl (by assumption) rfl) ?_ | refine ax_q (q_load1_rptr rfl rfl (mapAt (by first | assumption | omega)) rfl) ?_
                      refine ax_qe (r' := int (a.N.tdiv b.N)) (q_idiv rfl rfl rfl (by omega)) (by have := tdivB (a := a.N) (b := b.N) hn; rw [wi (by omega) (by omega)]) ?_
                      first | refine ax_call rfl (vc_pure0 (c_l10Bounded  ) hP rfl rfl ?_) | refine ax_call rfl (vc_lend0 (c_l10Bounded  ) hP (by repeat (first | exact lal_id _ rfl | exact LAL.nil | refine LAL.cons ?_ ?_ | exact la_id _ rfl | exact LA.lend (lend_whole rfl (by first | (simp; done) | (rw [List.length_map]; rfl))) | refine LA.agg ?_ | refine LA.fn ?_ | refine LA.lend ?_ | exact Lend.d _ | exact Lend.zs _ | exact lend_whole rfl (by first | (simp; done) | (rw [List.length_map]; rfl)) | refine Lend.ptr rfl ?_ | refine Lend.fn ?_ | exact LendL.nil | refine LendL.cons ?_ ?_)) rfl rfl ?_)
                      refine ax_q (q_ext rfl rfl) ?_
                      refine ax_q (q_ext rfl rfl) ?_
                      refine ax_e (e_st rfl rfl rfl rfl rfl rfl rfl) ?_
                      refine ax_q (q_mov rfl) ?_
                      refine ax_nil ?_
                      refine cx_keep rfl rfl ?_
                      refine cx_ret (ret0 rfl rfl ?_)
                      have e : binF op a b = bndF (a.N.tdiv b.N) := by unfold binF; rw [if_neg (by omega), if_neg (by omega), if_neg (by omega), if_neg (by omega), if_neg (by omega), if_neg (by omega), ari_d h10 h11 h12 h13]
                      exact ⟨by rw [e]; rfl, rfl⟩


/- loop.example/g00332/spec.l10Eval -/
def k_c_l10Eval : XCode :=
  .seq (.ops [.op (some 3) (.box (.t 0)),
     .op (some 5) (.box (.t 2)),
     .op (some 6) (.alloc [.int .i64 0, .int .i64 0, .str []]),
     .op (some 7) (.mov (.k (.int .i64 0)))])
  (.keep [1, 3, 5, 6] (.seq (.ops [.op (some 12) (.fadr (.t 3) 0),
     .op (some 13) (.load1 (.t 12)),
     .op (some 14) (.mov (.t 1)),
     .op (some 15) (.iadr 7 (.t 13) (.t 14)),
     .op (some 16) (.loadN 7 (.t 15)),
     .op (some 8) (.alloc [.int .i64 0, .int .i64 0, .int .i64 0, .int .i64 0, .int .i64 0, .int .i64 0, .str []]),
     .op none (.store 7 (.t 8) (.t 16))])
  (.keep [3, 5, 6, 8] (.seq (.block 0 (.seq (.ops [.op (some 18) (.fadr (.t 8) 0),
       .op (some 19) (.load1 (.t 18)),
       .op (some 20) (.bin .eql (.t 19) (.k (.int .i64 1))),
       .op (some 17) (.mov (.t 20))])
    (.keep [3, 5, 6, 8, 17] (.cond (.t 17)
     (.seq (.ops [.op (some 21) (.fadr (.t 8) 4),
         .op (some 22) (.loadN 3 (.t 21)),
         .op none (.store 3 (.t 6) (.t 22)),
         .op (some 7) (.mov (.k (.int .i64 0)))])
      (.keep [6, 7] (.ret)))
     (.seq (.ops [.op (some 24) (.fadr (.t 8) 0),
         .op (some 25) (.load1 (.t 24)),
         .op (some 26) (.bin .eql (.t 25) (.k (.int .i64 2))),
         .op (some 23) (.mov (.t 26))])
      (.keep [3, 5, 6, 8, 23] (.cond (.t 23)
       (.seq (.ops [.op (some 27) (.loadN 7 (.t 5)),
           .op (some 28) (.fadr (.t 8) 3),
           .op (some 29) (.load1 (.t 28)),
           .call (some 30) 84 [.t 27, .t 29],
           .op none (.store 3 (.t 6) (.t 30)),
           .op (some 7) (.mov (.k (.int .i64 0)))])
        (.keep [6, 7] (.ret)))
       (.skip))))))))
  (.keep [3, 5, 6, 8] (.seq (.ops [.op (some 32) (.loadN 1 (.t 3)),
     .op (some 33) (.fadr (.t 8) 1),
     .op (some 34) (.load1 (.t 33)),
     .op (some 35) (.loadN 7 (.t 5)),
     .call (some 36) 64 [.t 32, .t 34, .t 35],
     .op (some 31) (.mov (.t 36)),
     .op (some 37) (.ext (.t 31) 0),
     .op (some 38) (.ext (.t 31) 1),
     .op (some 9) (.alloc [.int .i64 0, .int .i64 0, .str []]),
     .op none (.store 3 (.t 9) (.t 37)),
     .op (some 10) (.mov (.t 38))])
  (.keep [3, 5, 6, 8, 9, 10] (.seq (.seq (.ops [.op (some 39) (.mov (.t 10)),
      .op (some 40) (.bin .neq (.t 39) (.k (.int .i64 0)))])
   (.keep [3, 5, 6, 8, 9, 10, 40] (.cond (.t 40)
    (.seq (.ops [.op (some 41) (.build [.int .i64 0, .int .i64 0, .str []] []),
        .op (some 42) (.mov (.t 10)),
        .op none (.store 3 (.t 6) (.t 41)),
        .op (some 7) (.mov (.t 42))])
     (.keep [6, 7] (.ret)))
    (.skip))))
  (.keep [3, 5, 6, 8, 9] (.seq (.seq (.ops [.op (some 43) (.fadr (.t 8) 0),
      .op (some 44) (.load1 (.t 43)),
      .op (some 45) (.bin .leq (.t 44) (.k (.int .i64 5)))])
   (.keep [3, 5, 6, 8, 9, 45] (.cond (.t 45)
    (.seq (.ops [.op (some 46) (.fadr (.t 8) 0),
        .op (some 47) (.load1 (.t 46)),
        .op (some 48) (.loadN 3 (.t 9)),
        .call (some 49) 85 [.t 47, .t 48],
        .op (some 50) (.ext (.t 49) 0),
        .op (some 51) (.ext (.t 49) 1),
        .op none (.store 3 (.t 6) (.t 50)),
        .op (some 7) (.mov (.t 51))])
     (.keep [6, 7] (.ret)))
    (.skip))))
  (.keep [3, 5, 6, 8, 9] (.seq (.seq (.ops [.op (some 52) (.fadr (.t 8) 0),
      .op (some 53) (.load1 (.t 52)),
      .op (some 54) (.bin .eql (.t 53) (.k (.int .i64 12))),
      .op (some 55) (.mov (.t 54)),
      .andor 59 true 3 55 [.op (some 56) (.fadr (.t 9) 0), .op (some 57) (.load1 (.t 56)), .op (some 58) (.bin .eql (.t 57) (.k (.int .i64 1)))] (.t 58),
      .op (some 60) (.mov (.t 59)),
      .andor 64 true 8 60 [.op (some 61) (.fadr (.t 9) 1), .op (some 62) (.load1 (.t 61)), .op (some 63) (.bin .eql (.t 62) (.k (.int .i64 0)))] (.t 63)])
   (.keep [3, 5, 6, 8, 9, 64] (.cond (.t 64)
    (.seq (.ops [.call (some 65) 86 [.k (.int .i64 0)],
        .op none (.store 3 (.t 6) (.t 65)),
        .op (some 7) (.mov (.k (.int .i64 0)))])
     (.keep [6, 7] (.ret)))
    (.skip))))
  (.keep [3, 5, 6, 8, 9] (.seq (.seq (.ops [.op (some 66) (.fadr (.t 8) 0),
      .op (some 67) (.load1 (.t 66)),
      .op (some 68) (.bin .eql (.t 67) (.k (.int .i64 13))),
      .op (some 69) (.mov (.t 68)),
      .andor 73 true 3 69 [.op (some 70) (.fadr (.t 9) 0), .op (some 71) (.load1 (.t 70)), .op (some 72) (.bin .eql (.t 71) (.k (.int .i64 1)))] (.t 72),
      .op (some 74) (.mov (.t 73)),
      .andor 78 true 8 74 [.op (some 75) (.fadr (.t 9) 1), .op (some 76) (.load1 (.t 75)), .op (some 77) (.bin .neq (.t 76) (.k (.int .i64 0)))] (.t 77)])
   (.keep [3, 5, 6, 8, 9, 78] (.cond (.t 78)
    (.seq (.ops [.call (some 79) 86 [.k (.int .i64 1)],
        .op none (.store 3 (.t 6) (.t 79)),
        .op (some 7) (.mov (.k (.int .i64 0)))])
     (.keep [6, 7] (.ret)))
    (.skip))))
  (.keep [3, 5, 6, 8, 9] (.seq (.ops [.op (some 81) (.loadN 1 (.t 3)),
     .op (some 82) (.fadr (.t 8) 2),
     .op (some 83) (.load1 (.t 82)),
     .op (some 84) (.loadN 7 (.t 5)),
     .call (some 85) 64 [.t 81, .t 83, .t 84],
     .op (some 80) (.mov (.t 85)),
     .op (some 86) (.ext (.t 80) 0),
     .op (some 87) (.ext (.t 80) 1),
     .op (some 11) (.alloc [.int .i64 0, .int .i64 0, .str []]),
     .op none (.store 3 (.t 11) (.t 86)),
     .op (some 10) (.mov (.t 87))])
  (.keep [6, 8, 9, 10, 11] (.seq (.seq (.ops [.op (some 88) (.mov (.t 10)),
      .op (some 89) (.bin .neq (.t 88) (.k (.int .i64 0)))])
   (.keep [6, 8, 9, 10, 11, 89] (.cond (.t 89)
    (.seq (.ops [.op (some 90) (.build [.int .i64 0, .int .i64 0, .str []] []),
        .op (some 91) (.mov (.t 10)),
        .op none (.store 3 (.t 6) (.t 90)),
        .op (some 7) (.mov (.t 91))])
     (.keep [6, 7] (.ret)))
    (.skip))))
  (.keep [6, 8, 9, 11] (.seq (.ops [.op (some 92) (.fadr (.t 8) 0),
     .op (some 93) (.load1 (.t 92)),
     .op (some 94) (.loadN 3 (.t 9)),
     .op (some 95) (.loadN 3 (.t 11)),
     .call (some 96) 87 [.t 93, .t 94, .t 95],
     .op (some 97) (.ext (.t 96) 0),
     .op (some 98) (.ext (.t 96) 1),
     .op none (.store 3 (.t 6) (.t 97)),
     .op (some 7) (.mov (.t 98))])
  (.keep [6, 7] (.ret))))))))))))))))))))))
theorem k_c_l10Eval_fits : fitsF Try.prog 64 ⟨99, k_c_l10Eval, [.cN 6 3, .t 7]⟩ = true := by kernel_rfl
set_option maxHeartbeats 4000000 in
theorem c_l10Eval {e : GExpr} {w : GRow} {f : Nat} {i : Int} (hi : 0 ≤ i) (hf : i < f) (hl : i < e.Nodes.length) (ht : (T e.Nodes i).2.2 = true) (hr : RR w) (hw : e.Nodes.length ≤ 1048576) : Con Try.prog noMv 64 [e.av, int i, w.av] [] (fun r h => r = .tup [(evalF e.Nodes w f i).1.av, int (evalF e.Nodes w f i).2] ∧ h = []) := by
  induction f generalizing i with
  | zero => exact absurd hf (by omega)
  | succ f ih =>
    refine con_of2 k_c_l10Eval_fits rfl fun C hP hmv => ?_
    unfold k_c_l10Eval
    obtain ⟨j, rfl⟩ : ∃ j : Nat, i = (j : Int) := ⟨i.toNat, by omega⟩
    have hj : j < e.Nodes.length := by omega
    have hTV := T_V hj ht
    refine cx_seq ?_
    refine cx_ops ?_
    refine ax_e (e_box rfl rfl (by decide) rfl rfl rfl) ?_
    refine ax_e (e_box rfl rfl (by decide) rfl rfl rfl) ?_
    refine ax_e (e_alloc (by decide) rfl rfl) ?_
    refine ax_q (q_mov rfl) ?_
    refine ax_nil ?_
    refine cx_keep rfl rfl ?_
    refine cx_seq ?_
    refine cx_ops ?_
    first | refine ax_q (q_fadr_ptr rfl) ?_ | refine ax_q (q_fadr_rptr rfl) ?_ | refine ax_q (q_fadr_ip rfl) ?_
    first | refine ax_q (q_load1_ptr rfl rfl rfl) ?_ | refine ax_q (q_load1_ip rfl) ?_ | refine ax_q (q_load1_rptr rfl rfl rfl rfl) ?_ | refine ax_q (q_load1_rptr rfl rfl (by assumption) rfl) ?_ | refine ax_q (q_load1_rptr rfl rfl (mapAt (by first | assumption | omega)) rfl) ?_
    refine ax_q (q_mov rfl) ?_
    refine ax_q (q_ix rfl rfl (mapAt hj)) ?_
    first | refine ax_q (q_ldN rfl rfl rfl) ?_ | refine ax_q (q_loadN_ip rfl (Nat.le_refl _)) ?_ | refine ax_q (q_loadN_ip rfl (by decide)) ?_ | refine ax_q (q_loadN_rptr rfl rfl (by assumption) (by decide)) ?_ | refine ax_q (q_loadN_rptr rfl rfl (mapAt (by first | assumption | omega)) (by decide)) ?_
    refine ax_e (e_alloc (by decide) rfl rfl) ?_
    refine ax_e (e_st rfl rfl rfl rfl rfl rfl rfl) ?_
    refine ax_nil ?_
    refine cx_keep rfl rfl ?_
    refine cx_seq ?_
    refine cx_block ?_
    refine cx_seq ?_
    refine cx_ops ?_
    first | refine ax_q (q_fadr_ptr rfl) ?_ | refine ax_q (q_fadr_rptr rfl) ?_ | refine ax_q (q_fadr_ip rfl) ?_
    first | refine ax_q (q_load1_ptr rfl rfl rfl) ?_ | refine ax_q (q_load1_ip rfl) ?_ | refine ax_q (q_load1_rptr rfl rfl rfl rfl) ?_ | refine ax_q (q_load1_rptr rfl rfl (by assumption) rfl) ?_ | refine ax_q (q_load1_rptr rfl rfl (mapAt (by first | assumption | omega)) rfl) ?_
    refine ax_q (q_ibin rfl rfl rfl) ?_
    refine ax_q (q_mov rfl) ?_
    refine ax_nil ?_
    refine cx_keep rfl rfl ?_
    refine cx_cond rfl (fun h0 => ?_) (fun h0 => ?_)
    · have h0 := dT h0
      refine cx_seq ?_
      refine cx_ops ?_
      first | refine ax_q (q_fadr_ptr rfl) ?_ | refine ax_q (q_fadr_rptr rfl) ?_ | refine ax_q (q_fadr_ip rfl) ?_
      first | refine ax_q (q_ldN rfl rfl rfl) ?_ | refine ax_q (q_loadN_ip rfl (Nat.le_refl _)) ?_ | refine ax_q (q_loadN_ip rfl (by decide)) ?_ | refine ax_q (q_loadN_rptr rfl rfl (by assumption) (by decide)) ?_ | refine ax_q (q_loadN_rptr rfl rfl (mapAt (by first | assumption | omega)) (by decide)) ?_
      refine ax_e (e_st rfl rfl rfl rfl rfl rfl rfl) ?_
      refine ax_q (q_mov rfl) ?_
      refine ax_nil ?_
      refine cx_keep rfl rfl ?_
      refine cx_ret (ret0 rfl rfl ?_)
      exact ⟨by rw [evalF_1 hj h0]; rfl, rfl⟩
    · have h0 := dF h0
      refine cx_seq ?_
      refine cx_ops ?_
      first | refine ax_q (q_fadr_ptr rfl) ?_ | refine ax_q (q_fadr_rptr rfl) ?_ | refine ax_q (q_fadr_ip rfl) ?_
      first | refine ax_q (q_load1_ptr rfl rfl rfl) ?_ | refine ax_q (q_load1_ip rfl) ?_ | refine ax_q (q_load1_rptr rfl rfl rfl rfl) ?_ | refine ax_q (q_load1_rptr rfl rfl (by assumption) rfl) ?_ | refine ax_q (q_load1_rptr rfl rfl (mapAt (by first | assumption | omega)) rfl) ?_
      refine ax_q (q_ibin rfl rfl rfl) ?_
      refine ax_q (q_mov rfl) ?_
      refine ax_nil ?_
      refine cx_keep rfl rfl ?_
      refine cx_cond rfl (fun h1 => ?_) (fun h1 => ?_)
      · have h1 := dT h1
        have hc := hTV.2 h1
        refine cx_seq ?_
        refine cx_ops ?_
        first | refine ax_q (q_ldN rfl rfl rfl) ?_ | refine ax_q (q_loadN_ip rfl (Nat.le_refl _)) ?_ | refine ax_q (q_loadN_ip rfl (by decide)) ?_ | refine ax_q (q_loadN_rptr rfl rfl (by assumption) (by decide)) ?_ | refine ax_q (q_loadN_rptr rfl rfl (mapAt (by first | assumption | omega)) (by decide)) ?_
        first | refine ax_q (q_fadr_ptr rfl) ?_ | refine ax_q (q_fadr_rptr rfl) ?_ | refine ax_q (q_fadr_ip rfl) ?_
        first | refine ax_q (q_load1_ptr rfl rfl rfl) ?_ | refine ax_q (q_load1_ip rfl) ?_ | refine ax_q (q_load1_rptr rfl rfl rfl rfl) ?_ | refine ax_q (q_load1_rptr rfl rfl (by assumption) rfl) ?_ | refine ax_q (q_load1_rptr rfl rfl (mapAt (by first | assumption | omega)) rfl) ?_
        first | refine ax_call rfl (vc_pure0 (c_sColumn  ) hP rfl rfl ?_) | refine ax_call rfl (vc_lend0 (c_sColumn  ) hP (by repeat (first | exact lal_id _ rfl | exact LAL.nil | refine LAL.cons ?_ ?_ | exact la_id _ rfl | exact LA.lend (lend_whole rfl (by first | (simp; done) | (rw [List.length_map]; rfl))) | refine LA.agg ?_ | refine LA.fn ?_ | refine LA.lend ?_ | exact Lend.d _ | exact Lend.zs _ | exact lend_whole rfl (by first | (simp; done) | (rw [List.length_map]; rfl)) | refine Lend.ptr rfl ?_ | refine Lend.fn ?_ | exact LendL.nil | refine LendL.cons ?_ ?_)) rfl rfl ?_)
        refine ax_e (e_st rfl rfl rfl rfl rfl rfl rfl) ?_
        refine ax_q (q_mov rfl) ?_
        refine ax_nil ?_
        refine cx_keep rfl rfl ?_
        refine cx_ret (ret0 rfl rfl ?_)
        exact ⟨by rw [evalF_2 hj h0 h1]; rfl, rfl⟩
      · have h1 := dF h1
        refine cx_skip ?_
        refine cx_keep rfl rfl ?_
        refine cx_seq ?_
        refine cx_ops ?_
        first | refine ax_q (q_ldN rfl rfl rfl) ?_ | refine ax_q (q_loadN_ip rfl (Nat.le_refl _)) ?_ | refine ax_q (q_loadN_ip rfl (by decide)) ?_ | refine ax_q (q_loadN_rptr rfl rfl (by assumption) (by decide)) ?_ | refine ax_q (q_loadN_rptr rfl rfl (mapAt (by first | assumption | omega)) (by decide)) ?_
        first | refine ax_q (q_fadr_ptr rfl) ?_ | refine ax_q (q_fadr_rptr rfl) ?_ | refine ax_q (q_fadr_ip rfl) ?_
        first | refine ax_q (q_load1_ptr rfl rfl rfl) ?_ | refine ax_q (q_load1_ip rfl) ?_ | refine ax_q (q_load1_rptr rfl rfl rfl rfl) ?_ | refine ax_q (q_load1_rptr rfl rfl (by assumption) rfl) ?_ | refine ax_q (q_load1_rptr rfl rfl (mapAt (by first | assumption | omega)) rfl) ?_
        first | refine ax_q (q_ldN rfl rfl rfl) ?_ | refine ax_q (q_loadN_ip rfl (Nat.le_refl _)) ?_ | refine ax_q (q_loadN_ip rfl (by decide)) ?_ | refine ax_q (q_loadN_rptr rfl rfl (by assumption) (by decide)) ?_ | refine ax_q (q_loadN_rptr rfl rfl (mapAt (by first | assumption | omega)) (by decide)) ?_
        obtain ⟨⟨hA0, hA1, hAt, hAs⟩, hB⟩ := T_kids hj ht h0 h1
        have hva := evalF_rv (r := w) hr (f := f) hA0 (by omega) (by omega) hAt
        first | refine ax_call rfl (vc_pure0 (ih (i := e.Nodes[j].A) ?_ ?_ ?_ ?_) hP rfl rfl ?_) | refine ax_call rfl (vc_lend0 (ih (i := e.Nodes[j].A) ?_ ?_ ?_ ?_) hP (by repeat (first | exact lal_id _ rfl | exact LAL.nil | refine LAL.cons ?_ ?_ | exact la_id _ rfl | exact LA.lend (lend_whole rfl (by first | (simp; done) | (rw [List.length_map]; rfl))) | refine LA.agg ?_ | refine LA.fn ?_ | refine LA.lend ?_ | exact Lend.d _ | exact Lend.zs _ | exact lend_whole rfl (by first | (simp; done) | (rw [List.length_map]; rfl)) | refine Lend.ptr rfl ?_ | refine Lend.fn ?_ | exact LendL.nil | refine LendL.cons ?_ ?_)) rfl rfl ?_)
        · first | assumption | omega | (simp; done) | (simp; omega)
        · first | assumption | omega | (simp; done) | (simp; omega)
        · first | assumption | omega | (simp; done) | (simp; omega)
        · first | assumption | omega | (simp; done) | (simp; omega)
        refine ax_q (q_mov rfl) ?_
        refine ax_q (q_ext rfl rfl) ?_
        refine ax_q (q_ext rfl rfl) ?_
        refine ax_e (e_alloc (by decide) rfl rfl) ?_
        refine ax_e (e_st rfl rfl rfl rfl rfl rfl rfl) ?_
        refine ax_q (q_mov rfl) ?_
        refine ax_nil ?_
        refine cx_keep rfl rfl ?_
        refine cx_seq ?_
        refine cx_seq ?_
        refine cx_ops ?_
        refine ax_q (q_mov rfl) ?_
        refine ax_q (q_ibin rfl rfl rfl) ?_
        refine ax_nil ?_
        refine cx_keep rfl rfl ?_
        refine cx_cond rfl (fun h2 => ?_) (fun h2 => ?_)
        · have h2 := nT h2
          refine cx_seq ?_
          refine cx_ops ?_
          refine ax_q (q_build rfl) ?_
          refine ax_q (q_mov rfl) ?_
          refine ax_e (e_st rfl rfl rfl rfl rfl rfl rfl) ?_
          refine ax_q (q_mov rfl) ?_
          refine ax_nil ?_
          refine cx_keep rfl rfl ?_
          refine cx_ret (ret0 rfl rfl ?_)
          exact ⟨by rw [evalF_3 hj h0 h1 h2]; rfl, rfl⟩
        · have h2 := nF h2
          refine cx_skip ?_
          refine cx_keep rfl rfl ?_
          refine cx_seq ?_
          refine cx_seq ?_
          refine cx_ops ?_
          first | refine ax_q (q_fadr_ptr rfl) ?_ | refine ax_q (q_fadr_rptr rfl) ?_ | refine ax_q (q_fadr_ip rfl) ?_
          first | refine ax_q (q_load1_ptr rfl rfl rfl) ?_ | refine ax_q (q_load1_ip rfl) ?_ | refine ax_q (q_load1_rptr rfl rfl rfl rfl) ?_ | refine ax_q (q_load1_rptr rfl rfl (by assumption) rfl) ?_ | refine ax_q (q_load1_rptr rfl rfl (mapAt (by first | assumption | omega)) rfl) ?_
          refine ax_q (q_ibin rfl rfl rfl) ?_
          refine ax_nil ?_
          refine cx_keep rfl rfl ?_
          refine cx_cond rfl (fun h3 => ?_) (fun h3 => ?_)
          · have h3 := dT h3
            refine cx_seq ?_
            refine cx_ops ?_
            first | refine ax_q (q_fadr_ptr rfl) ?_ | refine ax_q (q_fadr_rptr rfl) ?_ | refine ax_q (q_fadr_ip rfl) ?_
            first | refine ax_q (q_load1_ptr rfl rfl rfl) ?_ | refine ax_q (q_load1_ip rfl) ?_ | refine ax_q (q_load1_rptr rfl rfl rfl rfl) ?_ | refine ax_q (q_load1_rptr rfl rfl (by assumption) rfl) ?_ | refine ax_q (q_load1_rptr rfl rfl (mapAt (by first | assumption | omega)) rfl) ?_
            first | refine ax_q (q_ldN rfl rfl rfl) ?_ | refine ax_q (q_loadN_ip rfl (Nat.le_refl _)) ?_ | refine ax_q (q_loadN_ip rfl (by decide)) ?_ | refine ax_q (q_loadN_rptr rfl rfl (by assumption) (by decide)) ?_ | refine ax_q (q_loadN_rptr rfl rfl (mapAt (by first | assumption | omega)) (by decide)) ?_
            first | refine ax_call rfl (vc_pure0 (c_sUnary (a := (evalF e.Nodes w f e.Nodes[j].A).1) ?_) hP rfl rfl ?_) | refine ax_call rfl (vc_lend0 (c_sUnary (a := (evalF e.Nodes w f e.Nodes[j].A).1) ?_) hP (by repeat (first | exact lal_id _ rfl | exact LAL.nil | refine LAL.cons ?_ ?_ | exact la_id _ rfl | exact LA.lend (lend_whole rfl (by first | (simp; done) | (rw [List.length_map]; rfl))) | refine LA.agg ?_ | refine LA.fn ?_ | refine LA.lend ?_ | exact Lend.d _ | exact Lend.zs _ | exact lend_whole rfl (by first | (simp; done) | (rw [List.length_map]; rfl)) | refine Lend.ptr rfl ?_ | refine Lend.fn ?_ | exact LendL.nil | refine LendL.cons ?_ ?_)) rfl rfl ?_)
            · first | assumption | omega | (simp; done) | (simp; omega)
            refine ax_q (q_ext rfl rfl) ?_
            refine ax_q (q_ext rfl rfl) ?_
            refine ax_e (e_st rfl rfl rfl rfl rfl rfl rfl) ?_
            refine ax_q (q_mov rfl) ?_
            refine ax_nil ?_
            refine cx_keep rfl rfl ?_
            refine cx_ret (ret0 rfl rfl ?_)
            exact ⟨by rw [evalF_4 hj h0 h1 h2 h3]; rfl, rfl⟩
          · have h3 := dF h3
            refine cx_skip ?_
            refine cx_keep rfl rfl ?_
            refine cx_seq ?_
            refine cx_seq ?_
            refine cx_ops ?_
            first | refine ax_q (q_fadr_ptr rfl) ?_ | refine ax_q (q_fadr_rptr rfl) ?_ | refine ax_q (q_fadr_ip rfl) ?_
            first | refine ax_q (q_load1_ptr rfl rfl rfl) ?_ | refine ax_q (q_load1_ip rfl) ?_ | refine ax_q (q_load1_rptr rfl rfl rfl rfl) ?_ | refine ax_q (q_load1_rptr rfl rfl (by assumption) rfl) ?_ | refine ax_q (q_load1_rptr rfl rfl (mapAt (by first | assumption | omega)) rfl) ?_
            refine ax_q (q_ibin rfl rfl rfl) ?_
            refine ax_q (q_mov rfl) ?_
            apply ax_and rfl rfl
            · intro g
              have g := dT g
              first | refine ax_q (q_fadr_ptr rfl) ?_ | refine ax_q (q_fadr_rptr rfl) ?_ | refine ax_q (q_fadr_ip rfl) ?_
              first | refine ax_q (q_load1_ptr rfl rfl rfl) ?_ | refine ax_q (q_load1_ip rfl) ?_ | refine ax_q (q_load1_rptr rfl rfl rfl rfl) ?_ | refine ax_q (q_load1_rptr rfl rfl (by assumption) rfl) ?_ | refine ax_q (q_load1_rptr rfl rfl (mapAt (by first | assumption | omega)) rfl) ?_
              refine ax_q (q_ibin rfl rfl rfl) ?_
              exact ax_nil ⟨rfl, by repeat (first | exact trivial | refine ⟨rfl, ?_⟩ | refine ⟨?_, ?_⟩)⟩
            refine ax_q (q_mov rfl) ?_
            apply ax_and rfl rfl
            · intro g
              have g := (fun h => And.intro (dT (and_T h).1) (dT (and_T h).2)) g
              first | refine ax_q (q_fadr_ptr rfl) ?_ | refine ax_q (q_fadr_rptr rfl) ?_ | refine ax_q (q_fadr_ip rfl) ?_
              first | refine ax_q (q_load1_ptr rfl rfl rfl) ?_ | refine ax_q (q_load1_ip rfl) ?_ | refine ax_q (q_load1_rptr rfl rfl rfl rfl) ?_ | refine ax_q (q_load1_rptr rfl rfl (by assumption) rfl) ?_ | refine ax_q (q_load1_rptr rfl rfl (mapAt (by first | assumption | omega)) rfl) ?_
              refine ax_q (q_ibin rfl rfl rfl) ?_
              exact ax_nil ⟨rfl, by repeat (first | exact trivial | refine ⟨rfl, ?_⟩ | refine ⟨?_, ?_⟩)⟩
            refine ax_nil ?_
            refine cx_keep rfl rfl ?_
            refine cx_cond rfl (fun h4 => ?_) (fun h4 => ?_)
            · have h4 := (fun h => And.intro ((fun h => And.intro (dT (and_T h).1) (dT (and_T h).2)) (and_T h).1) (dT (and_T h).2)) h4
              refine cx_seq ?_
              refine cx_ops ?_
              first | refine ax_call rfl (vc_pure0 (c_sInt  ) hP rfl rfl ?_) | refine ax_call rfl (vc_lend0 (c_sInt  ) hP (by repeat (first | exact lal_id _ rfl | exact LAL.nil | refine LAL.cons ?_ ?_ | exact la_id _ rfl | exact LA.lend (lend_whole rfl (by first | (simp; done) | (rw [List.length_map]; rfl))) | refine LA.agg ?_ | refine LA.fn ?_ | refine LA.lend ?_ | exact Lend.d _ | exact Lend.zs _ | exact lend_whole rfl (by first | (simp; done) | (rw [List.length_map]; rfl)) | refine Lend.ptr rfl ?_ | refine Lend.fn ?_ | exact LendL.nil | refine LendL.cons ?_ ?_)) rfl rfl ?_)
              refine ax_e (e_st rfl rfl rfl rfl rfl rfl rfl) ?_
              refine ax_q (q_mov rfl) ?_
              refine ax_nil ?_
              refine cx_keep rfl rfl ?_
              refine cx_ret (ret0 rfl rfl ?_)
              exact ⟨by rw [evalF_r hj h0 h1 h2 h3, if_pos (by simp only [isZ_iff, isO_iff]; omega)]; rfl, rfl⟩
            · have h4 := (fun h => (and_F h).imp (fun h => (and_F h).imp dF dF) dF) h4
              refine cx_skip ?_
              refine cx_keep rfl rfl ?_
              refine cx_seq ?_
              refine cx_seq ?_
              refine cx_ops ?_
              first | refine ax_q (q_fadr_ptr rfl) ?_ | refine ax_q (q_fadr_rptr rfl) ?_ | refine ax_q (q_fadr_ip rfl) ?_
              first | refine ax_q (q_load1_ptr rfl rfl rfl) ?_ | refine ax_q (q_load1_ip rfl) ?_ | refine ax_q (q_load1_rptr rfl rfl rfl rfl) ?_ | refine ax_q (q_load1_rptr rfl rfl (by assumption) rfl) ?_ | refine ax_q (q_load1_rptr rfl rfl (mapAt (by first | assumption | omega)) rfl) ?_
              refine ax_q (q_ibin rfl rfl rfl) ?_
              refine ax_q (q_mov rfl) ?_
              apply ax_and rfl rfl
              · intro g
                have g := dT g
                first | refine ax_q (q_fadr_ptr rfl) ?_ | refine ax_q (q_fadr_rptr rfl) ?_ | refine ax_q (q_fadr_ip rfl) ?_
                first | refine ax_q (q_load1_ptr rfl rfl rfl) ?_ | refine ax_q (q_load1_ip rfl) ?_ | refine ax_q (q_load1_rptr rfl rfl rfl rfl) ?_ | refine ax_q (q_load1_rptr rfl rfl (by assumption) rfl) ?_ | refine ax_q (q_load1_rptr rfl rfl (mapAt (by first | assumption | omega)) rfl) ?_
                refine ax_q (q_ibin rfl rfl rfl) ?_
                exact ax_nil ⟨rfl, by repeat (first | exact trivial | refine ⟨rfl, ?_⟩ | refine ⟨?_, ?_⟩)⟩
              refine ax_q (q_mov rfl) ?_
              apply ax_and rfl rfl
              · intro g
                have g := (fun h => And.intro (dT (and_T h).1) (dT (and_T h).2)) g
                first | refine ax_q (q_fadr_ptr rfl) ?_ | refine ax_q (q_fadr_rptr rfl) ?_ | refine ax_q (q_fadr_ip rfl) ?_
                first | refine ax_q (q_load1_ptr rfl rfl rfl) ?_ | refine ax_q (q_load1_ip rfl) ?_ | refine ax_q (q_load1_rptr rfl rfl rfl rfl) ?_ | refine ax_q (q_load1_rptr rfl rfl (by assumption) rfl) ?_ | refine ax_q (q_load1_rptr rfl rfl (mapAt (by first | assumption | omega)) rfl) ?_
                refine ax_q (q_ibin rfl rfl rfl) ?_
                exact ax_nil ⟨rfl, by repeat (first | exact trivial | refine ⟨rfl, ?_⟩ | refine ⟨?_, ?_⟩)⟩
              refine ax_nil ?_
              refine cx_keep rfl rfl ?_
              refine cx_cond rfl (fun h5 => ?_) (fun h5 => ?_)
              · have h5 := (fun h => And.intro ((fun h => And.intro (dT (and_T h).1) (dT (and_T h).2)) (and_T h).1) (nT (and_T h).2)) h5
                refine cx_seq ?_
                refine cx_ops ?_
                first | refine ax_call rfl (vc_pure0 (c_sInt  ) hP rfl rfl ?_) | refine ax_call rfl (vc_lend0 (c_sInt  ) hP (by repeat (first | exact lal_id _ rfl | exact LAL.nil | refine LAL.cons ?_ ?_ | exact la_id _ rfl | exact LA.lend (lend_whole rfl (by first | (simp; done) | (rw [List.length_map]; rfl))) | refine LA.agg ?_ | refine LA.fn ?_ | refine LA.lend ?_ | exact Lend.d _ | exact Lend.zs _ | exact lend_whole rfl (by first | (simp; done) | (rw [List.length_map]; rfl)) | refine Lend.ptr rfl ?_ | refine Lend.fn ?_ | exact LendL.nil | refine LendL.cons ?_ ?_)) rfl rfl ?_)
                refine ax_e (e_st rfl rfl rfl rfl rfl rfl rfl) ?_
                refine ax_q (q_mov rfl) ?_
                refine ax_nil ?_
                refine cx_keep rfl rfl ?_
                refine cx_ret (ret0 rfl rfl ?_)
                exact ⟨by rw [evalF_r hj h0 h1 h2 h3, if_neg (by simp only [isZ_iff, isO_iff]; omega), if_pos (by simp only [isZ_iff, isO_iff]; omega)]; rfl, rfl⟩
              · have h5 := (fun h => (and_F h).imp (fun h => (and_F h).imp dF dF) nF) h5
                refine cx_skip ?_
                refine cx_keep rfl rfl ?_
                refine cx_seq ?_
                refine cx_ops ?_
                first | refine ax_q (q_ldN rfl rfl rfl) ?_ | refine ax_q (q_loadN_ip rfl (Nat.le_refl _)) ?_ | refine ax_q (q_loadN_ip rfl (by decide)) ?_ | refine ax_q (q_loadN_rptr rfl rfl (by assumption) (by decide)) ?_ | refine ax_q (q_loadN_rptr rfl rfl (mapAt (by first | assumption | omega)) (by decide)) ?_
                first | refine ax_q (q_fadr_ptr rfl) ?_ | refine ax_q (q_fadr_rptr rfl) ?_ | refine ax_q (q_fadr_ip rfl) ?_
                first | refine ax_q (q_load1_ptr rfl rfl rfl) ?_ | refine ax_q (q_load1_ip rfl) ?_ | refine ax_q (q_load1_rptr rfl rfl rfl rfl) ?_ | refine ax_q (q_load1_rptr rfl rfl (by assumption) rfl) ?_ | refine ax_q (q_load1_rptr rfl rfl (mapAt (by first | assumption | omega)) rfl) ?_
                first | refine ax_q (q_ldN rfl rfl rfl) ?_ | refine ax_q (q_loadN_ip rfl (Nat.le_refl _)) ?_ | refine ax_q (q_loadN_ip rfl (by decide)) ?_ | refine ax_q (q_loadN_rptr rfl rfl (by assumption) (by decide)) ?_ | refine ax_q (q_loadN_rptr rfl rfl (mapAt (by first | assumption | omega)) (by decide)) ?_
                obtain ⟨hB0, hB1, hBt, hBs⟩ := hB h3
                have hvb := evalF_rv (r := w) hr (f := f) hB0 (by omega) (by omega) hBt
                first | refine ax_call rfl (vc_pure0 (ih (i := e.Nodes[j].B) ?_ ?_ ?_ ?_) hP rfl rfl ?_) | refine ax_call rfl (vc_lend0 (ih (i := e.Nodes[j].B) ?_ ?_ ?_ ?_) hP (by repeat (first | exact lal_id _ rfl | exact LAL.nil | refine LAL.cons ?_ ?_ | exact la_id _ rfl | exact LA.lend (lend_whole rfl (by first | (simp; done) | (rw [List.length_map]; rfl))) | refine LA.agg ?_ | refine LA.fn ?_ | refine LA.lend ?_ | exact Lend.d _ | exact Lend.zs _ | exact lend_whole rfl (by first | (simp; done) | (rw [List.length_map]; rfl)) | refine Lend.ptr rfl ?_ | refine Lend.fn ?_ | exact LendL.nil | refine LendL.cons ?_ ?_)) rfl rfl ?_)
                · first | assumption | omega | (simp; done) | (simp; omega)
                · first | assumption | omega | (simp; done) | (simp; omega)
                · first | assumption | omega | (simp; done) | (simp; omega)
                · first | assumption | omega | (simp; done) | (simp; omega)
                refine ax_q (q_mov rfl) ?_
                refine ax_q (q_ext rfl rfl) ?_
                refine ax_q (q_ext rfl rfl) ?_
                refine ax_e (e_alloc (by decide) rfl rfl) ?_
                refine ax_e (e_st rfl rfl rfl rfl rfl rfl rfl) ?_
                refine ax_q (q_mov rfl) ?_
                refine ax_nil ?_
                refine cx_keep rfl rfl ?_
                refine cx_seq ?_
                refine cx_seq ?_
                refine cx_ops ?_
                refine ax_q (q_mov rfl) ?_
                refine ax_q (q_ibin rfl rfl rfl) ?_
                refine ax_nil ?_
                refine cx_keep rfl rfl ?_
                refine cx_cond rfl (fun h6 => ?_) (fun h6 => ?_)
                · have h6 := nT h6
                  refine cx_seq ?_
                  refine cx_ops ?_
                  refine ax_q (q_build rfl) ?_
                  refine ax_q (q_mov rfl) ?_
                  refine ax_e (e_st rfl rfl rfl rfl rfl rfl rfl) ?_
                  refine ax_q (q_mov rfl) ?_
                  refine ax_nil ?_
                  refine cx_keep rfl rfl ?_
                  refine cx_ret (ret0 rfl rfl ?_)
                  exact ⟨by rw [evalF_r hj h0 h1 h2 h3, if_neg (by simp only [isZ_iff, isO_iff]; omega), if_neg (by simp only [isZ_iff, isO_iff]; omega), if_pos h6]; rfl, rfl⟩
                · have h6 := nF h6
                  refine cx_skip ?_
                  refine cx_keep rfl rfl ?_
                  refine cx_seq ?_
                  refine cx_ops ?_
                  first | refine ax_q (q_fadr_ptr rfl) ?_ | refine ax_q (q_fadr_rptr rfl) ?_ | refine ax_q (q_fadr_ip rfl) ?_
                  first | refine ax_q (q_load1_ptr rfl rfl rfl) ?_ | refine ax_q (q_load1_ip rfl) ?_ | refine ax_q (q_load1_rptr rfl rfl rfl rfl) ?_ | refine ax_q (q_load1_rptr rfl rfl (by assumption) rfl) ?_ | refine ax_q (q_load1_rptr rfl rfl (mapAt (by first | assumption | omega)) rfl) ?_
                  first | refine ax_q (q_ldN rfl rfl rfl) ?_ | refine ax_q (q_loadN_ip rfl (Nat.le_refl _)) ?_ | refine ax_q (q_loadN_ip rfl (by decide)) ?_ | refine ax_q (q_loadN_rptr rfl rfl (by assumption) (by decide)) ?_ | refine ax_q (q_loadN_rptr rfl rfl (mapAt (by first | assumption | omega)) (by decide)) ?_
                  first | refine ax_q (q_ldN rfl rfl rfl) ?_ | refine ax_q (q_loadN_ip rfl (Nat.le_refl _)) ?_ | refine ax_q (q_loadN_ip rfl (by decide)) ?_ | refine ax_q (q_loadN_rptr rfl rfl (by assumption) (by decide)) ?_ | refine ax_q (q_loadN_rptr rfl rfl (mapAt (by first | assumption | omega)) (by decide)) ?_
                  first | refine ax_call rfl (vc_pure0 (c_sBinary (a := (evalF e.Nodes w f e.Nodes[j].A).1) (b := (evalF e.Nodes w f e.Nodes[j].B).1) ?_ ?_) hP rfl rfl ?_) | refine ax_call rfl (vc_lend0 (c_sBinary (a := (evalF e.Nodes w f e.Nodes[j].A).1) (b := (evalF e.Nodes w f e.Nodes[j].B).1) ?_ ?_) hP (by repeat (first | exact lal_id _ rfl | exact LAL.nil | refine LAL.cons ?_ ?_ | exact la_id _ rfl | exact LA.lend (lend_whole rfl (by first | (simp; done) | (rw [List.length_map]; rfl))) | refine LA.agg ?_ | refine LA.fn ?_ | refine LA.lend ?_ | exact Lend.d _ | exact Lend.zs _ | exact lend_whole rfl (by first | (simp; done) | (rw [List.length_map]; rfl)) | refine Lend.ptr rfl ?_ | refine Lend.fn ?_ | exact LendL.nil | refine LendL.cons ?_ ?_)) rfl rfl ?_)
                  · first | assumption | omega | (simp; done) | (simp; omega)
                  · first | assumption | omega | (simp; done) | (simp; omega)
                  refine ax_q (q_ext rfl rfl) ?_
                  refine ax_q (q_ext rfl rfl) ?_
                  refine ax_e (e_st rfl rfl rfl rfl rfl rfl rfl) ?_
                  refine ax_q (q_mov rfl) ?_
                  refine ax_nil ?_
                  refine cx_keep rfl rfl ?_
                  refine cx_ret (ret0 rfl rfl ?_)
                  exact ⟨by rw [evalF_r hj h0 h1 h2 h3, if_neg (by simp only [isZ_iff, isO_iff]; omega), if_neg (by simp only [isZ_iff, isO_iff]; omega), if_neg (by omega)]; rfl, rfl⟩


/- loop.example/g00332/spec.EvalExpr -/
def k_c_sEvalExpr : XCode :=
  .seq (.ops [.op (some 2) (.box (.t 0)),
     .op (some 3) (.box (.t 1)),
     .op (some 4) (.alloc [.int .i64 0, .int .i64 0, .str []]),
     .op (some 5) (.mov (.k (.int .i64 0)))])
  (.keep [2, 3, 4] (.seq (.seq (.ops [.op (some 6) (.loadN 1 (.t 2)),
      .call (some 7) 47 [.t 6],
      .op (some 8) (.not (.t 7)),
      .op (some 9) (.mov (.t 8)),
      .andor 13 false 3 9 [.op (some 10) (.loadN 7 (.t 3)), .call (some 11) 48 [.t 10], .op (some 12) (.not (.t 11))] (.t 12)])
   (.keep [2, 3, 4, 13] (.cond (.t 13)
    (.seq (.ops [.op (some 14) (.build [.int .i64 0, .int .i64 0, .str []] []),
        .op none (.store 3 (.t 4) (.t 14)),
        .op (some 5) (.mov (.k (.int .i64 1)))])
     (.keep [4, 5] (.ret)))
    (.skip))))
  (.keep [2, 3, 4] (.seq (.ops [.op (some 15) (.loadN 1 (.t 2)),
     .op (some 16) (.fadr (.t 2) 0),
     .op (some 17) (.load1 (.t 16)),
     .op (some 18) (.lenS (.t 17)),
     .op (some 19) (.bin .sub (.t 18) (.k (.int .i64 1))),
     .op (some 20) (.loadN 7 (.t 3)),
     .call (some 21) 64 [.t 15, .t 19, .t 20],
     .op (some 22) (.ext (.t 21) 0),
     .op (some 23) (.ext (.t 21) 1),
     .op none (.store 3 (.t 4) (.t 22)),
     .op (some 5) (.mov (.t 23))])
  (.keep [4, 5] (.ret))))))
theorem k_c_sEvalExpr_fits : fitsF Try.prog 31 ⟨24, k_c_sEvalExpr, [.cN 4 3, .t 5]⟩ = true := by kernel_rfl
theorem c_sEvalExpr {e : GExpr} {w : GRow} (hw : e.Nodes.length ≤ 1048576) (hv : ∀ x ∈ e.Nodes, x.V.T.length ≤ 1048576) (hr1 : w.N.T.length ≤ 1048576) (hr2 : w.Name.T.length ≤ 1048576) : Con Try.prog noMv 31 [e.av, w.av] [] (fun r h => r = .tup [(evF e w).1.av, int (evF e w).2] ∧ h = []) := by
  refine con_of2 k_c_sEvalExpr_fits rfl fun C hP hmv => ?_
  unfold k_c_sEvalExpr
  refine cx_seq ?_
  refine cx_ops ?_
  refine ax_e (e_box rfl rfl (by decide) rfl rfl rfl) ?_
  refine ax_e (e_box rfl rfl (by decide) rfl rfl rfl) ?_
  refine ax_e (e_alloc (by decide) rfl rfl) ?_
  refine ax_q (q_mov rfl) ?_
  refine ax_nil ?_
  refine cx_keep rfl rfl ?_
  refine cx_seq ?_
  refine cx_seq ?_
  refine cx_ops ?_
  first | refine ax_q (q_ldN rfl rfl rfl) ?_ | refine ax_q (q_loadN_ip rfl (Nat.le_refl _)) ?_ | refine ax_q (q_loadN_ip rfl (by decide)) ?_ | refine ax_q (q_loadN_rptr rfl rfl (by assumption) (by decide)) ?_ | refine ax_q (q_loadN_rptr rfl rfl (mapAt (by first | assumption | omega)) (by decide)) ?_
  first | refine ax_call rfl (vc_pure0 (c_sExprOK (e := e) ?_ ?_) hP rfl rfl ?_) | refine ax_call rfl (vc_lend0 (c_sExprOK (e := e) ?_ ?_) hP (by repeat (first | exact lal_id _ rfl | exact LAL.nil | refine LAL.cons ?_ ?_ | exact la_id _ rfl | exact LA.lend (lend_whole rfl (by first | (simp; done) | (rw [List.length_map]; rfl))) | refine LA.agg ?_ | refine LA.fn ?_ | refine LA.lend ?_ | exact Lend.d _ | exact Lend.zs _ | exact lend_whole rfl (by first | (simp; done) | (rw [List.length_map]; rfl)) | refine Lend.ptr rfl ?_ | refine Lend.fn ?_ | exact LendL.nil | refine LendL.cons ?_ ?_)) rfl rfl ?_)
  · first | assumption | omega | (simp; done) | (simp; omega)
  · first | assumption | omega | (simp; done) | (simp; omega)
  refine ax_q (q_not rfl) ?_
  refine ax_q (q_mov rfl) ?_
  apply ax_or rfl rfl
  · intro g
    have g := bF g
    first | refine ax_q (q_ldN rfl rfl rfl) ?_ | refine ax_q (q_loadN_ip rfl (Nat.le_refl _)) ?_ | refine ax_q (q_loadN_ip rfl (by decide)) ?_ | refine ax_q (q_loadN_rptr rfl rfl (by assumption) (by decide)) ?_ | refine ax_q (q_loadN_rptr rfl rfl (mapAt (by first | assumption | omega)) (by decide)) ?_
    first | refine ax_call rfl (vc_pure0 (c_l07Row (a := w) ?_ ?_) hP rfl rfl ?_) | refine ax_call rfl (vc_lend0 (c_l07Row (a := w) ?_ ?_) hP (by repeat (first | exact lal_id _ rfl | exact LAL.nil | refine LAL.cons ?_ ?_ | exact la_id _ rfl | exact LA.lend (lend_whole rfl (by first | (simp; done) | (rw [List.length_map]; rfl))) | refine LA.agg ?_ | refine LA.fn ?_ | refine LA.lend ?_ | exact Lend.d _ | exact Lend.zs _ | exact lend_whole rfl (by first | (simp; done) | (rw [List.length_map]; rfl)) | refine Lend.ptr rfl ?_ | refine Lend.fn ?_ | exact LendL.nil | refine LendL.cons ?_ ?_)) rfl rfl ?_)
    · first | assumption | omega | (simp; done) | (simp; omega)
    · first | assumption | omega | (simp; done) | (simp; omega)
    refine ax_q (q_not rfl) ?_
    exact ax_nil ⟨rfl, by repeat (first | exact trivial | refine ⟨rfl, ?_⟩ | refine ⟨?_, ?_⟩)⟩
  refine ax_nil ?_
  refine cx_keep rfl rfl ?_
  refine cx_cond rfl (fun h0 => ?_) (fun h0 => ?_)
  · have h0 := (fun h => (or_T h).imp bT bT) h0
    refine cx_seq ?_
    refine cx_ops ?_
    refine ax_q (q_build rfl) ?_
    refine ax_e (e_st rfl rfl rfl rfl rfl rfl rfl) ?_
    refine ax_q (q_mov rfl) ?_
    refine ax_nil ?_
    refine cx_keep rfl rfl ?_
    refine cx_ret (ret0 rfl rfl ?_)
    exact ⟨by rw [evF_0 h0]; rfl, rfl⟩
  · have h0 := (fun h => And.intro (bF (or_F h).1) (bF (or_F h).2)) h0
    have hrr := RR.of h0.2
    obtain ⟨hz0, hz1, hz2, hz3, _⟩ := comp_hyps h0.1
    refine cx_skip ?_
    refine cx_keep rfl rfl ?_
    refine cx_seq ?_
    refine cx_ops ?_
    first | refine ax_q (q_ldN rfl rfl rfl) ?_ | refine ax_q (q_loadN_ip rfl (Nat.le_refl _)) ?_ | refine ax_q (q_loadN_ip rfl (by decide)) ?_ | refine ax_q (q_loadN_rptr rfl rfl (by assumption) (by decide)) ?_ | refine ax_q (q_loadN_rptr rfl rfl (mapAt (by first | assumption | omega)) (by decide)) ?_
    first | refine ax_q (q_fadr_ptr rfl) ?_ | refine ax_q (q_fadr_rptr rfl) ?_ | refine ax_q (q_fadr_ip rfl) ?_
    first | refine ax_q (q_load1_ptr rfl rfl rfl) ?_ | refine ax_q (q_load1_ip rfl) ?_ | refine ax_q (q_load1_rptr rfl rfl rfl rfl) ?_ | refine ax_q (q_load1_rptr rfl rfl (by assumption) rfl) ?_ | refine ax_q (q_load1_rptr rfl rfl (mapAt (by first | assumption | omega)) rfl) ?_
    first | refine ax_q (q_lenS_map rfl) ?_ | refine ax_q (q_lenS_osl rfl) ?_ | refine ax_q (q_lenS_zs rfl) ?_ | refine ax_q (q_lenS rfl) ?_
    refine ax_q (q_sub rfl rfl (by omega)) ?_
    first | refine ax_q (q_ldN rfl rfl rfl) ?_ | refine ax_q (q_loadN_ip rfl (Nat.le_refl _)) ?_ | refine ax_q (q_loadN_ip rfl (by decide)) ?_ | refine ax_q (q_loadN_rptr rfl rfl (by assumption) (by decide)) ?_ | refine ax_q (q_loadN_rptr rfl rfl (mapAt (by first | assumption | omega)) (by decide)) ?_
    first | refine ax_call rfl (vc_pure0 (c_l10Eval (e := e) (w := w) (f := e.Nodes.length + 1) ?_ ?_ ?_ ?_ ?_ ?_) hP rfl rfl ?_) | refine ax_call rfl (vc_lend0 (c_l10Eval (e := e) (w := w) (f := e.Nodes.length + 1) ?_ ?_ ?_ ?_ ?_ ?_) hP (by repeat (first | exact lal_id _ rfl | exact LAL.nil | refine LAL.cons ?_ ?_ | exact la_id _ rfl | exact LA.lend (lend_whole rfl (by first | (simp; done) | (rw [List.length_map]; rfl))) | refine LA.agg ?_ | refine LA.fn ?_ | refine LA.lend ?_ | exact Lend.d _ | exact Lend.zs _ | exact lend_whole rfl (by first | (simp; done) | (rw [List.length_map]; rfl)) | refine Lend.ptr rfl ?_ | refine Lend.fn ?_ | exact LendL.nil | refine LendL.cons ?_ ?_)) rfl rfl ?_)
    · first | assumption | omega | (simp; done) | (simp; omega)
    · first | assumption | omega | (simp; done) | (simp; omega)
    · first | assumption | omega | (simp; done) | (simp; omega)
    · first | assumption | omega | (simp; done) | (simp; omega)
    · first | assumption | omega | (simp; done) | (simp; omega)
    · first | assumption | omega | (simp; done) | (simp; omega)
    refine ax_q (q_ext rfl rfl) ?_
    refine ax_q (q_ext rfl rfl) ?_
    refine ax_e (e_st rfl rfl rfl rfl rfl rfl rfl) ?_
    refine ax_q (q_mov rfl) ?_
    refine ax_nil ?_
    refine cx_keep rfl rfl ?_
    refine cx_ret (ret0 rfl rfl ?_)
    exact ⟨by rw [evF_1 h0.1 h0.2]; rfl, rfl⟩

end Go.Proofs.Ytalnddcijlkklaa
