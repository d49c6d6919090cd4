/- The walks: what each function computes, as a contract without a world (part 0). -/
import Derived.Test.YtglpaaehiibfpaaDoorProg
import Derived.Test.YtglpaaehiibfpaaDoorR
namespace Go.Proofs.YtglpaaehiibfpaaDoor
open Go Go.AM
set_option maxRecDepth 10000
set_option linter.unusedVariables false
set_option linter.unusedSimpArgs false
/- loop.example/g00332/laws.szValue -/
def k_c_szValue : XCode :=
 .seq (.ops [.op (some 2) (.box (.t 0)),
   .op (some 4) (.mov (.k (.int .i64 0)))])
 (.keep [1, 2] (.seq (.ops [.op (some 5) (.mov (.t 1)),
   .op (some 6) (.fadr (.t 2) 2),
   .op (some 7) (.load1 (.t 6)),
   .op (some 8) (.lenT (.t 7)),
   .op (some 9) (.bin .sub (.t 5) (.t 8)),
   .op (some 1) (.mov (.t 9))])
 (.keep [1] (.seq (.seq (.ops [.op (some 10) (.mov (.t 1)),
   .op (some 11) (.bin .lss (.t 10) (.k (.int .i64 0)))])
  (.keep [1, 11] (.cond (.t 11)
  (.seq (.ops [.op (some 4) (.mov (.k (.int .i64 (-1))))])
   (.keep [4] (.ret)))
  (.skip))))
 (.keep [1] (.seq (.ops [.op (some 12) (.mov (.t 1)),
   .op (some 4) (.mov (.t 12))])
 (.keep [4] (.ret))))))))
theorem k_c_szValue_fits : fitsF Tryd.prog 40 ⟨13, k_c_szValue, [.t 4]⟩ = true := by kernel_rfl
theorem c_szValue {a : GValue} {left : Int} (h0 : 0 ≤ left) (hl : left ≤ 1048576) (hw : a.wf) : Con Tryd.prog noMv 40 [a.av, int left] [] (fun r h => r = int (szF left (GValue.sz a)) ∧ h = []) := by
 refine con_of2 k_c_szValue_fits rfl fun C hP hmv => ?_
 unfold k_c_szValue
 have sp := szF_spec left (GValue.sz a)
 have e0 : GValue.sz a = a.T.length := rfl
 rw [e0] at sp ⊢
 obtain ⟨w0, w1, w2⟩ := hw
 have w2x : a.T.length ≤ 9223372036854775807 := w2
 refine cx_seq ?_
 refine cx_ops ?_
 refine ax_e (e_box rfl rfl (by decide) rfl rfl rfl) ?_
 refine ax_q (q_mov rfl) ?_
 refine ax_nil ?_
 refine cx_keep rfl rfl ?_
 refine cx_seq ?_
 refine cx_ops ?_
 refine ax_q (q_mov rfl) ?_
 refine ax_q (q_fadr_ptr rfl) ?_
 refine ax_q (q_load1_ptr rfl rfl rfl) ?_
 refine ax_q (q_lenT rfl) ?_
 refine ax_q (q_sub rfl rfl (by omega)) ?_
 refine ax_q (q_mov rfl) ?_
 refine ax_nil ?_
 refine cx_keep rfl rfl ?_
 refine cx_seq ?_
 refine cx_seq ?_
 refine cx_ops ?_
 refine ax_q (q_mov rfl) ?_
 refine ax_q (q_ibin rfl rfl rfl) ?_
 refine ax_nil ?_
 refine cx_keep rfl rfl ?_
 refine cx_cond rfl (fun h0 => ?_) (fun h0 => ?_)
 ·
  have h0 := dT h0
  refine cx_seq ?_
  refine cx_ops ?_
  refine ax_q (q_mov rfl) ?_
  refine ax_nil ?_
  refine cx_keep rfl rfl ?_
  refine cx_ret (ret0 rfl rfl ?_)
  exact ⟨congrArg int (by omega), rfl⟩
 ·
  have h0 := dF h0
  refine cx_skip ?_
  refine cx_keep rfl rfl ?_
  refine cx_seq ?_
  refine cx_ops ?_
  refine ax_q (q_mov rfl) ?_
  refine ax_q (q_mov rfl) ?_
  refine ax_nil ?_
  refine cx_keep rfl rfl ?_
  refine cx_ret (ret0 rfl rfl ?_)
  exact ⟨congrArg int (by omega), rfl⟩


/- loop.example/g00332/laws.szExprNode -/
def k_c_szExprNode : XCode :=
 .seq (.ops [.op (some 2) (.box (.t 0)),
   .op (some 4) (.mov (.k (.int .i64 0)))])
 (.keep [1, 2] (.seq (.ops [.op (some 5) (.fadr (.t 2) 4),
   .op (some 6) (.loadN 3 (.t 5)),
   .op (some 7) (.mov (.t 1)),
   .call (some 8) 40 [.t 6, .t 7],
   .op (some 1) (.mov (.t 8))])
 (.keep [1] (.seq (.seq (.ops [.op (some 9) (.mov (.t 1)),
   .op (some 10) (.bin .lss (.t 9) (.k (.int .i64 0)))])
  (.keep [1, 10] (.cond (.t 10)
  (.seq (.ops [.op (some 4) (.mov (.k (.int .i64 (-1))))])
   (.keep [4] (.ret)))
  (.skip))))
 (.keep [1] (.seq (.ops [.op (some 11) (.mov (.t 1)),
   .op (some 4) (.mov (.t 11))])
 (.keep [4] (.ret))))))))
theorem k_c_szExprNode_fits : fitsF Tryd.prog 29 ⟨12, k_c_szExprNode, [.t 4]⟩ = true := by kernel_rfl
theorem c_szExprNode {a : GExprNode} {left : Int} (h0 : 0 ≤ left) (hl : left ≤ 1048576) (hw : a.wf) : Con Tryd.prog noMv 29 [a.av, int left] [] (fun r h => r = int (szF left (GExprNode.sz a)) ∧ h = []) := by
 refine con_of2 k_c_szExprNode_fits rfl fun C hP hmv => ?_
 unfold k_c_szExprNode
 have sp := szF_spec left (GExprNode.sz a)
 have e0 : GExprNode.sz a = GValue.sz a.V := rfl
 rw [e0] at sp ⊢
 obtain ⟨w0, w1, w2, w3, w4⟩ := hw
 refine cx_seq ?_
 refine cx_ops ?_
 refine ax_e (e_box rfl rfl (by decide) rfl rfl rfl) ?_
 refine ax_q (q_mov rfl) ?_
 refine ax_nil ?_
 refine cx_keep rfl rfl ?_
 refine cx_seq ?_
 refine cx_ops ?_
 refine ax_q (q_fadr_ptr rfl) ?_
 refine ax_q (q_ldN rfl rfl rfl) ?_
 refine ax_q (q_mov rfl) ?_
 have q0 := szF_spec left (GValue.sz a.V)
 first | refine ax_call rfl (vc_pure0 (c_szValue  ?_ ?_ ?_) hP rfl rfl ?_) | refine ax_call rfl (vc_lend0 (c_szValue  ?_ ?_ ?_) hP (by repeat (first | exact lal_id _ rfl | exact LAL.nil | refine LAL.cons ?_ ?_ | exact la_id _ rfl | exact LA.lend (lend_whole rfl (by first | (simp; done) | (rw [List.length_map]; rfl))) | refine LA.agg ?_ | refine LA.fn ?_ | refine LA.lend ?_ | exact Lend.d _ | exact Lend.zs _ | exact lend_whole rfl (by first | (simp; done) | (rw [List.length_map]; rfl)) | refine Lend.ptr rfl ?_ | refine Lend.fn ?_ | exact LendL.nil | refine LendL.cons ?_ ?_)) rfl rfl ?_)
 ·
  first | assumption | omega | (simp; done) | (simp; omega)
 ·
  first | assumption | omega | (simp; done) | (simp; omega)
 ·
  first | assumption | omega | (simp; done) | (simp; omega)
 refine ax_q (q_mov rfl) ?_
 refine ax_nil ?_
 refine cx_keep rfl rfl ?_
 refine cx_seq ?_
 refine cx_seq ?_
 refine cx_ops ?_
 refine ax_q (q_mov rfl) ?_
 refine ax_q (q_ibin rfl rfl rfl) ?_
 refine ax_nil ?_
 refine cx_keep rfl rfl ?_
 refine cx_cond rfl (fun h0 => ?_) (fun h0 => ?_)
 ·
  have h0 := dT h0
  refine cx_seq ?_
  refine cx_ops ?_
  refine ax_q (q_mov rfl) ?_
  refine ax_nil ?_
  refine cx_keep rfl rfl ?_
  refine cx_ret (ret0 rfl rfl ?_)
  exact ⟨congrArg int (by omega), rfl⟩
 ·
  have h0 := dF h0
  refine cx_skip ?_
  refine cx_keep rfl rfl ?_
  refine cx_seq ?_
  refine cx_ops ?_
  refine ax_q (q_mov rfl) ?_
  refine ax_q (q_mov rfl) ?_
  refine ax_nil ?_
  refine cx_keep rfl rfl ?_
  refine cx_ret (ret0 rfl rfl ?_)
  exact ⟨congrArg int (by omega), rfl⟩


/- loop.example/g00332/laws.szExprNodeS -/
def k_c_szExprNodeS : XCode :=
 .seq (.ops [.op (some 4) (.mov (.k (.int .i64 0)))])
 (.keep [0, 1] (.seq (.ops [.op (some 6) (.mov (.t 1)),
   .op (some 7) (.mov (.t 0)),
   .op (some 8) (.lenS (.t 7)),
   .op (some 9) (.bin .sub (.t 6) (.t 8)),
   .op (some 1) (.mov (.t 9))])
 (.keep [0, 1] (.seq (.seq (.ops [.op (some 10) (.mov (.t 1)),
   .op (some 11) (.bin .lss (.t 10) (.k (.int .i64 0)))])
  (.keep [0, 1, 11] (.cond (.t 11)
  (.seq (.ops [.op (some 4) (.mov (.k (.int .i64 (-1))))])
   (.keep [4] (.ret)))
  (.skip))))
 (.keep [0, 1] (.seq (.seq (.ops [.op (some 5) (.mov (.k (.int .i64 0)))])
  (.keep [0, 1, 5] (.block 0 (.loop (.seq (.seq (.ops [.op (some 12) (.mov (.t 5)),
     .op (some 13) (.mov (.t 0)),
     .op (some 14) (.lenS (.t 13)),
     .op (some 15) (.bin .lss (.t 12) (.t 14))])
   (.keep [0, 1, 5, 15] (.cond (.t 15)
    (.skip)
    (.exit 0))))
   (.keep [0, 1, 5] (.seq (.block 1 (.seq (.ops [.op (some 18) (.mov (.t 0)),
     .op (some 19) (.mov (.t 5)),
     .op (some 20) (.iadr 7 (.t 18) (.t 19)),
     .op (some 21) (.loadN 7 (.t 20)),
     .op (some 22) (.mov (.t 1)),
     .call (some 23) 29 [.t 21, .t 22],
     .op (some 1) (.mov (.t 23))])
    (.keep [0, 1, 5] (.seq (.ops [.op (some 24) (.mov (.t 1)),
     .op (some 25) (.bin .lss (.t 24) (.k (.int .i64 0)))])
    (.keep [0, 1, 5, 25] (.cond (.t 25)
    (.seq (.ops [.op (some 4) (.mov (.k (.int .i64 (-1))))])
     (.keep [4] (.ret)))
    (.skip)))))))
   (.keep [0, 1, 5] (.ops [.op (some 16) (.mov (.t 5)),
    .op (some 17) (.bin .add (.t 16) (.k (.int .i64 1))),
    .op (some 5) (.mov (.t 17))])))))))))
 (.keep [1] (.seq (.ops [.op (some 26) (.mov (.t 1)),
   .op (some 4) (.mov (.t 26))])
 (.keep [4] (.ret))))))))))
theorem k_c_szExprNodeS_fits : fitsF Tryd.prog 15 ⟨27, k_c_szExprNodeS, [.t 4]⟩ = true := by kernel_rfl
theorem c_szExprNodeS {xs : List GExprNode} {left : Int} (h0 : 0 ≤ left) (hl : left ≤ 1048576) (hw : wfL GExprNode.wf xs) : Con Tryd.prog noMv 15 [.d (.sl 7 (xs.map GExprNode.row)), int left] [] (fun r h => r = int (szF left (szL GExprNode.sz xs)) ∧ h = []) := by
 refine con_of2 k_c_szExprNodeS_fits rfl fun C hP hmv => ?_
 unfold k_c_szExprNodeS
 have hw1 := hw.1; have hw2 := hw.2
 have sp := szF_spec left (szL GExprNode.sz xs)
 refine cx_seq ?_
 refine cx_ops ?_
 refine ax_q (q_mov rfl) ?_
 refine ax_nil ?_
 refine cx_keep rfl rfl ?_
 refine cx_seq ?_
 refine cx_ops ?_
 refine ax_q (q_mov rfl) ?_
 refine ax_q (q_mov rfl) ?_
 first | refine ax_q (q_lenS_map rfl) ?_ | refine ax_q (q_lenS_osl rfl) ?_ | refine ax_q (q_lenS_zs rfl) ?_ | refine ax_q (q_lenS rfl) ?_
 refine ax_q (q_sub rfl rfl (by omega)) ?_
 refine ax_q (q_mov rfl) ?_
 refine ax_nil ?_
 refine cx_keep rfl rfl ?_
 refine cx_seq ?_
 refine cx_seq ?_
 refine cx_ops ?_
 refine ax_q (q_mov rfl) ?_
 refine ax_q (q_ibin rfl rfl rfl) ?_
 refine ax_nil ?_
 refine cx_keep rfl rfl ?_
 refine cx_cond rfl (fun h0 => ?_) (fun h0 => ?_)
 ·
  have h0 := dT h0
  refine cx_seq ?_
  refine cx_ops ?_
  refine ax_q (q_mov rfl) ?_
  refine ax_nil ?_
  refine cx_keep rfl rfl ?_
  refine cx_ret (ret0 rfl rfl ?_)
  exact ⟨congrArg int (by unfold szL at sp ⊢; omega), rfl⟩
 ·
  have h0 := dF h0
  refine cx_skip ?_
  refine cx_keep rfl rfl ?_
  refine cx_seq ?_
  refine cx_seq ?_
  refine cx_ops ?_
  refine ax_q (q_mov rfl) ?_
  refine ax_nil ?_
  refine cx_keep rfl rfl ?_
  refine cx_block ?_
  refine cx_loopU (fun n k => k ≤ xs.length ∧ n = xs.length - k ∧ 0 ≤ left - xs.length - sumBy GExprNode.sz (xs.take k)) (fun k : Nat => [(1, int (left - xs.length - sumBy GExprNode.sz (xs.take k))), (5, int k)]) (fun _ => [])
   ⟨_, 0, ⟨Nat.zero_le _, rfl, by simp [sumBy]; omega⟩, ⟨⟨rfl, congrArg (fun n => some (int n)) (by simp only [List.take_zero, sumBy]; omega), rfl, trivial⟩, trivial⟩⟩ ?_
  rintro n k ⟨hk, rfl, hs⟩
  refine cx_seq ?_
  refine cx_seq ?_
  refine cx_ops ?_
  refine ax_q (q_mov rfl) ?_
  refine ax_q (q_mov rfl) ?_
  first | refine ax_q (q_lenS_map rfl) ?_ | refine ax_q (q_lenS_osl rfl) ?_ | refine ax_q (q_lenS_zs rfl) ?_ | refine ax_q (q_lenS rfl) ?_
  refine ax_q (q_ibin rfl rfl rfl) ?_
  refine ax_nil ?_
  refine cx_keep rfl rfl ?_
  refine cx_cond rfl (fun h1 => ?_) (fun h1 => ?_)
  ·
   have h1 := dT h1
   have h1x : k < xs.length := by omega
   have hst := sumBy_take (f := GExprNode.sz) h1x
   have hsl := sumBy_le (f := GExprNode.sz) xs (k + 1)
   have hwk := hw2 _ (List.getElem_mem h1x)
   refine cx_skip ?_
   refine cx_keep rfl rfl ?_
   refine cx_seq ?_
   refine cx_block ?_
   refine cx_seq ?_
   refine cx_ops ?_
   refine ax_q (q_mov rfl) ?_
   refine ax_q (q_mov rfl) ?_
   refine ax_q (q_ix rfl rfl (mapAt h1x)) ?_
   first | refine ax_q (q_ldN rfl rfl rfl) ?_ | refine ax_q (q_loadN_ip rfl (Nat.le_refl _)) ?_ | refine ax_q (q_loadN_ip rfl (by decide)) ?_ | refine ax_q (q_loadN_rptr rfl rfl (by assumption) (by decide)) ?_ | refine ax_q (q_loadN_rptr rfl rfl (mapAt (by first | assumption | omega)) (by decide)) ?_
   refine ax_q (q_mov rfl) ?_
   have spk := szF_spec (left - xs.length - sumBy GExprNode.sz (xs.take k)) (GExprNode.sz xs[k])
   first | refine ax_call rfl (vc_pure0 (c_szExprNode  ?_ ?_ ?_) hP rfl rfl ?_) | refine ax_call rfl (vc_lend0 (c_szExprNode  ?_ ?_ ?_) hP (by repeat (first | exact lal_id _ rfl | exact LAL.nil | refine LAL.cons ?_ ?_ | exact la_id _ rfl | exact LA.lend (lend_whole rfl (by first | (simp; done) | (rw [List.length_map]; rfl))) | refine LA.agg ?_ | refine LA.fn ?_ | refine LA.lend ?_ | exact Lend.d _ | exact Lend.zs _ | exact lend_whole rfl (by first | (simp; done) | (rw [List.length_map]; rfl)) | refine Lend.ptr rfl ?_ | refine Lend.fn ?_ | exact LendL.nil | refine LendL.cons ?_ ?_)) rfl rfl ?_)
   ·
    first | assumption | omega | (simp; done) | (simp; omega)
   ·
    first | assumption | omega | (simp; done) | (simp; omega)
   ·
    first | assumption | omega | (simp; done) | (simp; omega)
   refine ax_q (q_mov rfl) ?_
   refine ax_nil ?_
   refine cx_keep rfl rfl ?_
   refine cx_seq ?_
   refine cx_ops ?_
   refine ax_q (q_mov rfl) ?_
   refine ax_q (q_ibin rfl rfl rfl) ?_
   refine ax_nil ?_
   refine cx_keep rfl rfl ?_
   refine cx_cond rfl (fun h2 => ?_) (fun h2 => ?_)
   ·
    have h2 := dT h2
    refine cx_seq ?_
    refine cx_ops ?_
    refine ax_q (q_mov rfl) ?_
    refine ax_nil ?_
    refine cx_keep rfl rfl ?_
    refine cx_ret (ret0 rfl rfl ?_)
    exact ⟨congrArg int (by unfold szL at sp ⊢; omega), rfl⟩
   ·
    have h2 := dF h2
    have e9 : szF (left - xs.length - sumBy GExprNode.sz (xs.take k)) (GExprNode.sz xs[k]) = left - xs.length - sumBy GExprNode.sz (xs.take (k + 1)) := by omega
    refine cx_skip ?_
    refine cx_keep rfl rfl ?_
    refine cx_ops ?_
    refine ax_q (q_mov rfl) ?_
    refine ax_q (q_add rfl rfl (by omega)) ?_
    refine ax_q (q_mov rfl) ?_
    refine ax_nil ?_
    refine ⟨_, k + 1, by omega, ⟨by omega, rfl, by omega⟩, ?_⟩
    rw [e9]
    exact by repeat (first | exact trivial | refine ⟨rfl, ?_⟩ | refine ⟨?_, ?_⟩)
  ·
   have h1 := dF h1
   refine cx_exit rfl ?_
   refine cx_keep rfl rfl ?_
   refine cx_seq ?_
   refine cx_ops ?_
   refine ax_q (q_mov rfl) ?_
   refine ax_q (q_mov rfl) ?_
   refine ax_nil ?_
   refine cx_keep rfl rfl ?_
   refine cx_ret (ret0 rfl rfl ?_)
   have hk2 : k = xs.length := by omega
   subst hk2; rw [List.take_length] at hs ⊢
   exact ⟨congrArg int (by unfold szL at sp ⊢; omega), rfl⟩


/- loop.example/g00332/laws.szExpr -/
def k_c_szExpr : XCode :=
 .seq (.ops [.op (some 2) (.box (.t 0)),
   .op (some 4) (.mov (.k (.int .i64 0)))])
 (.keep [1, 2] (.seq (.ops [.op (some 5) (.fadr (.t 2) 0),
   .op (some 6) (.load1 (.t 5)),
   .op (some 7) (.mov (.t 1)),
   .call (some 8) 15 [.t 6, .t 7],
   .op (some 1) (.mov (.t 8))])
 (.keep [1] (.seq (.seq (.ops [.op (some 9) (.mov (.t 1)),
   .op (some 10) (.bin .lss (.t 9) (.k (.int .i64 0)))])
  (.keep [1, 10] (.cond (.t 10)
  (.seq (.ops [.op (some 4) (.mov (.k (.int .i64 (-1))))])
   (.keep [4] (.ret)))
  (.skip))))
 (.keep [1] (.seq (.ops [.op (some 11) (.mov (.t 1)),
   .op (some 4) (.mov (.t 11))])
 (.keep [4] (.ret))))))))
theorem k_c_szExpr_fits : fitsF Tryd.prog 5 ⟨12, k_c_szExpr, [.t 4]⟩ = true := by kernel_rfl
theorem c_szExpr {a : GExpr} {left : Int} (h0 : 0 ≤ left) (hl : left ≤ 1048576) (hw : a.wf) : Con Tryd.prog noMv 5 [a.av, int left] [] (fun r h => r = int (szF left (GExpr.sz a)) ∧ h = []) := by
 refine con_of2 k_c_szExpr_fits rfl fun C hP hmv => ?_
 unfold k_c_szExpr
 have sp := szF_spec left (GExpr.sz a)
 have e0 : GExpr.sz a = szL GExprNode.sz a.Nodes := rfl
 rw [e0] at sp ⊢
 have w0 := hw
 refine cx_seq ?_
 refine cx_ops ?_
 refine ax_e (e_box rfl rfl (by decide) rfl rfl rfl) ?_
 refine ax_q (q_mov rfl) ?_
 refine ax_nil ?_
 refine cx_keep rfl rfl ?_
 refine cx_seq ?_
 refine cx_ops ?_
 refine ax_q (q_fadr_ptr rfl) ?_
 refine ax_q (q_load1_ptr rfl rfl rfl) ?_
 refine ax_q (q_mov rfl) ?_
 have q0 := szF_spec left (szL GExprNode.sz a.Nodes)
 first | refine ax_call rfl (vc_pure0 (c_szExprNodeS  ?_ ?_ ?_) hP rfl rfl ?_) | refine ax_call rfl (vc_lend0 (c_szExprNodeS  ?_ ?_ ?_) hP (by repeat (first | exact lal_id _ rfl | exact LAL.nil | refine LAL.cons ?_ ?_ | exact la_id _ rfl | exact LA.lend (lend_whole rfl (by first | (simp; done) | (rw [List.length_map]; rfl))) | refine LA.agg ?_ | refine LA.fn ?_ | refine LA.lend ?_ | exact Lend.d _ | exact Lend.zs _ | exact lend_whole rfl (by first | (simp; done) | (rw [List.length_map]; rfl)) | refine Lend.ptr rfl ?_ | refine Lend.fn ?_ | exact LendL.nil | refine LendL.cons ?_ ?_)) rfl rfl ?_)
 ·
  first | assumption | omega | (simp; done) | (simp; omega)
 ·
  first | assumption | omega | (simp; done) | (simp; omega)
 ·
  first | assumption | omega | (simp; done) | (simp; omega)
 refine ax_q (q_mov rfl) ?_
 refine ax_nil ?_
 refine cx_keep rfl rfl ?_
 refine cx_seq ?_
 refine cx_seq ?_
 refine cx_ops ?_
 refine ax_q (q_mov rfl) ?_
 refine ax_q (q_ibin rfl rfl rfl) ?_
 refine ax_nil ?_
 refine cx_keep rfl rfl ?_
 refine cx_cond rfl (fun h0 => ?_) (fun h0 => ?_)
 ·
  have h0 := dT h0
  refine cx_seq ?_
  refine cx_ops ?_
  refine ax_q (q_mov rfl) ?_
  refine ax_nil ?_
  refine cx_keep rfl rfl ?_
  refine cx_ret (ret0 rfl rfl ?_)
  exact ⟨congrArg int (by omega), rfl⟩
 ·
  have h0 := dF h0
  refine cx_skip ?_
  refine cx_keep rfl rfl ?_
  refine cx_seq ?_
  refine cx_ops ?_
  refine ax_q (q_mov rfl) ?_
  refine ax_q (q_mov rfl) ?_
  refine ax_nil ?_
  refine cx_keep rfl rfl ?_
  refine cx_ret (ret0 rfl rfl ?_)
  exact ⟨congrArg int (by omega), rfl⟩


/- loop.example/g00332/laws.szRow -/
def k_c_szRow : XCode :=
 .seq (.ops [.op (some 2) (.box (.t 0)),
   .op (some 4) (.mov (.k (.int .i64 0)))])
 (.keep [1, 2] (.seq (.ops [.op (some 5) (.fadr (.t 2) 1),
   .op (some 6) (.loadN 3 (.t 5)),
   .op (some 7) (.mov (.t 1)),
   .call (some 8) 40 [.t 6, .t 7],
   .op (some 1) (.mov (.t 8))])
 (.keep [1, 2] (.seq (.seq (.ops [.op (some 9) (.mov (.t 1)),
   .op (some 10) (.bin .lss (.t 9) (.k (.int .i64 0)))])
  (.keep [1, 2, 10] (.cond (.t 10)
  (.seq (.ops [.op (some 4) (.mov (.k (.int .i64 (-1))))])
   (.keep [4] (.ret)))
  (.skip))))
 (.keep [1, 2] (.seq (.ops [.op (some 11) (.fadr (.t 2) 4),
   .op (some 12) (.loadN 3 (.t 11)),
   .op (some 13) (.mov (.t 1)),
   .call (some 14) 40 [.t 12, .t 13],
   .op (some 1) (.mov (.t 14))])
 (.keep [1] (.seq (.seq (.ops [.op (some 15) (.mov (.t 1)),
   .op (some 16) (.bin .lss (.t 15) (.k (.int .i64 0)))])
  (.keep [1, 16] (.cond (.t 16)
  (.seq (.ops [.op (some 4) (.mov (.k (.int .i64 (-1))))])
   (.keep [4] (.ret)))
  (.skip))))
 (.keep [1] (.seq (.ops [.op (some 17) (.mov (.t 1)),
   .op (some 4) (.mov (.t 17))])
 (.keep [4] (.ret))))))))))))
theorem k_c_szRow_fits : fitsF Tryd.prog 22 ⟨18, k_c_szRow, [.t 4]⟩ = true := by kernel_rfl
theorem c_szRow {a : GRow} {left : Int} (h0 : 0 ≤ left) (hl : left ≤ 1048576) (hw : a.wf) : Con Tryd.prog noMv 22 [a.av, int left] [] (fun r h => r = int (szF left (GRow.sz a)) ∧ h = []) := by
 refine con_of2 k_c_szRow_fits rfl fun C hP hmv => ?_
 unfold k_c_szRow
 have sp := szF_spec left (GRow.sz a)
 have e0 : GRow.sz a = GValue.sz a.N + GValue.sz a.Name := rfl
 rw [e0] at sp ⊢
 obtain ⟨w0, w1, w2⟩ := hw
 refine cx_seq ?_
 refine cx_ops ?_
 refine ax_e (e_box rfl rfl (by decide) rfl rfl rfl) ?_
 refine ax_q (q_mov rfl) ?_
 refine ax_nil ?_
 refine cx_keep rfl rfl ?_
 refine cx_seq ?_
 refine cx_ops ?_
 refine ax_q (q_fadr_ptr rfl) ?_
 refine ax_q (q_ldN rfl rfl rfl) ?_
 refine ax_q (q_mov rfl) ?_
 have q0 := szF_spec left (GValue.sz a.N)
 first | refine ax_call rfl (vc_pure0 (c_szValue  ?_ ?_ ?_) hP rfl rfl ?_) | refine ax_call rfl (vc_lend0 (c_szValue  ?_ ?_ ?_) hP (by repeat (first | exact lal_id _ rfl | exact LAL.nil | refine LAL.cons ?_ ?_ | exact la_id _ rfl | exact LA.lend (lend_whole rfl (by first | (simp; done) | (rw [List.length_map]; rfl))) | refine LA.agg ?_ | refine LA.fn ?_ | refine LA.lend ?_ | exact Lend.d _ | exact Lend.zs _ | exact lend_whole rfl (by first | (simp; done) | (rw [List.length_map]; rfl)) | refine Lend.ptr rfl ?_ | refine Lend.fn ?_ | exact LendL.nil | refine LendL.cons ?_ ?_)) rfl rfl ?_)
 ·
  first | assumption | omega | (simp; done) | (simp; omega)
 ·
  first | assumption | omega | (simp; done) | (simp; omega)
 ·
  first | assumption | omega | (simp; done) | (simp; omega)
 refine ax_q (q_mov rfl) ?_
 refine ax_nil ?_
 refine cx_keep rfl rfl ?_
 refine cx_seq ?_
 refine cx_seq ?_
 refine cx_ops ?_
 refine ax_q (q_mov rfl) ?_
 refine ax_q (q_ibin rfl rfl rfl) ?_
 refine ax_nil ?_
 refine cx_keep rfl rfl ?_
 refine cx_cond rfl (fun h0 => ?_) (fun h0 => ?_)
 ·
  have h0 := dT h0
  refine cx_seq ?_
  refine cx_ops ?_
  refine ax_q (q_mov rfl) ?_
  refine ax_nil ?_
  refine cx_keep rfl rfl ?_
  refine cx_ret (ret0 rfl rfl ?_)
  exact ⟨congrArg int (by omega), rfl⟩
 ·
  have h0 := dF h0
  refine cx_skip ?_
  refine cx_keep rfl rfl ?_
  refine cx_seq ?_
  refine cx_ops ?_
  refine ax_q (q_fadr_ptr rfl) ?_
  refine ax_q (q_ldN rfl rfl rfl) ?_
  refine ax_q (q_mov rfl) ?_
  have q1 := szF_spec (szF left (GValue.sz a.N)) (GValue.sz a.Name)
  first | refine ax_call rfl (vc_pure0 (c_szValue  ?_ ?_ ?_) hP rfl rfl ?_) | refine ax_call rfl (vc_lend0 (c_szValue  ?_ ?_ ?_) hP (by repeat (first | exact lal_id _ rfl | exact LAL.nil | refine LAL.cons ?_ ?_ | exact la_id _ rfl | exact LA.lend (lend_whole rfl (by first | (simp; done) | (rw [List.length_map]; rfl))) | refine LA.agg ?_ | refine LA.fn ?_ | refine LA.lend ?_ | exact Lend.d _ | exact Lend.zs _ | exact lend_whole rfl (by first | (simp; done) | (rw [List.length_map]; rfl)) | refine Lend.ptr rfl ?_ | refine Lend.fn ?_ | exact LendL.nil | refine LendL.cons ?_ ?_)) rfl rfl ?_)
  ·
   first | assumption | omega | (simp; done) | (simp; omega)
  ·
   first | assumption | omega | (simp; done) | (simp; omega)
  ·
   first | assumption | omega | (simp; done) | (simp; omega)
  refine ax_q (q_mov rfl) ?_
  refine ax_nil ?_
  refine cx_keep rfl rfl ?_
  refine cx_seq ?_
  refine cx_seq ?_
  refine cx_ops ?_
  refine ax_q (q_mov rfl) ?_
  refine ax_q (q_ibin rfl rfl rfl) ?_
  refine ax_nil ?_
  refine cx_keep rfl rfl ?_
  refine cx_cond rfl (fun h1 => ?_) (fun h1 => ?_)
  ·
   have h1 := dT h1
   refine cx_seq ?_
   refine cx_ops ?_
   refine ax_q (q_mov rfl) ?_
   refine ax_nil ?_
   refine cx_keep rfl rfl ?_
   refine cx_ret (ret0 rfl rfl ?_)
   exact ⟨congrArg int (by omega), rfl⟩
  ·
   have h1 := dF h1
   refine cx_skip ?_
   refine cx_keep rfl rfl ?_
   refine cx_seq ?_
   refine cx_ops ?_
   refine ax_q (q_mov rfl) ?_
   refine ax_q (q_mov rfl) ?_
   refine ax_nil ?_
   refine cx_keep rfl rfl ?_
   refine cx_ret (ret0 rfl rfl ?_)
   exact ⟨congrArg int (by omega), rfl⟩


/- loop.example/g00332/laws.szStmt -/
def k_c_szStmt : XCode :=
 .seq (.ops [.op (some 2) (.box (.t 0)),
   .op (some 4) (.mov (.k (.int .i64 0)))])
 (.keep [1, 2] (.seq (.ops [.op (some 5) (.fadr (.t 2) 2),
   .op (some 6) (.loadN 7 (.t 5)),
   .op (some 7) (.mov (.t 1)),
   .call (some 8) 22 [.t 6, .t 7],
   .op (some 1) (.mov (.t 8))])
 (.keep [1, 2] (.seq (.seq (.ops [.op (some 9) (.mov (.t 1)),
   .op (some 10) (.bin .lss (.t 9) (.k (.int .i64 0)))])
  (.keep [1, 2, 10] (.cond (.t 10)
  (.seq (.ops [.op (some 4) (.mov (.k (.int .i64 (-1))))])
   (.keep [4] (.ret)))
  (.skip))))
 (.keep [1, 2] (.seq (.ops [.op (some 11) (.fadr (.t 2) 10),
   .op (some 12) (.loadN 1 (.t 11)),
   .op (some 13) (.mov (.t 1)),
   .call (some 14) 5 [.t 12, .t 13],
   .op (some 1) (.mov (.t 14))])
 (.keep [1, 2] (.seq (.seq (.ops [.op (some 15) (.mov (.t 1)),
   .op (some 16) (.bin .lss (.t 15) (.k (.int .i64 0)))])
  (.keep [1, 2, 16] (.cond (.t 16)
  (.seq (.ops [.op (some 4) (.mov (.k (.int .i64 (-1))))])
   (.keep [4] (.ret)))
  (.skip))))
 (.keep [1, 2] (.seq (.ops [.op (some 17) (.fadr (.t 2) 11),
   .op (some 18) (.loadN 1 (.t 17)),
   .op (some 19) (.mov (.t 1)),
   .call (some 20) 5 [.t 18, .t 19],
   .op (some 1) (.mov (.t 20))])
 (.keep [1] (.seq (.seq (.ops [.op (some 21) (.mov (.t 1)),
   .op (some 22) (.bin .lss (.t 21) (.k (.int .i64 0)))])
  (.keep [1, 22] (.cond (.t 22)
  (.seq (.ops [.op (some 4) (.mov (.k (.int .i64 (-1))))])
   (.keep [4] (.ret)))
  (.skip))))
 (.keep [1] (.seq (.ops [.op (some 23) (.mov (.t 1)),
   .op (some 4) (.mov (.t 23))])
 (.keep [4] (.ret))))))))))))))))
theorem k_c_szStmt_fits : fitsF Tryd.prog 10 ⟨24, k_c_szStmt, [.t 4]⟩ = true := by kernel_rfl
theorem c_szStmt {a : GStmt} {left : Int} (h0 : 0 ≤ left) (hl : left ≤ 1048576) (hw : a.wf) : Con Tryd.prog noMv 10 [a.av, int left] [] (fun r h => r = int (szF left (GStmt.sz a)) ∧ h = []) := by
 refine con_of2 k_c_szStmt_fits rfl fun C hP hmv => ?_
 unfold k_c_szStmt
 have sp := szF_spec left (GStmt.sz a)
 have e0 : GStmt.sz a = GRow.sz a.Row + GExpr.sz a.Set + GExpr.sz a.Where := rfl
 rw [e0] at sp ⊢
 obtain ⟨w0, w1, w2, w3, w4, w5, w6, w7⟩ := hw
 refine cx_seq ?_
 refine cx_ops ?_
 refine ax_e (e_box rfl rfl (by decide) rfl rfl rfl) ?_
 refine ax_q (q_mov rfl) ?_
 refine ax_nil ?_
 refine cx_keep rfl rfl ?_
 refine cx_seq ?_
 refine cx_ops ?_
 refine ax_q (q_fadr_ptr rfl) ?_
 refine ax_q (q_ldN rfl rfl rfl) ?_
 refine ax_q (q_mov rfl) ?_
 have q0 := szF_spec left (GRow.sz a.Row)
 first | refine ax_call rfl (vc_pure0 (c_szRow  ?_ ?_ ?_) hP rfl rfl ?_) | refine ax_call rfl (vc_lend0 (c_szRow  ?_ ?_ ?_) hP (by repeat (first | exact lal_id _ rfl | exact LAL.nil | refine LAL.cons ?_ ?_ | exact la_id _ rfl | exact LA.lend (lend_whole rfl (by first | (simp; done) | (rw [List.length_map]; rfl))) | refine LA.agg ?_ | refine LA.fn ?_ | refine LA.lend ?_ | exact Lend.d _ | exact Lend.zs _ | exact lend_whole rfl (by first | (simp; done) | (rw [List.length_map]; rfl)) | refine Lend.ptr rfl ?_ | refine Lend.fn ?_ | exact LendL.nil | refine LendL.cons ?_ ?_)) rfl rfl ?_)
 ·
  first | assumption | omega | (simp; done) | (simp; omega)
 ·
  first | assumption | omega | (simp; done) | (simp; omega)
 ·
  first | assumption | omega | (simp; done) | (simp; omega)
 refine ax_q (q_mov rfl) ?_
 refine ax_nil ?_
 refine cx_keep rfl rfl ?_
 refine cx_seq ?_
 refine cx_seq ?_
 refine cx_ops ?_
 refine ax_q (q_mov rfl) ?_
 refine ax_q (q_ibin rfl rfl rfl) ?_
 refine ax_nil ?_
 refine cx_keep rfl rfl ?_
 refine cx_cond rfl (fun h0 => ?_) (fun h0 => ?_)
 ·
  have h0 := dT h0
  refine cx_seq ?_
  refine cx_ops ?_
  refine ax_q (q_mov rfl) ?_
  refine ax_nil ?_
  refine cx_keep rfl rfl ?_
  refine cx_ret (ret0 rfl rfl ?_)
  exact ⟨congrArg int (by omega), rfl⟩
 ·
  have h0 := dF h0
  refine cx_skip ?_
  refine cx_keep rfl rfl ?_
  refine cx_seq ?_
  refine cx_ops ?_
  refine ax_q (q_fadr_ptr rfl) ?_
  refine ax_q (q_ldN rfl rfl rfl) ?_
  refine ax_q (q_mov rfl) ?_
  have q1 := szF_spec (szF left (GRow.sz a.Row)) (GExpr.sz a.Set)
  first | refine ax_call rfl (vc_pure0 (c_szExpr  ?_ ?_ ?_) hP rfl rfl ?_) | refine ax_call rfl (vc_lend0 (c_szExpr  ?_ ?_ ?_) hP (by repeat (first | exact lal_id _ rfl | exact LAL.nil | refine LAL.cons ?_ ?_ | exact la_id _ rfl | exact LA.lend (lend_whole rfl (by first | (simp; done) | (rw [List.length_map]; rfl))) | refine LA.agg ?_ | refine LA.fn ?_ | refine LA.lend ?_ | exact Lend.d _ | exact Lend.zs _ | exact lend_whole rfl (by first | (simp; done) | (rw [List.length_map]; rfl)) | refine Lend.ptr rfl ?_ | refine Lend.fn ?_ | exact LendL.nil | refine LendL.cons ?_ ?_)) rfl rfl ?_)
  ·
   first | assumption | omega | (simp; done) | (simp; omega)
  ·
   first | assumption | omega | (simp; done) | (simp; omega)
  ·
   first | assumption | omega | (simp; done) | (simp; omega)
  refine ax_q (q_mov rfl) ?_
  refine ax_nil ?_
  refine cx_keep rfl rfl ?_
  refine cx_seq ?_
  refine cx_seq ?_
  refine cx_ops ?_
  refine ax_q (q_mov rfl) ?_
  refine ax_q (q_ibin rfl rfl rfl) ?_
  refine ax_nil ?_
  refine cx_keep rfl rfl ?_
  refine cx_cond rfl (fun h1 => ?_) (fun h1 => ?_)
  ·
   have h1 := dT h1
   refine cx_seq ?_
   refine cx_ops ?_
   refine ax_q (q_mov rfl) ?_
   refine ax_nil ?_
   refine cx_keep rfl rfl ?_
   refine cx_ret (ret0 rfl rfl ?_)
   exact ⟨congrArg int (by omega), rfl⟩
  ·
   have h1 := dF h1
   refine cx_skip ?_
   refine cx_keep rfl rfl ?_
   refine cx_seq ?_
   refine cx_ops ?_
   refine ax_q (q_fadr_ptr rfl) ?_
   refine ax_q (q_ldN rfl rfl rfl) ?_
   refine ax_q (q_mov rfl) ?_
   have q2 := szF_spec (szF (szF left (GRow.sz a.Row)) (GExpr.sz a.Set)) (GExpr.sz a.Where)
   first | refine ax_call rfl (vc_pure0 (c_szExpr  ?_ ?_ ?_) hP rfl rfl ?_) | refine ax_call rfl (vc_lend0 (c_szExpr  ?_ ?_ ?_) hP (by repeat (first | exact lal_id _ rfl | exact LAL.nil | refine LAL.cons ?_ ?_ | exact la_id _ rfl | exact LA.lend (lend_whole rfl (by first | (simp; done) | (rw [List.length_map]; rfl))) | refine LA.agg ?_ | refine LA.fn ?_ | refine LA.lend ?_ | exact Lend.d _ | exact Lend.zs _ | exact lend_whole rfl (by first | (simp; done) | (rw [List.length_map]; rfl)) | refine Lend.ptr rfl ?_ | refine Lend.fn ?_ | exact LendL.nil | refine LendL.cons ?_ ?_)) rfl rfl ?_)
   ·
    first | assumption | omega | (simp; done) | (simp; omega)
   ·
    first | assumption | omega | (simp; done) | (simp; omega)
   ·
    first | assumption | omega | (simp; done) | (simp; omega)
   refine ax_q (q_mov rfl) ?_
   refine ax_nil ?_
   refine cx_keep rfl rfl ?_
   refine cx_seq ?_
   refine cx_seq ?_
   refine cx_ops ?_
   refine ax_q (q_mov rfl) ?_
   refine ax_q (q_ibin rfl rfl rfl) ?_
   refine ax_nil ?_
   refine cx_keep rfl rfl ?_
   refine cx_cond rfl (fun h2 => ?_) (fun h2 => ?_)
   ·
    have h2 := dT h2
    refine cx_seq ?_
    refine cx_ops ?_
    refine ax_q (q_mov rfl) ?_
    refine ax_nil ?_
    refine cx_keep rfl rfl ?_
    refine cx_ret (ret0 rfl rfl ?_)
    exact ⟨congrArg int (by omega), rfl⟩
   ·
    have h2 := dF h2
    refine cx_skip ?_
    refine cx_keep rfl rfl ?_
    refine cx_seq ?_
    refine cx_ops ?_
    refine ax_q (q_mov rfl) ?_
    refine ax_q (q_mov rfl) ?_
    refine ax_nil ?_
    refine cx_keep rfl rfl ?_
    refine cx_ret (ret0 rfl rfl ?_)
    exact ⟨congrArg int (by omega), rfl⟩


/- loop.example/g00332/spec.l01In -/
def k_c_l01In : XCode :=
 .seq (.ops [.op (some 6) (.mov (.k (.bool false)))])
 (.keep [0, 1, 2] (.seq (.ops [.op (some 7) (.mov (.t 1)),
   .op (some 8) (.mov (.t 0)),
   .op (some 9) (.bin .leq (.t 7) (.t 8)),
   .op (some 10) (.mov (.t 9)),
   .andor 14 true 3 10 [.op (some 11) (.mov (.t 0)), .op (some 12) (.mov (.t 2)), .op (some 13) (.bin .leq (.t 11) (.t 12))] (.t 13),
   .op (some 6) (.mov (.t 14))])
 (.keep [6] (.ret))))
theorem k_c_l01In_fits : fitsF Tryd.prog 30 ⟨15, k_c_l01In, [.t 6]⟩ = true := by kernel_rfl
theorem c_l01In {n lo hi : Int} : Con Tryd.prog noMv 30 [int n, int lo, int hi] [] (fun r h => r = bool (inR n lo hi) ∧ h = []) := by
 refine con_of2 k_c_l01In_fits rfl fun C hP hmv => ?_
 unfold k_c_l01In
 refine cx_seq ?_
 refine cx_ops ?_
 refine ax_q (q_mov rfl) ?_
 refine ax_nil ?_
 refine cx_keep rfl rfl ?_
 refine cx_seq ?_
 refine cx_ops ?_
 refine ax_q (q_mov rfl) ?_
 refine ax_q (q_mov rfl) ?_
 refine ax_q (q_ibin rfl rfl rfl) ?_
 refine ax_q (q_mov rfl) ?_
 apply ax_and rfl rfl
 ·
  intro g
  have g := dT g
  refine ax_q (q_mov rfl) ?_
  refine ax_q (q_mov rfl) ?_
  refine ax_q (q_ibin rfl rfl rfl) ?_
  exact ax_nil ⟨rfl, by repeat (first | exact trivial | refine ⟨rfl, ?_⟩ | refine ⟨?_, ?_⟩)⟩
 refine ax_q (q_mov rfl) ?_
 refine ax_nil ?_
 refine cx_keep rfl rfl ?_
 refine cx_ret (ret0 rfl rfl ?_)
 exact ⟨rfl, rfl⟩


/- loop.example/g00332/spec.ValueOK -/
def k_c_sValueOK : XCode :=
 .seq (.ops [.op (some 1) (.box (.t 0)),
   .op (some 2) (.mov (.k (.bool false)))])
 (.keep [1] (.seq (.seq (.ops [.op (some 4) (.fadr (.t 1) 0),
   .op (some 5) (.load1 (.t 4))])
  (.keep [1, 5] (.block 0 (.seq (.ops [.op (some 7) (.bin .eql (.t 5) (.k (.int .i64 0))),
    .op (some 6) (.mov (.t 7))])
  (.keep [1, 5, 6] (.cond (.t 6)
   (.seq (.ops [.op (some 8) (.fadr (.t 1) 1),
     .op (some 9) (.load1 (.t 8)),
     .op (some 10) (.bin .eql (.t 9) (.k (.int .i64 0))),
     .op (some 11) (.mov (.t 10)),
     .andor 15 true 3 11 [.op (some 12) (.fadr (.t 1) 2), .op (some 13) (.load1 (.t 12)), .op (some 14) (.bin .eql (.t 13) (.k (.str [])))] (.t 14),
     .op (some 2) (.mov (.t 15))])
   (.keep [2] (.ret)))
   (.seq (.ops [.op (some 17) (.bin .eql (.t 5) (.k (.int .i64 1))),
     .op (some 16) (.mov (.t 17))])
   (.keep [1, 5, 16] (.cond (.t 16)
    (.seq (.ops [.op (some 18) (.fadr (.t 1) 1),
      .op (some 19) (.load1 (.t 18)),
      .call (some 20) 30 [.t 19, .k (.int .i64 (-1000000000)), .k (.int .i64 1000000000)],
      .op (some 21) (.mov (.t 20)),
      .andor 25 true 3 21 [.op (some 22) (.fadr (.t 1) 2), .op (some 23) (.load1 (.t 22)), .op (some 24) (.bin .eql (.t 23) (.k (.str [])))] (.t 24),
      .op (some 2) (.mov (.t 25))])
    (.keep [2] (.ret)))
    (.seq (.ops [.op (some 27) (.bin .eql (.t 5) (.k (.int .i64 2))),
      .op (some 26) (.mov (.t 27))])
    (.keep [1, 26] (.cond (.t 26)
     (.seq (.seq (.ops [.op (some 28) (.fadr (.t 1) 1),
       .op (some 29) (.load1 (.t 28)),
       .op (some 30) (.bin .neq (.t 29) (.k (.int .i64 0))),
       .op (some 31) (.mov (.t 30)),
       .andor 36 false 3 31 [.op (some 32) (.fadr (.t 1) 2), .op (some 33) (.load1 (.t 32)), .op (some 34) (.lenT (.t 33)), .op (some 35) (.bin .gtr (.t 34) (.k (.int .i64 10)))] (.t 35)])
      (.keep [1, 36] (.cond (.t 36)
      (.seq (.ops [.op (some 2) (.mov (.k (.bool false)))])
       (.keep [2] (.ret)))
      (.skip))))
     (.keep [1] (.seq (.seq (.ops [.op (some 3) (.mov (.k (.int .i64 0)))])
      (.keep [1, 3] (.block 1 (.loop (.seq (.seq (.ops [.op (some 37) (.mov (.t 3)),
         .op (some 38) (.fadr (.t 1) 2),
         .op (some 39) (.load1 (.t 38)),
         .op (some 40) (.lenT (.t 39)),
         .op (some 41) (.bin .lss (.t 37) (.t 40))])
       (.keep [1, 3, 41] (.cond (.t 41)
        (.skip)
        (.exit 1))))
       (.keep [1, 3] (.seq (.block 2 (.seq (.ops [.op (some 44) (.fadr (.t 1) 2),
         .op (some 45) (.load1 (.t 44)),
         .op (some 46) (.mov (.t 3)),
         .op (some 47) (.idxS (.t 45) (.t 46)),
         .op (some 48) (.conv .i64 (.t 47)),
         .call (some 49) 30 [.t 48, .k (.int .i64 97), .k (.int .i64 122)],
         .op (some 50) (.not (.t 49))])
        (.keep [1, 3, 50] (.cond (.t 50)
        (.seq (.ops [.op (some 2) (.mov (.k (.bool false)))])
         (.keep [2] (.ret)))
        (.skip)))))
       (.keep [1, 3] (.ops [.op (some 42) (.mov (.t 3)),
        .op (some 43) (.bin .add (.t 42) (.k (.int .i64 1))),
        .op (some 3) (.mov (.t 43))])))))))))
     (.keep [] (.seq (.ops [.op (some 2) (.mov (.k (.bool true)))])
     (.keep [2] (.ret)))))))
     (.skip)))))))))))))
 (.keep [] (.seq (.ops [.op (some 2) (.mov (.k (.bool false)))])
 (.keep [2] (.ret))))))
theorem k_c_sValueOK_fits : fitsF Tryd.prog 53 ⟨51, k_c_sValueOK, [.t 2]⟩ = true := by kernel_rfl
theorem c_sValueOK {v : GValue} (hv : v.T.length ≤ 1048576) : Con Tryd.prog noMv 53 [v.av] [] (fun r h => r = bool (valueOK v) ∧ h = []) := by
 refine con_of2 k_c_sValueOK_fits rfl fun C hP hmv => ?_
 unfold k_c_sValueOK
 refine cx_seq ?_
 refine cx_ops ?_
 refine ax_e (e_box rfl rfl (by decide) rfl rfl rfl) ?_
 refine ax_q (q_mov rfl) ?_
 refine ax_nil ?_
 refine cx_keep rfl rfl ?_
 refine cx_seq ?_
 refine cx_seq ?_
 refine cx_ops ?_
 refine ax_q (q_fadr_ptr rfl) ?_
 refine ax_q (q_load1_ptr rfl rfl rfl) ?_
 refine ax_nil ?_
 refine cx_keep rfl rfl ?_
 refine cx_block ?_
 refine cx_seq ?_
 refine cx_ops ?_
 refine ax_q (q_ibin rfl rfl rfl) ?_
 refine ax_q (q_mov rfl) ?_
 refine ax_nil ?_
 refine cx_keep rfl rfl ?_
 refine cx_cond rfl (fun h0 => ?_) (fun h0 => ?_)
 ·
  have h0 := dT h0
  refine cx_seq ?_
  refine cx_ops ?_
  refine ax_q (q_fadr_ptr rfl) ?_
  refine ax_q (q_load1_ptr rfl rfl rfl) ?_
  refine ax_q (q_ibin rfl rfl rfl) ?_
  refine ax_q (q_mov rfl) ?_
  apply ax_and rfl rfl
  ·
   intro g
   have g := dT g
   refine ax_q (q_fadr_ptr rfl) ?_
   refine ax_q (q_load1_ptr rfl rfl rfl) ?_
   refine ax_q (q_sbin rfl rfl rfl) ?_
   exact ax_nil ⟨rfl, by repeat (first | exact trivial | refine ⟨rfl, ?_⟩ | refine ⟨?_, ?_⟩)⟩
  refine ax_q (q_mov rfl) ?_
  refine ax_nil ?_
  refine cx_keep rfl rfl ?_
  refine cx_ret (ret0 rfl rfl ?_)
  exact ⟨by rw [valueOK_0 h0] <;> rfl, rfl⟩
 ·
  have h0 := dF h0
  refine cx_seq ?_
  refine cx_ops ?_
  refine ax_q (q_ibin rfl rfl rfl) ?_
  refine ax_q (q_mov rfl) ?_
  refine ax_nil ?_
  refine cx_keep rfl rfl ?_
  refine cx_cond rfl (fun h1 => ?_) (fun h1 => ?_)
  ·
   have h1 := dT h1
   refine cx_seq ?_
   refine cx_ops ?_
   refine ax_q (q_fadr_ptr rfl) ?_
   refine ax_q (q_load1_ptr rfl rfl rfl) ?_
   first | refine ax_call rfl (vc_pure0 (c_l01In  ) hP rfl rfl ?_) | refine ax_call rfl (vc_lend0 (c_l01In  ) hP (by repeat (first | exact lal_id _ rfl | exact LAL.nil | refine LAL.cons ?_ ?_ | exact la_id _ rfl | exact LA.lend (lend_whole rfl (by first | (simp; done) | (rw [List.length_map]; rfl))) | refine LA.agg ?_ | refine LA.fn ?_ | refine LA.lend ?_ | exact Lend.d _ | exact Lend.zs _ | exact lend_whole rfl (by first | (simp; done) | (rw [List.length_map]; rfl)) | refine Lend.ptr rfl ?_ | refine Lend.fn ?_ | exact LendL.nil | refine LendL.cons ?_ ?_)) rfl rfl ?_)
   refine ax_q (q_mov rfl) ?_
   apply ax_and rfl rfl
   ·
    intro g
    refine ax_q (q_fadr_ptr rfl) ?_
    refine ax_q (q_load1_ptr rfl rfl rfl) ?_
    refine ax_q (q_sbin rfl rfl rfl) ?_
    exact ax_nil ⟨rfl, by repeat (first | exact trivial | refine ⟨rfl, ?_⟩ | refine ⟨?_, ?_⟩)⟩
   refine ax_q (q_mov rfl) ?_
   refine ax_nil ?_
   refine cx_keep rfl rfl ?_
   refine cx_ret (ret0 rfl rfl ?_)
   exact ⟨by rw [valueOK_1 h1] <;> rfl, rfl⟩
  ·
   have h1 := dF h1
   refine cx_seq ?_
   refine cx_ops ?_
   refine ax_q (q_ibin rfl rfl rfl) ?_
   refine ax_q (q_mov rfl) ?_
   refine ax_nil ?_
   refine cx_keep rfl rfl ?_
   refine cx_cond rfl (fun h2 => ?_) (fun h2 => ?_)
   ·
    have h2 := dT h2
    refine cx_seq ?_
    refine cx_seq ?_
    refine cx_ops ?_
    refine ax_q (q_fadr_ptr rfl) ?_
    refine ax_q (q_load1_ptr rfl rfl rfl) ?_
    refine ax_q (q_ibin rfl rfl rfl) ?_
    refine ax_q (q_mov rfl) ?_
    apply ax_or rfl rfl
    ·
     intro g
     have g := nF g
     refine ax_q (q_fadr_ptr rfl) ?_
     refine ax_q (q_load1_ptr rfl rfl rfl) ?_
     refine ax_q (q_lenT rfl) ?_
     refine ax_q (q_ibin rfl rfl rfl) ?_
     exact ax_nil ⟨rfl, by repeat (first | exact trivial | refine ⟨rfl, ?_⟩ | refine ⟨?_, ?_⟩)⟩
    refine ax_nil ?_
    refine cx_keep rfl rfl ?_
    refine cx_cond rfl (fun h3 => ?_) (fun h3 => ?_)
    ·
     have h3 := (fun h => (or_T h).imp nT dT) h3
     refine cx_seq ?_
     refine cx_ops ?_
     refine ax_q (q_mov rfl) ?_
     refine ax_nil ?_
     refine cx_keep rfl rfl ?_
     refine cx_ret (ret0 rfl rfl ?_)
     have e : valueOK v = false := by
      rw [valueOK_2 h0 h1]
      rcases h3 with h | h
      ·
       simp [h]
      ·
       unfold isWord; rw [decide_eq_false (show ¬ ((v.T.length : Int) ≤ 10) from by omega)]; simp
     exact ⟨by rw [e] <;> rfl, rfl⟩
    ·
     have h3 := (fun h => And.intro (nF (or_F h).1) (dF (or_F h).2)) h3
     refine cx_skip ?_
     refine cx_keep rfl rfl ?_
     refine cx_seq ?_
     refine cx_seq ?_
     refine cx_ops ?_
     refine ax_q (q_mov rfl) ?_
     refine ax_nil ?_
     refine cx_keep rfl rfl ?_
     refine cx_block ?_
     refine cx_loopU (fun n k => k ≤ v.T.length ∧ n = v.T.length - k ∧ ∀ j, j < k → ∀ x, v.T[j]? = some x → badCh x = false) (fun k : Nat => [(3, int k)]) (fun _ => [(1, .box [.d (.int .i64 v.Kind), .d (.int .i64 v.N), .d (.str v.T)])]) ⟨_, 0, ⟨Nat.zero_le _, rfl, fun j hj => by omega⟩, by repeat (first | exact trivial | refine ⟨rfl, ?_⟩ | refine ⟨?_, ?_⟩)⟩ ?_
     rintro n k ⟨hk, rfl, hb⟩
     refine cx_seq ?_
     refine cx_seq ?_
     refine cx_ops ?_
     refine ax_q (q_mov rfl) ?_
     refine ax_q (q_fadr_ptr rfl) ?_
     refine ax_q (q_load1_ptr rfl rfl rfl) ?_
     refine ax_q (q_lenT rfl) ?_
     refine ax_q (q_ibin rfl rfl rfl) ?_
     refine ax_nil ?_
     refine cx_keep rfl rfl ?_
     refine cx_cond rfl (fun h4 => ?_) (fun h4 => ?_)
     ·
      have h4 := dT h4
      have h4x : k < v.T.length := by omega
      refine cx_skip ?_
      refine cx_keep rfl rfl ?_
      refine cx_seq ?_
      refine cx_block ?_
      refine cx_seq ?_
      refine cx_ops ?_
      refine ax_q (q_fadr_ptr rfl) ?_
      refine ax_q (q_load1_ptr rfl rfl rfl) ?_
      refine ax_q (q_mov rfl) ?_
      refine ax_q (q_idxN rfl rfl (by first | assumption | omega)) ?_
      first | refine ax_q (q_convB rfl) ?_ | refine ax_q (q_convI rfl (by omega)) ?_ | refine ax_q (q_convU8 rfl) ?_ | refine ax_q (q_conv rfl) ?_
      first | refine ax_call rfl (vc_pure0 (c_l01In  ) hP rfl rfl ?_) | refine ax_call rfl (vc_lend0 (c_l01In  ) hP (by repeat (first | exact lal_id _ rfl | exact LAL.nil | refine LAL.cons ?_ ?_ | exact la_id _ rfl | exact LA.lend (lend_whole rfl (by first | (simp; done) | (rw [List.length_map]; rfl))) | refine LA.agg ?_ | refine LA.fn ?_ | refine LA.lend ?_ | exact Lend.d _ | exact Lend.zs _ | exact lend_whole rfl (by first | (simp; done) | (rw [List.length_map]; rfl)) | refine Lend.ptr rfl ?_ | refine Lend.fn ?_ | exact LendL.nil | refine LendL.cons ?_ ?_)) rfl rfl ?_)
      refine ax_q (q_not rfl) ?_
      refine ax_nil ?_
      refine cx_keep rfl rfl ?_
      refine cx_cond rfl (fun h5 => ?_) (fun h5 => ?_)
      ·
       have h5 : badCh v.T[k] = true := h5
       refine cx_seq ?_
       refine cx_ops ?_
       refine ax_q (q_mov rfl) ?_
       refine ax_nil ?_
       refine cx_keep rfl rfl ?_
       refine cx_ret (ret0 rfl rfl ?_)
       have e : valueOK v = false := by
        rw [valueOK_2 h0 h1]; unfold isWord; rw [any_hit h4x h5]; simp
       exact ⟨by rw [e]; rfl, rfl⟩
      ·
       have h5 : badCh v.T[k] = false := h5
       refine cx_skip ?_
       refine cx_keep rfl rfl ?_
       refine cx_ops ?_
       refine ax_q (q_mov rfl) ?_
       refine ax_qe (r' := int ((k + 1 : Nat) : Int)) (q_ibin rfl rfl rfl) (by rw [wi (by omega) (by omega)]; rfl) ?_
       refine ax_q (q_mov rfl) ?_
       refine ax_nil ?_
       exact ⟨_, k + 1, by omega, ⟨by omega, rfl, before_step h4x hb h5⟩, by repeat (first | exact trivial | refine ⟨rfl, ?_⟩ | refine ⟨?_, ?_⟩)⟩
     ·
      have h4 := dF h4
      have h4x : k = v.T.length := by omega
      refine cx_exit rfl ?_
      refine cx_keep rfl rfl ?_
      refine cx_seq ?_
      refine cx_ops ?_
      refine ax_q (q_mov rfl) ?_
      refine ax_nil ?_
      refine cx_keep rfl rfl ?_
      refine cx_ret (ret0 rfl rfl ?_)
      exact ⟨by rw [valueOK_2 h0 h1]; unfold isWord; rw [any_all (fun i hi => hb i (by omega)), decide_eq_true h2, decide_eq_true (show v.N = 0 from by omega), decide_eq_true (show (v.T.length : Int) ≤ 10 from by omega)] <;> rfl, rfl⟩
   ·
    have h2 := dF h2
    refine cx_skip ?_
    refine cx_keep rfl rfl ?_
    refine cx_seq ?_
    refine cx_ops ?_
    refine ax_q (q_mov rfl) ?_
    refine ax_nil ?_
    refine cx_keep rfl rfl ?_
    refine cx_ret (ret0 rfl rfl ?_)
    exact ⟨by rw [valueOK_2 h0 h1, decide_eq_false h2] <;> rfl, rfl⟩


/- loop.example/g00332/spec.l10Walk -/
def k_c_l10Walk : XCode :=
 .seq (.ops [.op (some 2) (.box (.t 0)),
   .op (some 4) (.mov (.k (.int .i64 0))),
   .op (some 5) (.mov (.k (.int .i64 0))),
   .op (some 6) (.mov (.k (.bool false)))])
 (.keep [1, 2] (.seq (.seq (.ops [.op (some 17) (.mov (.t 1)),
   .op (some 18) (.bin .lss (.t 17) (.k (.int .i64 0)))])
  (.keep [1, 2, 18] (.cond (.t 18)
  (.seq (.ops [.op (some 4) (.mov (.k (.int .i64 0))),
    .op (some 5) (.mov (.k (.int .i64 0))),
    .op (some 6) (.mov (.k (.bool false)))])
   (.keep [4, 5, 6] (.ret)))
  (.skip))))
 (.keep [1, 2] (.seq (.ops [.op (some 19) (.fadr (.t 2) 0),
   .op (some 20) (.load1 (.t 19)),
   .op (some 21) (.mov (.t 1)),
   .op (some 22) (.iadr 7 (.t 20) (.t 21)),
   .op (some 23) (.loadN 7 (.t 22)),
   .op (some 7) (.alloc [.int .i64 0, .int .i64 0, .int .i64 0, .int .i64 0, .int .i64 0, .int .i64 0, .str []]),
   .op none (.store 7 (.t 7) (.t 23))])
 (.keep [1, 2, 7] (.seq (.block 0 (.seq (.ops [.op (some 25) (.fadr (.t 7) 0),
    .op (some 26) (.load1 (.t 25)),
    .op (some 27) (.bin .eql (.t 26) (.k (.int .i64 1))),
    .op (some 24) (.mov (.t 27))])
  (.keep [1, 2, 7, 24] (.cond (.t 24)
   (.seq (.ops [.op (some 28) (.mov (.t 1)),
     .op (some 29) (.fadr (.t 7) 1),
     .op (some 30) (.load1 (.t 29)),
     .op (some 31) (.bin .eql (.t 30) (.k (.int .i64 0))),
     .op (some 32) (.mov (.t 31)),
     .andor 36 true 4 32 [.op (some 33) (.fadr (.t 7) 2), .op (some 34) (.load1 (.t 33)), .op (some 35) (.bin .eql (.t 34) (.k (.int .i64 0)))] (.t 35),
     .op (some 37) (.mov (.t 36)),
     .andor 41 true 9 37 [.op (some 38) (.fadr (.t 7) 3), .op (some 39) (.load1 (.t 38)), .op (some 40) (.bin .eql (.t 39) (.k (.int .i64 0)))] (.t 40),
     .op (some 42) (.mov (.t 41)),
     .andor 46 true 14 42 [.op (some 43) (.fadr (.t 7) 4), .op (some 44) (.loadN 3 (.t 43)), .call (some 45) 53 [.t 44]] (.t 45),
     .op (some 4) (.mov (.t 28)),
     .op (some 5) (.mov (.k (.int .i64 1))),
     .op (some 6) (.mov (.t 46))])
   (.keep [4, 5, 6] (.ret)))
   (.seq (.ops [.op (some 48) (.fadr (.t 7) 0),
     .op (some 49) (.load1 (.t 48)),
     .op (some 50) (.bin .eql (.t 49) (.k (.int .i64 2))),
     .op (some 47) (.mov (.t 50))])
   (.keep [1, 2, 7, 47] (.cond (.t 47)
    (.seq (.draw [.op (some 51) (.mov (.t 1)),
      .op (some 52) (.fadr (.t 7) 1),
      .op (some 53) (.load1 (.t 52)),
      .op (some 54) (.bin .eql (.t 53) (.k (.int .i64 0))),
      .op (some 55) (.mov (.t 54)),
      .andor 59 true 4 55 [.op (some 56) (.fadr (.t 7) 2), .op (some 57) (.load1 (.t 56)), .op (some 58) (.bin .eql (.t 57) (.k (.int .i64 0)))] (.t 58),
      .op (some 60) (.mov (.t 59)),
      .andor 64 true 9 60 [.op (some 61) (.fadr (.t 7) 3), .op (some 62) (.load1 (.t 61)), .call (some 63) 30 [.t 62, .k (.int .i64 0), .k (.int .i64 2)]] (.t 63),
      .op (some 65) (.mov (.t 64)),
      .andor 70 true 14 65 [.op (some 66) (.fadr (.t 7) 4), .op (some 67) (.loadN 3 (.t 66)), .op (some 68) (.build [.int .i64 0, .int .i64 0, .str []] []), .op (some 69) (.eqs false [0, 0, 2] (.t 67) (.t 68))] (.t 69),
      .op (some 4) (.mov (.t 51)),
      .op (some 5) (.mov (.k (.int .i64 1))),
      .op (some 6) (.mov (.t 70))])
    (.keep [4, 5, 6] (.ret)))
    (.seq (.ops [.op (some 72) (.fadr (.t 7) 0),
      .op (some 73) (.load1 (.t 72)),
      .call (some 74) 30 [.t 73, .k (.int .i64 3), .k (.int .i64 5)],
      .op (some 71) (.mov (.t 74))])
    (.keep [1, 2, 7, 71] (.cond (.t 71)
     (.seq (.ops [.op (some 76) (.loadN 1 (.t 2)),
       .op (some 77) (.mov (.t 1)),
       .op (some 78) (.bin .sub (.t 77) (.k (.int .i64 1))),
       .call (some 79) 31 [.t 76, .t 78],
       .op (some 75) (.mov (.t 79)),
       .op (some 80) (.ext (.t 75) 0),
       .op (some 81) (.ext (.t 75) 1),
       .op (some 82) (.ext (.t 75) 2),
       .op (some 8) (.mov (.t 80)),
       .op (some 9) (.mov (.t 81)),
       .op (some 10) (.mov (.t 82))])
     (.keep [1, 7, 8, 9, 10] (.seq (.draw [.op (some 83) (.mov (.t 8)),
       .op (some 84) (.mov (.t 9)),
       .op (some 85) (.bin .add (.t 84) (.k (.int .i64 1))),
       .op (some 86) (.mov (.t 10)),
       .op (some 87) (.mov (.t 86)),
       .andor 93 true 4 87 [.op (some 88) (.fadr (.t 7) 1), .op (some 89) (.load1 (.t 88)), .op (some 90) (.mov (.t 1)), .op (some 91) (.bin .sub (.t 90) (.k (.int .i64 1))), .op (some 92) (.bin .eql (.t 89) (.t 91))] (.t 92),
       .op (some 94) (.mov (.t 93)),
       .andor 98 true 11 94 [.op (some 95) (.fadr (.t 7) 2), .op (some 96) (.load1 (.t 95)), .op (some 97) (.bin .eql (.t 96) (.k (.int .i64 0)))] (.t 97),
       .op (some 99) (.mov (.t 98)),
       .andor 103 true 16 99 [.op (some 100) (.fadr (.t 7) 3), .op (some 101) (.load1 (.t 100)), .op (some 102) (.bin .eql (.t 101) (.k (.int .i64 0)))] (.t 102),
       .op (some 104) (.mov (.t 103)),
       .andor 109 true 21 104 [.op (some 105) (.fadr (.t 7) 4), .op (some 106) (.loadN 3 (.t 105)), .op (some 107) (.build [.int .i64 0, .int .i64 0, .str []] []), .op (some 108) (.eqs false [0, 0, 2] (.t 106) (.t 107))] (.t 108),
       .op (some 4) (.mov (.t 83)),
       .op (some 5) (.mov (.t 85)),
       .op (some 6) (.mov (.t 109))])
     (.keep [4, 5, 6] (.ret)))))
     (.seq (.ops [.op (some 111) (.fadr (.t 7) 0),
       .op (some 112) (.load1 (.t 111)),
       .call (some 113) 30 [.t 112, .k (.int .i64 6), .k (.int .i64 13)],
       .op (some 110) (.mov (.t 113))])
     (.keep [1, 2, 7, 110] (.cond (.t 110)
      (.seq (.ops [.op (some 115) (.loadN 1 (.t 2)),
        .op (some 116) (.mov (.t 1)),
        .op (some 117) (.bin .sub (.t 116) (.k (.int .i64 1))),
        .call (some 118) 31 [.t 115, .t 117],
        .op (some 114) (.mov (.t 118)),
        .op (some 119) (.ext (.t 114) 0),
        .op (some 120) (.ext (.t 114) 1),
        .op (some 121) (.ext (.t 114) 2),
        .op (some 11) (.mov (.t 119)),
        .op (some 12) (.mov (.t 120)),
        .op (some 13) (.mov (.t 121))])
      (.keep [1, 2, 7, 11, 12, 13] (.seq (.seq (.ops [.op (some 122) (.mov (.t 13)),
        .op (some 123) (.not (.t 122))])
       (.keep [1, 2, 7, 11, 12, 123] (.cond (.t 123)
       (.seq (.ops [.op (some 4) (.mov (.k (.int .i64 0))),
         .op (some 5) (.mov (.k (.int .i64 0))),
         .op (some 6) (.mov (.k (.bool false)))])
        (.keep [4, 5, 6] (.ret)))
       (.skip))))
      (.keep [1, 2, 7, 11, 12] (.seq (.ops [.op (some 125) (.loadN 1 (.t 2)),
        .op (some 126) (.mov (.t 11)),
        .op (some 127) (.bin .sub (.t 126) (.k (.int .i64 1))),
        .call (some 128) 31 [.t 125, .t 127],
        .op (some 124) (.mov (.t 128)),
        .op (some 129) (.ext (.t 124) 0),
        .op (some 130) (.ext (.t 124) 1),
        .op (some 131) (.ext (.t 124) 2),
        .op (some 14) (.mov (.t 129)),
        .op (some 15) (.mov (.t 130)),
        .op (some 16) (.mov (.t 131))])
      (.keep [1, 7, 11, 12, 14, 15, 16] (.seq (.draw [.op (some 132) (.mov (.t 14)),
        .op (some 133) (.mov (.t 15)),
        .op (some 134) (.mov (.t 12)),
        .op (some 135) (.mx true (.t 133) (.t 134)),
        .op (some 136) (.bin .add (.t 135) (.k (.int .i64 1))),
        .op (some 137) (.mov (.t 16)),
        .op (some 138) (.mov (.t 137)),
        .andor 144 true 6 138 [.op (some 139) (.fadr (.t 7) 1), .op (some 140) (.load1 (.t 139)), .op (some 141) (.mov (.t 11)), .op (some 142) (.bin .sub (.t 141) (.k (.int .i64 1))), .op (some 143) (.bin .eql (.t 140) (.t 142))] (.t 143),
        .op (some 145) (.mov (.t 144)),
        .andor 151 true 13 145 [.op (some 146) (.fadr (.t 7) 2), .op (some 147) (.load1 (.t 146)), .op (some 148) (.mov (.t 1)), .op (some 149) (.bin .sub (.t 148) (.k (.int .i64 1))), .op (some 150) (.bin .eql (.t 147) (.t 149))] (.t 150),
        .op (some 152) (.mov (.t 151)),
        .andor 156 true 20 152 [.op (some 153) (.fadr (.t 7) 3), .op (some 154) (.load1 (.t 153)), .op (some 155) (.bin .eql (.t 154) (.k (.int .i64 0)))] (.t 155),
        .op (some 157) (.mov (.t 156)),
        .andor 162 true 25 157 [.op (some 158) (.fadr (.t 7) 4), .op (some 159) (.loadN 3 (.t 158)), .op (some 160) (.build [.int .i64 0, .int .i64 0, .str []] []), .op (some 161) (.eqs false [0, 0, 2] (.t 159) (.t 160))] (.t 161),
        .op (some 4) (.mov (.t 132)),
        .op (some 5) (.mov (.t 136)),
        .op (some 6) (.mov (.t 162))])
      (.keep [4, 5, 6] (.ret)))))))))
      (.skip))))))))))))))
 (.keep [] (.seq (.ops [.op (some 4) (.mov (.k (.int .i64 0))),
   .op (some 5) (.mov (.k (.int .i64 0))),
   .op (some 6) (.mov (.k (.bool false)))])
 (.keep [4, 5, 6] (.ret))))))))))
theorem k_c_l10Walk_fits : fitsF Tryd.prog 31 ⟨163, k_c_l10Walk, [.t 4, .t 5, .t 6]⟩ = true := by kernel_rfl
theorem c_l10Walk {e : GExpr} {f : Nat} {i : Int} (hn : -1 ≤ i) (hi : i + 1 < f) (hf : f ≤ 1000) (hl : i < e.Nodes.length) (hw : e.Nodes.length ≤ 1048576) (hv : ∀ x ∈ e.Nodes, x.V.T.length ≤ 1048576) : Con Tryd.prog noMv 31 [e.av, int i] [] (fun r h => r = .tup [int (walkF e.Nodes f i).1, int (walkF e.Nodes f i).2.1, bool (walkF e.Nodes f i).2.2] ∧ h = []) := by
 induction f generalizing i with
 | zero => exact absurd hi (by omega)
 | succ f ih =>
  refine con_of2 k_c_l10Walk_fits rfl fun C hP hmv => ?_
  unfold k_c_l10Walk
  refine cx_seq ?_
  refine cx_ops ?_
  refine ax_e (e_box rfl rfl (by decide) rfl rfl rfl) ?_
  refine ax_q (q_mov rfl) ?_
  refine ax_q (q_mov rfl) ?_
  refine ax_q (q_mov rfl) ?_
  refine ax_nil ?_
  refine cx_keep rfl rfl ?_
  refine cx_seq ?_
  refine cx_seq ?_
  refine cx_ops ?_
  refine ax_q (q_mov rfl) ?_
  refine ax_q (q_ibin rfl rfl rfl) ?_
  refine ax_nil ?_
  refine cx_keep rfl rfl ?_
  refine cx_cond rfl (fun h0 => ?_) (fun h0 => ?_)
  ·
   have h0 := dT h0
   refine cx_seq ?_
   refine cx_ops ?_
   refine ax_q (q_mov rfl) ?_
   refine ax_q (q_mov rfl) ?_
   refine ax_q (q_mov rfl) ?_
   refine ax_nil ?_
   refine cx_keep rfl rfl ?_
   refine cx_ret (ret0 rfl rfl ?_)
   exact ⟨by rw [walkF_neg h0]; rfl, rfl⟩
  ·
   have h0 := dF h0
   obtain ⟨j, rfl⟩ : ∃ j : Nat, i = (j : Int) := ⟨i.toNat, by omega⟩
   have hj : j < e.Nodes.length := by omega
   have hvj := hv _ (List.getElem_mem hj)
   have wb := @walkF_b e.Nodes f ((j : Int) - 1)
   have wc := @walkF_b e.Nodes f ((walkF e.Nodes f ((j : Int) - 1)).1 - 1)
   have hm := mxI_b (n := f) (a := (walkF e.Nodes f ((walkF e.Nodes f ((j : Int) - 1)).1 - 1)).2.1) (b := (walkF e.Nodes f ((j : Int) - 1)).2.1) ⟨wc.2.2.1, wc.2.2.2⟩ ⟨wb.2.2.1, wb.2.2.2⟩
   refine cx_skip ?_
   refine cx_keep rfl rfl ?_
   refine cx_seq ?_
   refine cx_ops ?_
   refine ax_q (q_fadr_ptr rfl) ?_
   refine ax_q (q_load1_ptr rfl rfl rfl) ?_
   refine ax_q (q_mov rfl) ?_
   refine ax_q (q_ix rfl rfl (mapAt hj)) ?_
   first | refine ax_q (q_ldN rfl rfl rfl) ?_ | refine ax_q (q_loadN_ip rfl (Nat.le_refl _)) ?_ | refine ax_q (q_loadN_ip rfl (by decide)) ?_ | refine ax_q (q_loadN_rptr rfl rfl (by assumption) (by decide)) ?_ | refine ax_q (q_loadN_rptr rfl rfl (mapAt (by first | assumption | omega)) (by decide)) ?_
   refine ax_e (e_alloc (by decide) rfl rfl) ?_
   refine ax_e (e_st rfl rfl rfl rfl rfl rfl rfl) ?_
   refine ax_nil ?_
   refine cx_keep rfl rfl ?_
   refine cx_seq ?_
   refine cx_block ?_
   refine cx_seq ?_
   refine cx_ops ?_
   refine ax_q (q_fadr_ptr rfl) ?_
   refine ax_q (q_load1_ptr rfl rfl rfl) ?_
   refine ax_q (q_ibin rfl rfl rfl) ?_
   refine ax_q (q_mov rfl) ?_
   refine ax_nil ?_
   refine cx_keep rfl rfl ?_
   refine cx_cond rfl (fun h1 => ?_) (fun h1 => ?_)
   ·
    have h1 := dT h1
    refine cx_seq ?_
    refine cx_ops ?_
    refine ax_q (q_mov rfl) ?_
    refine ax_q (q_fadr_ptr rfl) ?_
    refine ax_q (q_load1_ptr rfl rfl rfl) ?_
    refine ax_q (q_ibin rfl rfl rfl) ?_
    refine ax_q (q_mov rfl) ?_
    apply ax_and rfl rfl
    ·
     intro g
     have g := dT g
     refine ax_q (q_fadr_ptr rfl) ?_
     refine ax_q (q_load1_ptr rfl rfl rfl) ?_
     refine ax_q (q_ibin rfl rfl rfl) ?_
     exact ax_nil ⟨rfl, by repeat (first | exact trivial | refine ⟨rfl, ?_⟩ | refine ⟨?_, ?_⟩)⟩
    refine ax_q (q_mov rfl) ?_
    apply ax_and rfl rfl
    ·
     intro g
     have g := (fun h => And.intro (dT (and_T h).1) (dT (and_T h).2)) g
     refine ax_q (q_fadr_ptr rfl) ?_
     refine ax_q (q_load1_ptr rfl rfl rfl) ?_
     refine ax_q (q_ibin rfl rfl rfl) ?_
     exact ax_nil ⟨rfl, by repeat (first | exact trivial | refine ⟨rfl, ?_⟩ | refine ⟨?_, ?_⟩)⟩
    refine ax_q (q_mov rfl) ?_
    apply ax_and rfl rfl
    ·
     intro g
     have g := (fun h => And.intro ((fun h => And.intro (dT (and_T h).1) (dT (and_T h).2)) (and_T h).1) (dT (and_T h).2)) g
     refine ax_q (q_fadr_ptr rfl) ?_
     refine ax_q (q_ldN rfl rfl rfl) ?_
     first | refine ax_call rfl (vc_pure0 (c_sValueOK (v := e.Nodes[j].V) ?_) hP rfl rfl ?_) | refine ax_call rfl (vc_lend0 (c_sValueOK (v := e.Nodes[j].V) ?_) hP (by repeat (first | exact lal_id _ rfl | exact LAL.nil | refine LAL.cons ?_ ?_ | exact la_id _ rfl | exact LA.lend (lend_whole rfl (by first | (simp; done) | (rw [List.length_map]; rfl))) | refine LA.agg ?_ | refine LA.fn ?_ | refine LA.lend ?_ | exact Lend.d _ | exact Lend.zs _ | exact lend_whole rfl (by first | (simp; done) | (rw [List.length_map]; rfl)) | refine Lend.ptr rfl ?_ | refine Lend.fn ?_ | exact LendL.nil | refine LendL.cons ?_ ?_)) rfl rfl ?_)
     ·
      first | assumption | omega | (simp; done) | (simp; omega)
     exact ax_nil ⟨rfl, by repeat (first | exact trivial | refine ⟨rfl, ?_⟩ | refine ⟨?_, ?_⟩)⟩
    refine ax_q (q_mov rfl) ?_
    refine ax_q (q_mov rfl) ?_
    refine ax_q (q_mov rfl) ?_
    refine ax_nil ?_
    refine cx_keep rfl rfl ?_
    refine cx_ret (ret0 rfl rfl ?_)
    exact ⟨by rw [walkF_at hj, nodeW_1 h1]; rfl, rfl⟩
   ·
    have h1 := dF h1
    refine cx_seq ?_
    refine cx_ops ?_
    refine ax_q (q_fadr_ptr rfl) ?_
    refine ax_q (q_load1_ptr rfl rfl rfl) ?_
    refine ax_q (q_ibin rfl rfl rfl) ?_
    refine ax_q (q_mov rfl) ?_
    refine ax_nil ?_
    refine cx_keep rfl rfl ?_
    refine cx_cond rfl (fun h2 => ?_) (fun h2 => ?_)
    ·
     have h2 := dT h2
     refine cx_seq ?_
     refine cx_draw ?_
     refine ax_q (q_mov rfl) ?_
     refine ax_q (q_fadr_ptr rfl) ?_
     refine ax_q (q_load1_ptr rfl rfl rfl) ?_
     refine ax_q (q_ibin rfl rfl rfl) ?_
     refine ax_q (q_mov rfl) ?_
     apply ax_and rfl rfl
     ·
      intro g
      have g := dT g
      refine ax_q (q_fadr_ptr rfl) ?_
      refine ax_q (q_load1_ptr rfl rfl rfl) ?_
      refine ax_q (q_ibin rfl rfl rfl) ?_
      exact ax_nil ⟨rfl, by repeat (first | exact trivial | refine ⟨rfl, ?_⟩ | refine ⟨?_, ?_⟩)⟩
     refine ax_q (q_mov rfl) ?_
     apply ax_and rfl rfl
     ·
      intro g
      have g := (fun h => And.intro (dT (and_T h).1) (dT (and_T h).2)) g
      refine ax_q (q_fadr_ptr rfl) ?_
      refine ax_q (q_load1_ptr rfl rfl rfl) ?_
      first | refine ax_callq rfl (c_l01In  ) hP (lal_id _ rfl) rfl ?_ | refine ax_callq rfl (c_l01In  ) hP (by repeat (first | exact lal_id _ rfl | exact LAL.nil | refine LAL.cons ?_ ?_ | exact la_id _ rfl | exact LA.lend (lend_whole rfl (by first | (simp; done) | (rw [List.length_map]; rfl))) | refine LA.agg ?_ | refine LA.fn ?_ | refine LA.lend ?_ | exact Lend.d _ | exact Lend.zs _ | exact lend_whole rfl (by first | (simp; done) | (rw [List.length_map]; rfl)) | refine Lend.ptr rfl ?_ | refine Lend.fn ?_ | exact LendL.nil | refine LendL.cons ?_ ?_)) rfl ?_
      exact ax_nil ⟨rfl, by repeat (first | exact trivial | refine ⟨rfl, ?_⟩ | refine ⟨?_, ?_⟩)⟩
     refine ax_q (q_mov rfl) ?_
     apply ax_and rfl rfl
     ·
      intro g
      have g := (fun h => And.intro ((fun h => And.intro (dT (and_T h).1) (dT (and_T h).2)) (and_T h).1) (id (and_T h).2)) g
      refine ax_q (q_fadr_ptr rfl) ?_
      refine ax_q (q_ldN rfl rfl rfl) ?_
      refine ax_q (q_build rfl) ?_
      first | refine ax_q (GValue.q_eqs rfl rfl) ?_ | refine ax_q (q_eqs rfl rfl rfl) ?_
      exact ax_nil ⟨rfl, by repeat (first | exact trivial | refine ⟨rfl, ?_⟩ | refine ⟨?_, ?_⟩)⟩
     refine ax_q (q_mov rfl) ?_
     refine ax_q (q_mov rfl) ?_
     refine ax_q (q_mov rfl) ?_
     refine ax_nil ?_
     refine cx_keep rfl rfl ?_
     refine cx_ret (ret0 rfl rfl ?_)
     exact ⟨by rw [walkF_at hj, nodeW_2 h1 h2]; rfl, rfl⟩
    ·
     have h2 := dF h2
     refine cx_seq ?_
     refine cx_ops ?_
     refine ax_q (q_fadr_ptr rfl) ?_
     refine ax_q (q_load1_ptr rfl rfl rfl) ?_
     first | refine ax_call rfl (vc_pure0 (c_l01In  ) hP rfl rfl ?_) | refine ax_call rfl (vc_lend0 (c_l01In  ) hP (by repeat (first | exact lal_id _ rfl | exact LAL.nil | refine LAL.cons ?_ ?_ | exact la_id _ rfl | exact LA.lend (lend_whole rfl (by first | (simp; done) | (rw [List.length_map]; rfl))) | refine LA.agg ?_ | refine LA.fn ?_ | refine LA.lend ?_ | exact Lend.d _ | exact Lend.zs _ | exact lend_whole rfl (by first | (simp; done) | (rw [List.length_map]; rfl)) | refine Lend.ptr rfl ?_ | refine Lend.fn ?_ | exact LendL.nil | refine LendL.cons ?_ ?_)) rfl rfl ?_)
     refine ax_q (q_mov rfl) ?_
     refine ax_nil ?_
     refine cx_keep rfl rfl ?_
     refine cx_cond rfl (fun h3 => ?_) (fun h3 => ?_)
     ·
      skip
      refine cx_seq ?_
      refine cx_ops ?_
      refine ax_q (q_ldN rfl rfl rfl) ?_
      refine ax_q (q_mov rfl) ?_
      refine ax_q (q_sub rfl rfl (by omega)) ?_
      first | refine ax_call rfl (vc_pure0 (ih (i := (j : Int) - 1) ?_ ?_ ?_ ?_) hP rfl rfl ?_) | refine ax_call rfl (vc_lend0 (ih (i := (j : Int) - 1) ?_ ?_ ?_ ?_) hP (by repeat (first | exact lal_id _ rfl | exact LAL.nil | refine LAL.cons ?_ ?_ | exact la_id _ rfl | exact LA.lend (lend_whole rfl (by first | (simp; done) | (rw [List.length_map]; rfl))) | refine LA.agg ?_ | refine LA.fn ?_ | refine LA.lend ?_ | exact Lend.d _ | exact Lend.zs _ | exact lend_whole rfl (by first | (simp; done) | (rw [List.length_map]; rfl)) | refine Lend.ptr rfl ?_ | refine Lend.fn ?_ | exact LendL.nil | refine LendL.cons ?_ ?_)) rfl rfl ?_)
      ·
       first | assumption | omega | (simp; done) | (simp; omega)
      ·
       first | assumption | omega | (simp; done) | (simp; omega)
      ·
       first | assumption | omega | (simp; done) | (simp; omega)
      ·
       first | assumption | omega | (simp; done) | (simp; omega)
      refine ax_q (q_mov rfl) ?_
      refine ax_q (q_ext rfl rfl) ?_
      refine ax_q (q_ext rfl rfl) ?_
      refine ax_q (q_ext rfl rfl) ?_
      refine ax_q (q_mov rfl) ?_
      refine ax_q (q_mov rfl) ?_
      refine ax_q (q_mov rfl) ?_
      refine ax_nil ?_
      refine cx_keep rfl rfl ?_
      refine cx_seq ?_
      refine cx_draw ?_
      refine ax_q (q_mov rfl) ?_
      refine ax_q (q_mov rfl) ?_
      refine ax_q (q_add rfl rfl (by omega)) ?_
      refine ax_q (q_mov rfl) ?_
      refine ax_q (q_mov rfl) ?_
      apply ax_and rfl rfl
      ·
       intro g
       refine ax_q (q_fadr_ptr rfl) ?_
       refine ax_q (q_load1_ptr rfl rfl rfl) ?_
       refine ax_q (q_mov rfl) ?_
       refine ax_q (q_sub rfl rfl (by omega)) ?_
       refine ax_q (q_ibin rfl rfl rfl) ?_
       exact ax_nil ⟨rfl, by repeat (first | exact trivial | refine ⟨rfl, ?_⟩ | refine ⟨?_, ?_⟩)⟩
      refine ax_q (q_mov rfl) ?_
      apply ax_and rfl rfl
      ·
       intro g
       have g := (fun h => And.intro (id (and_T h).1) (dT (and_T h).2)) g
       refine ax_q (q_fadr_ptr rfl) ?_
       refine ax_q (q_load1_ptr rfl rfl rfl) ?_
       refine ax_q (q_ibin rfl rfl rfl) ?_
       exact ax_nil ⟨rfl, by repeat (first | exact trivial | refine ⟨rfl, ?_⟩ | refine ⟨?_, ?_⟩)⟩
      refine ax_q (q_mov rfl) ?_
      apply ax_and rfl rfl
      ·
       intro g
       have g := (fun h => And.intro ((fun h => And.intro (id (and_T h).1) (dT (and_T h).2)) (and_T h).1) (dT (and_T h).2)) g
       refine ax_q (q_fadr_ptr rfl) ?_
       refine ax_q (q_load1_ptr rfl rfl rfl) ?_
       refine ax_q (q_ibin rfl rfl rfl) ?_
       exact ax_nil ⟨rfl, by repeat (first | exact trivial | refine ⟨rfl, ?_⟩ | refine ⟨?_, ?_⟩)⟩
      refine ax_q (q_mov rfl) ?_
      apply ax_and rfl rfl
      ·
       intro g
       have g := (fun h => And.intro ((fun h => And.intro ((fun h => And.intro (id (and_T h).1) (dT (and_T h).2)) (and_T h).1) (dT (and_T h).2)) (and_T h).1) (dT (and_T h).2)) g
       refine ax_q (q_fadr_ptr rfl) ?_
       refine ax_q (q_ldN rfl rfl rfl) ?_
       refine ax_q (q_build rfl) ?_
       first | refine ax_q (GValue.q_eqs rfl rfl) ?_ | refine ax_q (q_eqs rfl rfl rfl) ?_
       exact ax_nil ⟨rfl, by repeat (first | exact trivial | refine ⟨rfl, ?_⟩ | refine ⟨?_, ?_⟩)⟩
      refine ax_q (q_mov rfl) ?_
      refine ax_q (q_mov rfl) ?_
      refine ax_q (q_mov rfl) ?_
      refine ax_nil ?_
      refine cx_keep rfl rfl ?_
      refine cx_ret (ret0 rfl rfl ?_)
      exact ⟨by rw [walkF_at hj, nodeW_3 h1 h2 h3]; rfl, rfl⟩
     ·
      skip
      refine cx_seq ?_
      refine cx_ops ?_
      refine ax_q (q_fadr_ptr rfl) ?_
      refine ax_q (q_load1_ptr rfl rfl rfl) ?_
      first | refine ax_call rfl (vc_pure0 (c_l01In  ) hP rfl rfl ?_) | refine ax_call rfl (vc_lend0 (c_l01In  ) hP (by repeat (first | exact lal_id _ rfl | exact LAL.nil | refine LAL.cons ?_ ?_ | exact la_id _ rfl | exact LA.lend (lend_whole rfl (by first | (simp; done) | (rw [List.length_map]; rfl))) | refine LA.agg ?_ | refine LA.fn ?_ | refine LA.lend ?_ | exact Lend.d _ | exact Lend.zs _ | exact lend_whole rfl (by first | (simp; done) | (rw [List.length_map]; rfl)) | refine Lend.ptr rfl ?_ | refine Lend.fn ?_ | exact LendL.nil | refine LendL.cons ?_ ?_)) rfl rfl ?_)
      refine ax_q (q_mov rfl) ?_
      refine ax_nil ?_
      refine cx_keep rfl rfl ?_
      refine cx_cond rfl (fun h4 => ?_) (fun h4 => ?_)
      ·
       skip
       refine cx_seq ?_
       refine cx_ops ?_
       refine ax_q (q_ldN rfl rfl rfl) ?_
       refine ax_q (q_mov rfl) ?_
       refine ax_q (q_sub rfl rfl (by omega)) ?_
       first | refine ax_call rfl (vc_pure0 (ih (i := (j : Int) - 1) ?_ ?_ ?_ ?_) hP rfl rfl ?_) | refine ax_call rfl (vc_lend0 (ih (i := (j : Int) - 1) ?_ ?_ ?_ ?_) hP (by repeat (first | exact lal_id _ rfl | exact LAL.nil | refine LAL.cons ?_ ?_ | exact la_id _ rfl | exact LA.lend (lend_whole rfl (by first | (simp; done) | (rw [List.length_map]; rfl))) | refine LA.agg ?_ | refine LA.fn ?_ | refine LA.lend ?_ | exact Lend.d _ | exact Lend.zs _ | exact lend_whole rfl (by first | (simp; done) | (rw [List.length_map]; rfl)) | refine Lend.ptr rfl ?_ | refine Lend.fn ?_ | exact LendL.nil | refine LendL.cons ?_ ?_)) rfl rfl ?_)
       ·
        first | assumption | omega | (simp; done) | (simp; omega)
       ·
        first | assumption | omega | (simp; done) | (simp; omega)
       ·
        first | assumption | omega | (simp; done) | (simp; omega)
       ·
        first | assumption | omega | (simp; done) | (simp; omega)
       refine ax_q (q_mov rfl) ?_
       refine ax_q (q_ext rfl rfl) ?_
       refine ax_q (q_ext rfl rfl) ?_
       refine ax_q (q_ext rfl rfl) ?_
       refine ax_q (q_mov rfl) ?_
       refine ax_q (q_mov rfl) ?_
       refine ax_q (q_mov rfl) ?_
       refine ax_nil ?_
       refine cx_keep rfl rfl ?_
       refine cx_seq ?_
       refine cx_seq ?_
       refine cx_ops ?_
       refine ax_q (q_mov rfl) ?_
       refine ax_q (q_not rfl) ?_
       refine ax_nil ?_
       refine cx_keep rfl rfl ?_
       refine cx_cond rfl (fun h5 => ?_) (fun h5 => ?_)
       ·
        have h5 := bT h5
        refine cx_seq ?_
        refine cx_ops ?_
        refine ax_q (q_mov rfl) ?_
        refine ax_q (q_mov rfl) ?_
        refine ax_q (q_mov rfl) ?_
        refine ax_nil ?_
        refine cx_keep rfl rfl ?_
        refine cx_ret (ret0 rfl rfl ?_)
        exact ⟨by rw [walkF_at hj, nodeW_4 h1 h2 h3 h4 h5]; rfl, rfl⟩
       ·
        have h5 := bF h5
        refine cx_skip ?_
        refine cx_keep rfl rfl ?_
        refine cx_seq ?_
        refine cx_ops ?_
        refine ax_q (q_ldN rfl rfl rfl) ?_
        refine ax_q (q_mov rfl) ?_
        refine ax_q (q_sub rfl rfl (by omega)) ?_
        first | refine ax_call rfl (vc_pure0 (ih (i := (walkF e.Nodes f ((j : Int) - 1)).1 - 1) ?_ ?_ ?_ ?_) hP rfl rfl ?_) | refine ax_call rfl (vc_lend0 (ih (i := (walkF e.Nodes f ((j : Int) - 1)).1 - 1) ?_ ?_ ?_ ?_) hP (by repeat (first | exact lal_id _ rfl | exact LAL.nil | refine LAL.cons ?_ ?_ | exact la_id _ rfl | exact LA.lend (lend_whole rfl (by first | (simp; done) | (rw [List.length_map]; rfl))) | refine LA.agg ?_ | refine LA.fn ?_ | refine LA.lend ?_ | exact Lend.d _ | exact Lend.zs _ | exact lend_whole rfl (by first | (simp; done) | (rw [List.length_map]; rfl)) | refine Lend.ptr rfl ?_ | refine Lend.fn ?_ | exact LendL.nil | refine LendL.cons ?_ ?_)) rfl rfl ?_)
        ·
         first | assumption | omega | (simp; done) | (simp; omega)
        ·
         first | assumption | omega | (simp; done) | (simp; omega)
        ·
         first | assumption | omega | (simp; done) | (simp; omega)
        ·
         first | assumption | omega | (simp; done) | (simp; omega)
        refine ax_q (q_mov rfl) ?_
        refine ax_q (q_ext rfl rfl) ?_
        refine ax_q (q_ext rfl rfl) ?_
        refine ax_q (q_ext rfl rfl) ?_
        refine ax_q (q_mov rfl) ?_
        refine ax_q (q_mov rfl) ?_
        refine ax_q (q_mov rfl) ?_
        refine ax_nil ?_
        refine cx_keep rfl rfl ?_
        refine cx_seq ?_
        refine cx_draw ?_
        refine ax_q (q_mov rfl) ?_
        refine ax_q (q_mov rfl) ?_
        refine ax_q (q_mov rfl) ?_
        refine ax_qe (r' := int (mxI (walkF e.Nodes f ((walkF e.Nodes f ((j : Int) - 1)).1 - 1)).2.1 (walkF e.Nodes f ((j : Int) - 1)).2.1)) (q_mx rfl rfl) (rfl) ?_
        refine ax_q (q_add rfl rfl (by omega)) ?_
        refine ax_q (q_mov rfl) ?_
        refine ax_q (q_mov rfl) ?_
        apply ax_and rfl rfl
        ·
         intro g
         refine ax_q (q_fadr_ptr rfl) ?_
         refine ax_q (q_load1_ptr rfl rfl rfl) ?_
         refine ax_q (q_mov rfl) ?_
         refine ax_q (q_sub rfl rfl (by omega)) ?_
         refine ax_q (q_ibin rfl rfl rfl) ?_
         exact ax_nil ⟨rfl, by repeat (first | exact trivial | refine ⟨rfl, ?_⟩ | refine ⟨?_, ?_⟩)⟩
        refine ax_q (q_mov rfl) ?_
        apply ax_and rfl rfl
        ·
         intro g
         have g := (fun h => And.intro (id (and_T h).1) (dT (and_T h).2)) g
         refine ax_q (q_fadr_ptr rfl) ?_
         refine ax_q (q_load1_ptr rfl rfl rfl) ?_
         refine ax_q (q_mov rfl) ?_
         refine ax_q (q_sub rfl rfl (by omega)) ?_
         refine ax_q (q_ibin rfl rfl rfl) ?_
         exact ax_nil ⟨rfl, by repeat (first | exact trivial | refine ⟨rfl, ?_⟩ | refine ⟨?_, ?_⟩)⟩
        refine ax_q (q_mov rfl) ?_
        apply ax_and rfl rfl
        ·
         intro g
         have g := (fun h => And.intro ((fun h => And.intro (id (and_T h).1) (dT (and_T h).2)) (and_T h).1) (dT (and_T h).2)) g
         refine ax_q (q_fadr_ptr rfl) ?_
         refine ax_q (q_load1_ptr rfl rfl rfl) ?_
         refine ax_q (q_ibin rfl rfl rfl) ?_
         exact ax_nil ⟨rfl, by repeat (first | exact trivial | refine ⟨rfl, ?_⟩ | refine ⟨?_, ?_⟩)⟩
        refine ax_q (q_mov rfl) ?_
        apply ax_and rfl rfl
        ·
         intro g
         have g := (fun h => And.intro ((fun h => And.intro ((fun h => And.intro (id (and_T h).1) (dT (and_T h).2)) (and_T h).1) (dT (and_T h).2)) (and_T h).1) (dT (and_T h).2)) g
         refine ax_q (q_fadr_ptr rfl) ?_
         refine ax_q (q_ldN rfl rfl rfl) ?_
         refine ax_q (q_build rfl) ?_
         first | refine ax_q (GValue.q_eqs rfl rfl) ?_ | refine ax_q (q_eqs rfl rfl rfl) ?_
         exact ax_nil ⟨rfl, by repeat (first | exact trivial | refine ⟨rfl, ?_⟩ | refine ⟨?_, ?_⟩)⟩
        refine ax_q (q_mov rfl) ?_
        refine ax_q (q_mov rfl) ?_
        refine ax_q (q_mov rfl) ?_
        refine ax_nil ?_
        refine cx_keep rfl rfl ?_
        refine cx_ret (ret0 rfl rfl ?_)
        exact ⟨by rw [walkF_at hj, nodeW_5 h1 h2 h3 h4 h5]; rfl, rfl⟩
      ·
       skip
       refine cx_skip ?_
       refine cx_keep rfl rfl ?_
       refine cx_seq ?_
       refine cx_ops ?_
       refine ax_q (q_mov rfl) ?_
       refine ax_q (q_mov rfl) ?_
       refine ax_q (q_mov rfl) ?_
       refine ax_nil ?_
       refine cx_keep rfl rfl ?_
       refine cx_ret (ret0 rfl rfl ?_)
       exact ⟨by rw [walkF_at hj, nodeW_6 h1 h2 h3 h4]; rfl, rfl⟩


/- loop.example/g00332/spec.ExprOK -/
def k_c_sExprOK : XCode :=
 .seq (.ops [.op (some 1) (.box (.t 0)),
   .op (some 2) (.mov (.k (.bool false)))])
 (.keep [1] (.seq (.seq (.ops [.op (some 6) (.fadr (.t 1) 0),
   .op (some 7) (.load1 (.t 6)),
   .op (some 8) (.lenS (.t 7)),
   .call (some 9) 30 [.t 8, .k (.int .i64 1), .k (.int .i64 40)],
   .op (some 10) (.not (.t 9))])
  (.keep [1, 10] (.cond (.t 10)
  (.seq (.ops [.op (some 2) (.mov (.k (.bool false)))])
   (.keep [2] (.ret)))
  (.skip))))
 (.keep [1] (.seq (.ops [.op (some 12) (.loadN 1 (.t 1)),
   .op (some 13) (.fadr (.t 1) 0),
   .op (some 14) (.load1 (.t 13)),
   .op (some 15) (.lenS (.t 14)),
   .op (some 16) (.bin .sub (.t 15) (.k (.int .i64 1))),
   .call (some 17) 31 [.t 12, .t 16],
   .op (some 11) (.mov (.t 17)),
   .op (some 18) (.ext (.t 11) 0),
   .op (some 19) (.ext (.t 11) 1),
   .op (some 20) (.ext (.t 11) 2),
   .op (some 3) (.mov (.t 18)),
   .op (some 4) (.mov (.t 19)),
   .op (some 5) (.mov (.t 20))])
 (.keep [3, 4, 5] (.seq (.ops [.op (some 21) (.mov (.t 5)),
   .op (some 22) (.mov (.t 21)),
   .andor 25 true 1 22 [.op (some 23) (.mov (.t 3)), .op (some 24) (.bin .eql (.t 23) (.k (.int .i64 0)))] (.t 24),
   .op (some 26) (.mov (.t 25)),
   .andor 29 true 5 26 [.op (some 27) (.mov (.t 4)), .op (some 28) (.bin .leq (.t 27) (.k (.int .i64 12)))] (.t 28),
   .op (some 2) (.mov (.t 29))])
 (.keep [2] (.ret))))))))
theorem k_c_sExprOK_fits : fitsF Tryd.prog 16 ⟨30, k_c_sExprOK, [.t 2]⟩ = true := by kernel_rfl
theorem c_sExprOK {e : GExpr} (hw : e.Nodes.length ≤ 1048576) (hv : ∀ x ∈ e.Nodes, x.V.T.length ≤ 1048576) : Con Tryd.prog noMv 16 [e.av] [] (fun r h => r = bool (exprOK e) ∧ h = []) := by
 refine con_of2 k_c_sExprOK_fits rfl fun C hP hmv => ?_
 unfold k_c_sExprOK
 refine cx_seq ?_
 refine cx_ops ?_
 refine ax_e (e_box rfl rfl (by decide) rfl rfl rfl) ?_
 refine ax_q (q_mov rfl) ?_
 refine ax_nil ?_
 refine cx_keep rfl rfl ?_
 refine cx_seq ?_
 refine cx_seq ?_
 refine cx_ops ?_
 refine ax_q (q_fadr_ptr rfl) ?_
 refine ax_q (q_load1_ptr rfl rfl rfl) ?_
 first | refine ax_q (q_lenS_map rfl) ?_ | refine ax_q (q_lenS_osl rfl) ?_ | refine ax_q (q_lenS_zs rfl) ?_ | refine ax_q (q_lenS rfl) ?_
 first | refine ax_call rfl (vc_pure0 (c_l01In  ) hP rfl rfl ?_) | refine ax_call rfl (vc_lend0 (c_l01In  ) hP (by repeat (first | exact lal_id _ rfl | exact LAL.nil | refine LAL.cons ?_ ?_ | exact la_id _ rfl | exact LA.lend (lend_whole rfl (by first | (simp; done) | (rw [List.length_map]; rfl))) | refine LA.agg ?_ | refine LA.fn ?_ | refine LA.lend ?_ | exact Lend.d _ | exact Lend.zs _ | exact lend_whole rfl (by first | (simp; done) | (rw [List.length_map]; rfl)) | refine Lend.ptr rfl ?_ | refine Lend.fn ?_ | exact LendL.nil | refine LendL.cons ?_ ?_)) rfl rfl ?_)
 refine ax_q (q_not rfl) ?_
 refine ax_nil ?_
 refine cx_keep rfl rfl ?_
 refine cx_cond rfl (fun h0 => ?_) (fun h0 => ?_)
 ·
  have h0 := bT h0
  refine cx_seq ?_
  refine cx_ops ?_
  refine ax_q (q_mov rfl) ?_
  refine ax_nil ?_
  refine cx_keep rfl rfl ?_
  refine cx_ret (ret0 rfl rfl ?_)
  exact ⟨by rw [exprOK_0 h0]; rfl, rfl⟩
 ·
  have h0 := bF h0
  have hn := inR_iff.1 h0
  refine cx_skip ?_
  refine cx_keep rfl rfl ?_
  refine cx_seq ?_
  refine cx_ops ?_
  refine ax_q (q_ldN rfl rfl rfl) ?_
  refine ax_q (q_fadr_ptr rfl) ?_
  refine ax_q (q_load1_ptr rfl rfl rfl) ?_
  first | refine ax_q (q_lenS_map rfl) ?_ | refine ax_q (q_lenS_osl rfl) ?_ | refine ax_q (q_lenS_zs rfl) ?_ | refine ax_q (q_lenS rfl) ?_
  refine ax_q (q_sub rfl rfl (by omega)) ?_
  first | refine ax_call rfl (vc_pure0 (c_l10Walk (f := e.Nodes.length + 1) ?_ ?_ ?_ ?_ ?_ ?_) hP rfl rfl ?_) | refine ax_call rfl (vc_lend0 (c_l10Walk (f := e.Nodes.length + 1) ?_ ?_ ?_ ?_ ?_ ?_) hP (by repeat (first | exact lal_id _ rfl | exact LAL.nil | refine LAL.cons ?_ ?_ | exact la_id _ rfl | exact LA.lend (lend_whole rfl (by first | (simp; done) | (rw [List.length_map]; rfl))) | refine LA.agg ?_ | refine LA.fn ?_ | refine LA.lend ?_ | exact Lend.d _ | exact Lend.zs _ | exact lend_whole rfl (by first | (simp; done) | (rw [List.length_map]; rfl)) | refine Lend.ptr rfl ?_ | refine Lend.fn ?_ | exact LendL.nil | refine LendL.cons ?_ ?_)) rfl rfl ?_)
  ·
   first | assumption | omega | (simp; done) | (simp; omega)
  ·
   first | assumption | omega | (simp; done) | (simp; omega)
  ·
   first | assumption | omega | (simp; done) | (simp; omega)
  ·
   first | assumption | omega | (simp; done) | (simp; omega)
  ·
   first | assumption | omega | (simp; done) | (simp; omega)
  ·
   first | assumption | omega | (simp; done) | (simp; omega)
  refine ax_q (q_mov rfl) ?_
  refine ax_q (q_ext rfl rfl) ?_
  refine ax_q (q_ext rfl rfl) ?_
  refine ax_q (q_ext rfl rfl) ?_
  refine ax_q (q_mov rfl) ?_
  refine ax_q (q_mov rfl) ?_
  refine ax_q (q_mov rfl) ?_
  refine ax_nil ?_
  refine cx_keep rfl rfl ?_
  refine cx_seq ?_
  refine cx_ops ?_
  refine ax_q (q_mov rfl) ?_
  refine ax_q (q_mov rfl) ?_
  apply ax_and rfl rfl
  ·
   intro g
   refine ax_q (q_mov rfl) ?_
   refine ax_q (q_ibin rfl rfl rfl) ?_
   exact ax_nil ⟨rfl, by repeat (first | exact trivial | refine ⟨rfl, ?_⟩ | refine ⟨?_, ?_⟩)⟩
  refine ax_q (q_mov rfl) ?_
  apply ax_and rfl rfl
  ·
   intro g
   have g := (fun h => And.intro (id (and_T h).1) (dT (and_T h).2)) g
   refine ax_q (q_mov rfl) ?_
   refine ax_q (q_ibin rfl rfl rfl) ?_
   exact ax_nil ⟨rfl, by repeat (first | exact trivial | refine ⟨rfl, ?_⟩ | refine ⟨?_, ?_⟩)⟩
  refine ax_q (q_mov rfl) ?_
  refine ax_nil ?_
  refine cx_keep rfl rfl ?_
  refine cx_ret (ret0 rfl rfl ?_)
  exact ⟨by rw [exprOK_1 h0]; rfl, rfl⟩


/- loop.example/g00332/spec.l12None -/
def k_c_l12None : XCode :=
 .seq (.ops [.op (some 1) (.box (.t 0)),
   .op (some 2) (.mov (.k (.bool false)))])
 (.keep [1] (.seq (.ops [.op (some 3) (.fadr (.t 1) 0),
   .op (some 4) (.load1 (.t 3)),
   .op (some 5) (.lenS (.t 4)),
   .op (some 6) (.bin .eql (.t 5) (.k (.int .i64 0))),
   .op (some 2) (.mov (.t 6))])
 (.keep [2] (.ret))))
theorem k_c_l12None_fits : fitsF Tryd.prog 41 ⟨7, k_c_l12None, [.t 2]⟩ = true := by kernel_rfl
theorem c_l12None {e : GExpr} : Con Tryd.prog noMv 41 [e.av] [] (fun r h => r = bool (noneE e) ∧ h = []) := by
 refine con_of2 k_c_l12None_fits rfl fun C hP hmv => ?_
 unfold k_c_l12None
 refine cx_seq ?_
 refine cx_ops ?_
 refine ax_e (e_box rfl rfl (by decide) rfl rfl rfl) ?_
 refine ax_q (q_mov rfl) ?_
 refine ax_nil ?_
 refine cx_keep rfl rfl ?_
 refine cx_seq ?_
 refine cx_ops ?_
 refine ax_q (q_fadr_ptr rfl) ?_
 refine ax_q (q_load1_ptr rfl rfl rfl) ?_
 first | refine ax_q (q_lenS_map rfl) ?_ | refine ax_q (q_lenS_osl rfl) ?_ | refine ax_q (q_lenS_zs rfl) ?_ | refine ax_q (q_lenS rfl) ?_
 refine ax_q (q_ibin rfl rfl rfl) ?_
 refine ax_q (q_mov rfl) ?_
 refine ax_nil ?_
 refine cx_keep rfl rfl ?_
 refine cx_ret (ret0 rfl rfl ?_)
 exact ⟨rfl, rfl⟩


/- loop.example/g00332/spec.l07Row -/
def k_c_l07Row : XCode :=
 .seq (.ops [.op (some 1) (.box (.t 0)),
   .op (some 2) (.mov (.k (.bool false)))])
 (.keep [1] (.seq (.ops [.op (some 3) (.fadr (.t 1) 0),
   .op (some 4) (.load1 (.t 3)),
   .call (some 5) 30 [.t 4, .k (.int .i64 0), .k (.int .i64 1000)],
   .op (some 6) (.mov (.t 5)),
   .andor 10 true 3 6 [.op (some 7) (.fadr (.t 1) 1), .op (some 8) (.loadN 3 (.t 7)), .call (some 9) 53 [.t 8]] (.t 9),
   .op (some 11) (.mov (.t 10)),
   .andor 15 true 8 11 [.op (some 12) (.fadr (.t 1) 4), .op (some 13) (.loadN 3 (.t 12)), .call (some 14) 53 [.t 13]] (.t 14),
   .op (some 16) (.mov (.t 15)),
   .andor 21 true 13 16 [.op (some 17) (.fadr (.t 1) 1), .op (some 18) (.fadr (.t 17) 0), .op (some 19) (.load1 (.t 18)), .op (some 20) (.bin .neq (.t 19) (.k (.int .i64 2)))] (.t 20),
   .op (some 22) (.mov (.t 21)),
   .andor 27 true 19 22 [.op (some 23) (.fadr (.t 1) 4), .op (some 24) (.fadr (.t 23) 0), .op (some 25) (.load1 (.t 24)), .op (some 26) (.bin .neq (.t 25) (.k (.int .i64 1)))] (.t 26),
   .op (some 2) (.mov (.t 27))])
 (.keep [2] (.ret))))
theorem k_c_l07Row_fits : fitsF Tryd.prog 42 ⟨28, k_c_l07Row, [.t 2]⟩ = true := by kernel_rfl
theorem c_l07Row {a : GRow} (hv : a.N.T.length ≤ 1048576) (hw : a.Name.T.length ≤ 1048576) : Con Tryd.prog noMv 42 [a.av] [] (fun r h => r = bool (rowOK a) ∧ h = []) := by
 refine con_of2 k_c_l07Row_fits rfl fun C hP hmv => ?_
 unfold k_c_l07Row
 refine cx_seq ?_
 refine cx_ops ?_
 refine ax_e (e_box rfl rfl (by decide) rfl rfl rfl) ?_
 refine ax_q (q_mov rfl) ?_
 refine ax_nil ?_
 refine cx_keep rfl rfl ?_
 refine cx_seq ?_
 refine cx_ops ?_
 refine ax_q (q_fadr_ptr rfl) ?_
 refine ax_q (q_load1_ptr rfl rfl rfl) ?_
 first | refine ax_call rfl (vc_pure0 (c_l01In  ) hP rfl rfl ?_) | refine ax_call rfl (vc_lend0 (c_l01In  ) hP (by repeat (first | exact lal_id _ rfl | exact LAL.nil | refine LAL.cons ?_ ?_ | exact la_id _ rfl | exact LA.lend (lend_whole rfl (by first | (simp; done) | (rw [List.length_map]; rfl))) | refine LA.agg ?_ | refine LA.fn ?_ | refine LA.lend ?_ | exact Lend.d _ | exact Lend.zs _ | exact lend_whole rfl (by first | (simp; done) | (rw [List.length_map]; rfl)) | refine Lend.ptr rfl ?_ | refine Lend.fn ?_ | exact LendL.nil | refine LendL.cons ?_ ?_)) rfl rfl ?_)
 refine ax_q (q_mov rfl) ?_
 apply ax_and rfl rfl
 ·
  intro g
  refine ax_q (q_fadr_ptr rfl) ?_
  refine ax_q (q_ldN rfl rfl rfl) ?_
  first | refine ax_call rfl (vc_pure0 (c_sValueOK (v := a.N) ?_) hP rfl rfl ?_) | refine ax_call rfl (vc_lend0 (c_sValueOK (v := a.N) ?_) hP (by repeat (first | exact lal_id _ rfl | exact LAL.nil | refine LAL.cons ?_ ?_ | exact la_id _ rfl | exact LA.lend (lend_whole rfl (by first | (simp; done) | (rw [List.length_map]; rfl))) | refine LA.agg ?_ | refine LA.fn ?_ | refine LA.lend ?_ | exact Lend.d _ | exact Lend.zs _ | exact lend_whole rfl (by first | (simp; done) | (rw [List.length_map]; rfl)) | refine Lend.ptr rfl ?_ | refine Lend.fn ?_ | exact LendL.nil | refine LendL.cons ?_ ?_)) rfl rfl ?_)
  ·
   first | assumption | omega | (simp; done) | (simp; omega)
  exact ax_nil ⟨rfl, by repeat (first | exact trivial | refine ⟨rfl, ?_⟩ | refine ⟨?_, ?_⟩)⟩
 refine ax_q (q_mov rfl) ?_
 apply ax_and rfl rfl
 ·
  intro g
  have g := (fun h => And.intro (id (and_T h).1) (id (and_T h).2)) g
  refine ax_q (q_fadr_ptr rfl) ?_
  refine ax_q (q_ldN rfl rfl rfl) ?_
  first | refine ax_call rfl (vc_pure0 (c_sValueOK (v := a.Name) ?_) hP rfl rfl ?_) | refine ax_call rfl (vc_lend0 (c_sValueOK (v := a.Name) ?_) hP (by repeat (first | exact lal_id _ rfl | exact LAL.nil | refine LAL.cons ?_ ?_ | exact la_id _ rfl | exact LA.lend (lend_whole rfl (by first | (simp; done) | (rw [List.length_map]; rfl))) | refine LA.agg ?_ | refine LA.fn ?_ | refine LA.lend ?_ | exact Lend.d _ | exact Lend.zs _ | exact lend_whole rfl (by first | (simp; done) | (rw [List.length_map]; rfl)) | refine Lend.ptr rfl ?_ | refine Lend.fn ?_ | exact LendL.nil | refine LendL.cons ?_ ?_)) rfl rfl ?_)
  ·
   first | assumption | omega | (simp; done) | (simp; omega)
  exact ax_nil ⟨rfl, by repeat (first | exact trivial | refine ⟨rfl, ?_⟩ | refine ⟨?_, ?_⟩)⟩
 refine ax_q (q_mov rfl) ?_
 apply ax_and rfl rfl
 ·
  intro g
  have g := (fun h => And.intro ((fun h => And.intro (id (and_T h).1) (id (and_T h).2)) (and_T h).1) (id (and_T h).2)) g
  refine ax_q (q_fadr_ptr rfl) ?_
  refine ax_q (q_fadr_ptr rfl) ?_
  refine ax_q (q_load1_ptr rfl rfl rfl) ?_
  refine ax_q (q_ibin rfl rfl rfl) ?_
  exact ax_nil ⟨rfl, by repeat (first | exact trivial | refine ⟨rfl, ?_⟩ | refine ⟨?_, ?_⟩)⟩
 refine ax_q (q_mov rfl) ?_
 apply ax_and rfl rfl
 ·
  intro g
  have g := (fun h => And.intro ((fun h => And.intro ((fun h => And.intro (id (and_T h).1) (id (and_T h).2)) (and_T h).1) (id (and_T h).2)) (and_T h).1) (nT (and_T h).2)) g
  refine ax_q (q_fadr_ptr rfl) ?_
  refine ax_q (q_fadr_ptr rfl) ?_
  refine ax_q (q_load1_ptr rfl rfl rfl) ?_
  refine ax_q (q_ibin rfl rfl rfl) ?_
  exact ax_nil ⟨rfl, by repeat (first | exact trivial | refine ⟨rfl, ?_⟩ | refine ⟨?_, ?_⟩)⟩
 refine ax_q (q_mov rfl) ?_
 refine ax_nil ?_
 refine cx_keep rfl rfl ?_
 refine cx_ret (ret0 rfl rfl ?_)
 exact ⟨rfl, rfl⟩


/- loop.example/g00332/spec.StmtOK -/
def k_c_sStmtOK : XCode :=
 .seq (.ops [.op (some 1) (.box (.t 0)),
   .op (some 2) (.mov (.k (.bool false)))])
 (.keep [1] (.seq (.seq (.ops [.op (some 3) (.fadr (.t 1) 0),
   .op (some 4) (.load1 (.t 3)),
   .call (some 5) 30 [.t 4, .k (.int .i64 1), .k (.int .i64 4)],
   .op (some 6) (.not (.t 5)),
   .op (some 7) (.mov (.t 6)),
   .andor 12 false 4 7 [.op (some 8) (.fadr (.t 1) 1), .op (some 9) (.load1 (.t 8)), .call (some 10) 30 [.t 9, .k (.int .i64 1), .k (.int .i64 3)], .op (some 11) (.not (.t 10))] (.t 11),
   .op (some 13) (.mov (.t 12)),
   .andor 29 false 10 13 [.op (some 14) (.fadr (.t 1) 11), .op (some 15) (.loadN 1 (.t 14)), .call (some 16) 41 [.t 15], .op (some 17) (.not (.t 16)), .op (some 18) (.mov (.t 17)), .andor 28 true 15 18 [.op (some 19) (.fadr (.t 1) 0), .op (some 20) (.load1 (.t 19)), .op (some 21) (.bin .eql (.t 20) (.k (.int .i64 2))), .op (some 22) (.mov (.t 21)), .andor 27 false 19 22 [.op (some 23) (.fadr (.t 1) 11), .op (some 24) (.loadN 1 (.t 23)), .call (some 25) 16 [.t 24], .op (some 26) (.not (.t 25))] (.t 26)] (.t 27)] (.t 28)])
  (.keep [1, 29] (.cond (.t 29)
  (.seq (.ops [.op (some 2) (.mov (.k (.bool false)))])
   (.keep [2] (.ret)))
  (.skip))))
 (.keep [1] (.seq (.seq (.ops [.op (some 30) (.fadr (.t 1) 0),
   .op (some 31) (.load1 (.t 30)),
   .op (some 32) (.bin .neq (.t 31) (.k (.int .i64 2))),
   .op (some 33) (.mov (.t 32)),
   .andor 38 true 3 33 [.op (some 34) (.fadr (.t 1) 2), .op (some 35) (.loadN 7 (.t 34)), .op (some 36) (.build [.int .i64 0, .int .i64 0, .int .i64 0, .str [], .int .i64 0, .int .i64 0, .str []] []), .op (some 37) (.eqs true [0, 0, 0, 2, 0, 0, 2] (.t 35) (.t 36))] (.t 37),
   .op (some 39) (.mov (.t 38)),
   .andor 49 false 9 39 [.op (some 40) (.fadr (.t 1) 0), .op (some 41) (.load1 (.t 40)), .op (some 42) (.bin .eql (.t 41) (.k (.int .i64 2))), .op (some 43) (.mov (.t 42)), .andor 48 true 13 43 [.op (some 44) (.fadr (.t 1) 2), .op (some 45) (.loadN 7 (.t 44)), .call (some 46) 42 [.t 45], .op (some 47) (.not (.t 46))] (.t 47)] (.t 48)])
  (.keep [1, 49] (.cond (.t 49)
  (.seq (.ops [.op (some 2) (.mov (.k (.bool false)))])
   (.keep [2] (.ret)))
  (.skip))))
 (.keep [1] (.seq (.seq (.ops [.op (some 50) (.fadr (.t 1) 0),
   .op (some 51) (.load1 (.t 50)),
   .op (some 52) (.bin .eql (.t 51) (.k (.int .i64 3)))])
  (.keep [1, 52] (.cond (.t 52)
  (.seq (.ops [.op (some 53) (.fadr (.t 1) 9),
    .op (some 54) (.load1 (.t 53)),
    .call (some 55) 30 [.t 54, .k (.int .i64 1), .k (.int .i64 2)],
    .op (some 56) (.not (.t 55)),
    .op (some 57) (.mov (.t 56)),
    .andor 62 false 4 57 [.op (some 58) (.fadr (.t 1) 10), .op (some 59) (.loadN 1 (.t 58)), .call (some 60) 16 [.t 59], .op (some 61) (.not (.t 60))] (.t 61)])
   (.keep [1, 62] (.cond (.t 62)
   (.seq (.ops [.op (some 2) (.mov (.k (.bool false)))])
    (.keep [2] (.ret)))
   (.skip))))
  (.seq (.ops [.op (some 63) (.fadr (.t 1) 9),
    .op (some 64) (.load1 (.t 63)),
    .op (some 65) (.bin .neq (.t 64) (.k (.int .i64 0))),
    .op (some 66) (.mov (.t 65)),
    .andor 71 false 3 66 [.op (some 67) (.fadr (.t 1) 10), .op (some 68) (.loadN 1 (.t 67)), .call (some 69) 41 [.t 68], .op (some 70) (.not (.t 69))] (.t 70)])
   (.keep [1, 71] (.cond (.t 71)
   (.seq (.ops [.op (some 2) (.mov (.k (.bool false)))])
    (.keep [2] (.ret)))
   (.skip)))))))
 (.keep [1] (.seq (.seq (.ops [.op (some 72) (.fadr (.t 1) 0),
   .op (some 73) (.load1 (.t 72)),
   .op (some 74) (.bin .neq (.t 73) (.k (.int .i64 1)))])
  (.keep [1, 74] (.cond (.t 74)
  (.seq (.ops [.op (some 75) (.fadr (.t 1) 12),
    .op (some 76) (.load1 (.t 75)),
    .op (some 77) (.bin .eql (.t 76) (.k (.int .i64 0))),
    .op (some 78) (.mov (.t 77)),
    .andor 82 true 3 78 [.op (some 79) (.fadr (.t 1) 13), .op (some 80) (.load1 (.t 79)), .op (some 81) (.not (.t 80))] (.t 81),
    .op (some 2) (.mov (.t 82))])
   (.keep [2] (.ret)))
  (.skip))))
 (.keep [1] (.seq (.ops [.op (some 83) (.fadr (.t 1) 12),
   .op (some 84) (.load1 (.t 83)),
   .call (some 85) 30 [.t 84, .k (.int .i64 0), .k (.int .i64 2)],
   .op (some 2) (.mov (.t 85))])
 (.keep [2] (.ret))))))))))))
theorem k_c_sStmtOK_fits : fitsF Tryd.prog 23 ⟨86, k_c_sStmtOK, [.t 2]⟩ = true := by kernel_rfl
theorem c_sStmtOK {s : GStmt} (hs0 : s.Set.Nodes.length ≤ 1048576) (hs1 : ∀ x ∈ s.Set.Nodes, x.V.T.length ≤ 1048576) (hw0 : s.Where.Nodes.length ≤ 1048576) (hw1 : ∀ x ∈ s.Where.Nodes, x.V.T.length ≤ 1048576) (hr0 : s.Row.N.T.length ≤ 1048576) (hr1 : s.Row.Name.T.length ≤ 1048576) : Con Tryd.prog noMv 23 [s.av] [] (fun r h => r = bool (stmtOK s) ∧ h = []) := by
 refine con_of2 k_c_sStmtOK_fits rfl fun C hP hmv => ?_
 unfold k_c_sStmtOK
 refine cx_seq ?_
 refine cx_ops ?_
 refine ax_e (e_box rfl rfl (by decide) rfl rfl rfl) ?_
 refine ax_q (q_mov rfl) ?_
 refine ax_nil ?_
 refine cx_keep rfl rfl ?_
 refine cx_seq ?_
 refine cx_seq ?_
 refine cx_ops ?_
 refine ax_q (q_fadr_ptr rfl) ?_
 refine ax_q (q_load1_ptr rfl rfl rfl) ?_
 first | refine ax_call rfl (vc_pure0 (c_l01In  ) hP rfl rfl ?_) | refine ax_call rfl (vc_lend0 (c_l01In  ) hP (by repeat (first | exact lal_id _ rfl | exact LAL.nil | refine LAL.cons ?_ ?_ | exact la_id _ rfl | exact LA.lend (lend_whole rfl (by first | (simp; done) | (rw [List.length_map]; rfl))) | refine LA.agg ?_ | refine LA.fn ?_ | refine LA.lend ?_ | exact Lend.d _ | exact Lend.zs _ | exact lend_whole rfl (by first | (simp; done) | (rw [List.length_map]; rfl)) | refine Lend.ptr rfl ?_ | refine Lend.fn ?_ | exact LendL.nil | refine LendL.cons ?_ ?_)) rfl rfl ?_)
 refine ax_q (q_not rfl) ?_
 refine ax_q (q_mov rfl) ?_
 apply ax_or rfl rfl
 ·
  intro g
  have g := bF g
  refine ax_q (q_fadr_ptr rfl) ?_
  refine ax_q (q_load1_ptr rfl rfl rfl) ?_
  first | refine ax_call rfl (vc_pure0 (c_l01In  ) hP rfl rfl ?_) | refine ax_call rfl (vc_lend0 (c_l01In  ) hP (by repeat (first | exact lal_id _ rfl | exact LAL.nil | refine LAL.cons ?_ ?_ | exact la_id _ rfl | exact LA.lend (lend_whole rfl (by first | (simp; done) | (rw [List.length_map]; rfl))) | refine LA.agg ?_ | refine LA.fn ?_ | refine LA.lend ?_ | exact Lend.d _ | exact Lend.zs _ | exact lend_whole rfl (by first | (simp; done) | (rw [List.length_map]; rfl)) | refine Lend.ptr rfl ?_ | refine Lend.fn ?_ | exact LendL.nil | refine LendL.cons ?_ ?_)) rfl rfl ?_)
  refine ax_q (q_not rfl) ?_
  exact ax_nil ⟨rfl, by repeat (first | exact trivial | refine ⟨rfl, ?_⟩ | refine ⟨?_, ?_⟩)⟩
 refine ax_q (q_mov rfl) ?_
 apply ax_or rfl rfl
 ·
  intro g
  have g := (fun h => And.intro (bF (or_F h).1) (bF (or_F h).2)) g
  refine ax_q (q_fadr_ptr rfl) ?_
  refine ax_q (q_ldN rfl rfl rfl) ?_
  first | refine ax_call rfl (vc_pure0 (c_l12None (e := s.Where) ) hP rfl rfl ?_) | refine ax_call rfl (vc_lend0 (c_l12None (e := s.Where) ) hP (by repeat (first | exact lal_id _ rfl | exact LAL.nil | refine LAL.cons ?_ ?_ | exact la_id _ rfl | exact LA.lend (lend_whole rfl (by first | (simp; done) | (rw [List.length_map]; rfl))) | refine LA.agg ?_ | refine LA.fn ?_ | refine LA.lend ?_ | exact Lend.d _ | exact Lend.zs _ | exact lend_whole rfl (by first | (simp; done) | (rw [List.length_map]; rfl)) | refine Lend.ptr rfl ?_ | refine Lend.fn ?_ | exact LendL.nil | refine LendL.cons ?_ ?_)) rfl rfl ?_)
  refine ax_q (q_not rfl) ?_
  refine ax_q (q_mov rfl) ?_
  apply ax_and rfl rfl
  ·
   intro g
   have g := bT g
   refine ax_q (q_fadr_ptr rfl) ?_
   refine ax_q (q_load1_ptr rfl rfl rfl) ?_
   refine ax_q (q_ibin rfl rfl rfl) ?_
   refine ax_q (q_mov rfl) ?_
   apply ax_or rfl rfl
   ·
    intro g
    have g := dF g
    refine ax_q (q_fadr_ptr rfl) ?_
    refine ax_q (q_ldN rfl rfl rfl) ?_
    first | refine ax_call rfl (vc_pure0 (c_sExprOK (e := s.Where) ?_ ?_) hP rfl rfl ?_) | refine ax_call rfl (vc_lend0 (c_sExprOK (e := s.Where) ?_ ?_) hP (by repeat (first | exact lal_id _ rfl | exact LAL.nil | refine LAL.cons ?_ ?_ | exact la_id _ rfl | exact LA.lend (lend_whole rfl (by first | (simp; done) | (rw [List.length_map]; rfl))) | refine LA.agg ?_ | refine LA.fn ?_ | refine LA.lend ?_ | exact Lend.d _ | exact Lend.zs _ | exact lend_whole rfl (by first | (simp; done) | (rw [List.length_map]; rfl)) | refine Lend.ptr rfl ?_ | refine Lend.fn ?_ | exact LendL.nil | refine LendL.cons ?_ ?_)) rfl rfl ?_)
    ·
     first | assumption | omega | (simp; done) | (simp; omega)
    ·
     first | assumption | omega | (simp; done) | (simp; omega)
    refine ax_q (q_not rfl) ?_
    exact ax_nil ⟨rfl, by repeat (first | exact trivial | refine ⟨rfl, ?_⟩ | refine ⟨?_, ?_⟩)⟩
   exact ax_nil ⟨rfl, by repeat (first | exact trivial | refine ⟨rfl, ?_⟩ | refine ⟨?_, ?_⟩)⟩
  exact ax_nil ⟨rfl, by repeat (first | exact trivial | refine ⟨rfl, ?_⟩ | refine ⟨?_, ?_⟩)⟩
 refine ax_nil ?_
 refine cx_keep rfl rfl ?_
 refine cx_cond rfl (fun h0 => ?_) (fun h0 => ?_)
 ·
  have h0 : sBad0 s = true := h0
  refine cx_seq ?_
  refine cx_ops ?_
  refine ax_q (q_mov rfl) ?_
  refine ax_nil ?_
  refine cx_keep rfl rfl ?_
  refine cx_ret (ret0 rfl rfl ?_)
  exact ⟨by unfold stmtOK; rw [h0]; rfl, rfl⟩
 ·
  have h0 : sBad0 s = false := h0
  refine cx_skip ?_
  refine cx_keep rfl rfl ?_
  refine cx_seq ?_
  refine cx_seq ?_
  refine cx_ops ?_
  refine ax_q (q_fadr_ptr rfl) ?_
  refine ax_q (q_load1_ptr rfl rfl rfl) ?_
  refine ax_q (q_ibin rfl rfl rfl) ?_
  refine ax_q (q_mov rfl) ?_
  apply ax_and rfl rfl
  ·
   intro g
   have g := nT g
   refine ax_q (q_fadr_ptr rfl) ?_
   refine ax_q (q_ldN rfl rfl rfl) ?_
   refine ax_q (q_build rfl) ?_
   first | refine ax_q (GRow.q_eqs rfl rfl) ?_ | refine ax_q (q_eqs rfl rfl rfl) ?_
   exact ax_nil ⟨rfl, by repeat (first | exact trivial | refine ⟨rfl, ?_⟩ | refine ⟨?_, ?_⟩)⟩
  refine ax_q (q_mov rfl) ?_
  apply ax_or rfl rfl
  ·
   intro g
   have g := (fun h => (and_F h).imp nF bF) g
   refine ax_q (q_fadr_ptr rfl) ?_
   refine ax_q (q_load1_ptr rfl rfl rfl) ?_
   refine ax_q (q_ibin rfl rfl rfl) ?_
   refine ax_q (q_mov rfl) ?_
   apply ax_and rfl rfl
   ·
    intro g
    have g := dT g
    refine ax_q (q_fadr_ptr rfl) ?_
    refine ax_q (q_ldN rfl rfl rfl) ?_
    first | refine ax_call rfl (vc_pure0 (c_l07Row (a := s.Row) ?_ ?_) hP rfl rfl ?_) | refine ax_call rfl (vc_lend0 (c_l07Row (a := s.Row) ?_ ?_) hP (by repeat (first | exact lal_id _ rfl | exact LAL.nil | refine LAL.cons ?_ ?_ | exact la_id _ rfl | exact LA.lend (lend_whole rfl (by first | (simp; done) | (rw [List.length_map]; rfl))) | refine LA.agg ?_ | refine LA.fn ?_ | refine LA.lend ?_ | exact Lend.d _ | exact Lend.zs _ | exact lend_whole rfl (by first | (simp; done) | (rw [List.length_map]; rfl)) | refine Lend.ptr rfl ?_ | refine Lend.fn ?_ | exact LendL.nil | refine LendL.cons ?_ ?_)) rfl rfl ?_)
    ·
     first | assumption | omega | (simp; done) | (simp; omega)
    ·
     first | assumption | omega | (simp; done) | (simp; omega)
    refine ax_q (q_not rfl) ?_
    exact ax_nil ⟨rfl, by repeat (first | exact trivial | refine ⟨rfl, ?_⟩ | refine ⟨?_, ?_⟩)⟩
   exact ax_nil ⟨rfl, by repeat (first | exact trivial | refine ⟨rfl, ?_⟩ | refine ⟨?_, ?_⟩)⟩
  refine ax_nil ?_
  refine cx_keep rfl rfl ?_
  refine cx_cond rfl (fun h1 => ?_) (fun h1 => ?_)
  ·
   have h1 : sBad1 s = true := h1
   refine cx_seq ?_
   refine cx_ops ?_
   refine ax_q (q_mov rfl) ?_
   refine ax_nil ?_
   refine cx_keep rfl rfl ?_
   refine cx_ret (ret0 rfl rfl ?_)
   exact ⟨by unfold stmtOK; rw [h0, h1]; rfl, rfl⟩
  ·
   have h1 : sBad1 s = false := h1
   refine cx_skip ?_
   refine cx_keep rfl rfl ?_
   refine cx_seq ?_
   refine cx_seq ?_
   refine cx_ops ?_
   refine ax_q (q_fadr_ptr rfl) ?_
   refine ax_q (q_load1_ptr rfl rfl rfl) ?_
   refine ax_q (q_ibin rfl rfl rfl) ?_
   refine ax_nil ?_
   refine cx_keep rfl rfl ?_
   refine cx_cond rfl (fun h2 => ?_) (fun h2 => ?_)
   ·
    have h2 := dT h2
    refine cx_seq ?_
    refine cx_ops ?_
    refine ax_q (q_fadr_ptr rfl) ?_
    refine ax_q (q_load1_ptr rfl rfl rfl) ?_
    first | refine ax_call rfl (vc_pure0 (c_l01In  ) hP rfl rfl ?_) | refine ax_call rfl (vc_lend0 (c_l01In  ) hP (by repeat (first | exact lal_id _ rfl | exact LAL.nil | refine LAL.cons ?_ ?_ | exact la_id _ rfl | exact LA.lend (lend_whole rfl (by first | (simp; done) | (rw [List.length_map]; rfl))) | refine LA.agg ?_ | refine LA.fn ?_ | refine LA.lend ?_ | exact Lend.d _ | exact Lend.zs _ | exact lend_whole rfl (by first | (simp; done) | (rw [List.length_map]; rfl)) | refine Lend.ptr rfl ?_ | refine Lend.fn ?_ | exact LendL.nil | refine LendL.cons ?_ ?_)) rfl rfl ?_)
    refine ax_q (q_not rfl) ?_
    refine ax_q (q_mov rfl) ?_
    apply ax_or rfl rfl
    ·
     intro g
     have g := bF g
     refine ax_q (q_fadr_ptr rfl) ?_
     refine ax_q (q_ldN rfl rfl rfl) ?_
     first | refine ax_call rfl (vc_pure0 (c_sExprOK (e := s.Set) ?_ ?_) hP rfl rfl ?_) | refine ax_call rfl (vc_lend0 (c_sExprOK (e := s.Set) ?_ ?_) hP (by repeat (first | exact lal_id _ rfl | exact LAL.nil | refine LAL.cons ?_ ?_ | exact la_id _ rfl | exact LA.lend (lend_whole rfl (by first | (simp; done) | (rw [List.length_map]; rfl))) | refine LA.agg ?_ | refine LA.fn ?_ | refine LA.lend ?_ | exact Lend.d _ | exact Lend.zs _ | exact lend_whole rfl (by first | (simp; done) | (rw [List.length_map]; rfl)) | refine Lend.ptr rfl ?_ | refine Lend.fn ?_ | exact LendL.nil | refine LendL.cons ?_ ?_)) rfl rfl ?_)
     ·
      first | assumption | omega | (simp; done) | (simp; omega)
     ·
      first | assumption | omega | (simp; done) | (simp; omega)
     refine ax_q (q_not rfl) ?_
     exact ax_nil ⟨rfl, by repeat (first | exact trivial | refine ⟨rfl, ?_⟩ | refine ⟨?_, ?_⟩)⟩
    refine ax_nil ?_
    refine cx_keep rfl rfl ?_
    refine cx_cond rfl (fun h3 => ?_) (fun h3 => ?_)
    ·
     have h3 : sBad3 s = true := h3
     refine cx_seq ?_
     refine cx_ops ?_
     refine ax_q (q_mov rfl) ?_
     refine ax_nil ?_
     refine cx_keep rfl rfl ?_
     refine cx_ret (ret0 rfl rfl ?_)
     exact ⟨by unfold stmtOK; rw [h0, h1, decide_eq_true h2, h3]; rfl, rfl⟩
    ·
     have h3 : sBad3 s = false := h3
     refine cx_skip ?_
     refine cx_keep rfl rfl ?_
     refine cx_seq ?_
     refine cx_seq ?_
     refine cx_ops ?_
     refine ax_q (q_fadr_ptr rfl) ?_
     refine ax_q (q_load1_ptr rfl rfl rfl) ?_
     refine ax_q (q_ibin rfl rfl rfl) ?_
     refine ax_nil ?_
     refine cx_keep rfl rfl ?_
     refine cx_cond rfl (fun h5 => ?_) (fun h5 => ?_)
     ·
      have h5 := nT h5
      refine cx_seq ?_
      refine cx_ops ?_
      refine ax_q (q_fadr_ptr rfl) ?_
      refine ax_q (q_load1_ptr rfl rfl rfl) ?_
      refine ax_q (q_ibin rfl rfl rfl) ?_
      refine ax_q (q_mov rfl) ?_
      apply ax_and rfl rfl
      ·
       intro g
       have g := dT g
       refine ax_q (q_fadr_ptr rfl) ?_
       refine ax_q (q_load1_ptr rfl rfl rfl) ?_
       refine ax_q (q_not rfl) ?_
       exact ax_nil ⟨rfl, by repeat (first | exact trivial | refine ⟨rfl, ?_⟩ | refine ⟨?_, ?_⟩)⟩
      refine ax_q (q_mov rfl) ?_
      refine ax_nil ?_
      refine cx_keep rfl rfl ?_
      refine cx_ret (ret0 rfl rfl ?_)
      have e : stmtOK s = sTail s := by
       unfold stmtOK; rw [h0, h1]
       first | (rw [decide_eq_true h2, h3]; rfl) | (rw [decide_eq_false h2, h4]; rfl)
      exact ⟨by rw [e]; unfold sTail; rw [decide_eq_false h5]; rfl, rfl⟩
     ·
      have h5 := nF h5
      refine cx_skip ?_
      refine cx_keep rfl rfl ?_
      refine cx_seq ?_
      refine cx_ops ?_
      refine ax_q (q_fadr_ptr rfl) ?_
      refine ax_q (q_load1_ptr rfl rfl rfl) ?_
      first | refine ax_call rfl (vc_pure0 (c_l01In  ) hP rfl rfl ?_) | refine ax_call rfl (vc_lend0 (c_l01In  ) hP (by repeat (first | exact lal_id _ rfl | exact LAL.nil | refine LAL.cons ?_ ?_ | exact la_id _ rfl | exact LA.lend (lend_whole rfl (by first | (simp; done) | (rw [List.length_map]; rfl))) | refine LA.agg ?_ | refine LA.fn ?_ | refine LA.lend ?_ | exact Lend.d _ | exact Lend.zs _ | exact lend_whole rfl (by first | (simp; done) | (rw [List.length_map]; rfl)) | refine Lend.ptr rfl ?_ | refine Lend.fn ?_ | exact LendL.nil | refine LendL.cons ?_ ?_)) rfl rfl ?_)
      refine ax_q (q_mov rfl) ?_
      refine ax_nil ?_
      refine cx_keep rfl rfl ?_
      refine cx_ret (ret0 rfl rfl ?_)
      have e : stmtOK s = sTail s := by
       unfold stmtOK; rw [h0, h1]
       first | (rw [decide_eq_true h2, h3]; rfl) | (rw [decide_eq_false h2, h4]; rfl)
      exact ⟨by rw [e]; unfold sTail; rw [decide_eq_true h5]; rfl, rfl⟩
   ·
    have h2 := dF h2
    refine cx_seq ?_
    refine cx_ops ?_
    refine ax_q (q_fadr_ptr rfl) ?_
    refine ax_q (q_load1_ptr rfl rfl rfl) ?_
    refine ax_q (q_ibin rfl rfl rfl) ?_
    refine ax_q (q_mov rfl) ?_
    apply ax_or rfl rfl
    ·
     intro g
     have g := nF g
     refine ax_q (q_fadr_ptr rfl) ?_
     refine ax_q (q_ldN rfl rfl rfl) ?_
     first | refine ax_call rfl (vc_pure0 (c_l12None (e := s.Set) ) hP rfl rfl ?_) | refine ax_call rfl (vc_lend0 (c_l12None (e := s.Set) ) hP (by repeat (first | exact lal_id _ rfl | exact LAL.nil | refine LAL.cons ?_ ?_ | exact la_id _ rfl | exact LA.lend (lend_whole rfl (by first | (simp; done) | (rw [List.length_map]; rfl))) | refine LA.agg ?_ | refine LA.fn ?_ | refine LA.lend ?_ | exact Lend.d _ | exact Lend.zs _ | exact lend_whole rfl (by first | (simp; done) | (rw [List.length_map]; rfl)) | refine Lend.ptr rfl ?_ | refine Lend.fn ?_ | exact LendL.nil | refine LendL.cons ?_ ?_)) rfl rfl ?_)
     refine ax_q (q_not rfl) ?_
     exact ax_nil ⟨rfl, by repeat (first | exact trivial | refine ⟨rfl, ?_⟩ | refine ⟨?_, ?_⟩)⟩
    refine ax_nil ?_
    refine cx_keep rfl rfl ?_
    refine cx_cond rfl (fun h4 => ?_) (fun h4 => ?_)
    ·
     have h4 : sBad4 s = true := h4
     refine cx_seq ?_
     refine cx_ops ?_
     refine ax_q (q_mov rfl) ?_
     refine ax_nil ?_
     refine cx_keep rfl rfl ?_
     refine cx_ret (ret0 rfl rfl ?_)
     exact ⟨by unfold stmtOK; rw [h0, h1, decide_eq_false h2, h4]; rfl, rfl⟩
    ·
     have h4 : sBad4 s = false := h4
     refine cx_skip ?_
     refine cx_keep rfl rfl ?_
     refine cx_seq ?_
     refine cx_seq ?_
     refine cx_ops ?_
     refine ax_q (q_fadr_ptr rfl) ?_
     refine ax_q (q_load1_ptr rfl rfl rfl) ?_
     refine ax_q (q_ibin rfl rfl rfl) ?_
     refine ax_nil ?_
     refine cx_keep rfl rfl ?_
     refine cx_cond rfl (fun h5 => ?_) (fun h5 => ?_)
     ·
      have h5 := nT h5
      refine cx_seq ?_
      refine cx_ops ?_
      refine ax_q (q_fadr_ptr rfl) ?_
      refine ax_q (q_load1_ptr rfl rfl rfl) ?_
      refine ax_q (q_ibin rfl rfl rfl) ?_
      refine ax_q (q_mov rfl) ?_
      apply ax_and rfl rfl
      ·
       intro g
       have g := dT g
       refine ax_q (q_fadr_ptr rfl) ?_
       refine ax_q (q_load1_ptr rfl rfl rfl) ?_
       refine ax_q (q_not rfl) ?_
       exact ax_nil ⟨rfl, by repeat (first | exact trivial | refine ⟨rfl, ?_⟩ | refine ⟨?_, ?_⟩)⟩
      refine ax_q (q_mov rfl) ?_
      refine ax_nil ?_
      refine cx_keep rfl rfl ?_
      refine cx_ret (ret0 rfl rfl ?_)
      have e : stmtOK s = sTail s := by
       unfold stmtOK; rw [h0, h1]
       first | (rw [decide_eq_true h2, h3]; rfl) | (rw [decide_eq_false h2, h4]; rfl)
      exact ⟨by rw [e]; unfold sTail; rw [decide_eq_false h5]; rfl, rfl⟩
     ·
      have h5 := nF h5
      refine cx_skip ?_
      refine cx_keep rfl rfl ?_
      refine cx_seq ?_
      refine cx_ops ?_
      refine ax_q (q_fadr_ptr rfl) ?_
      refine ax_q (q_load1_ptr rfl rfl rfl) ?_
      first | refine ax_call rfl (vc_pure0 (c_l01In  ) hP rfl rfl ?_) | refine ax_call rfl (vc_lend0 (c_l01In  ) hP (by repeat (first | exact lal_id _ rfl | exact LAL.nil | refine LAL.cons ?_ ?_ | exact la_id _ rfl | exact LA.lend (lend_whole rfl (by first | (simp; done) | (rw [List.length_map]; rfl))) | refine LA.agg ?_ | refine LA.fn ?_ | refine LA.lend ?_ | exact Lend.d _ | exact Lend.zs _ | exact lend_whole rfl (by first | (simp; done) | (rw [List.length_map]; rfl)) | refine Lend.ptr rfl ?_ | refine Lend.fn ?_ | exact LendL.nil | refine LendL.cons ?_ ?_)) rfl rfl ?_)
      refine ax_q (q_mov rfl) ?_
      refine ax_nil ?_
      refine cx_keep rfl rfl ?_
      refine cx_ret (ret0 rfl rfl ?_)
      have e : stmtOK s = sTail s := by
       unfold stmtOK; rw [h0, h1]
       first | (rw [decide_eq_true h2, h3]; rfl) | (rw [decide_eq_false h2, h4]; rfl)
      exact ⟨by rw [e]; unfold sTail; rw [decide_eq_true h5]; rfl, rfl⟩


/- loop.example/g00332/spec.l00Digits -/
def k_c_l00Digits : XCode :=
 .seq (.ops [.op (some 2) (.mov (.k (.str [])))])
 (.keep [0] (.seq (.seq (.ops [.op (some 3) (.mov (.t 0)),
   .op (some 4) (.bin .eql (.t 3) (.k (.int .i64 (-9223372036854775808))))])
  (.keep [0, 4] (.cond (.t 4)
  (.seq (.ops [.op (some 2) (.mov (.k (.str [45, 57, 50, 50, 51, 51, 55, 50, 48, 51, 54, 56, 53, 52, 55, 55, 53, 56, 48, 56])))])
   (.keep [2] (.ret)))
  (.skip))))
 (.keep [0] (.seq (.seq (.ops [.op (some 5) (.mov (.t 0)),
   .op (some 6) (.bin .lss (.t 5) (.k (.int .i64 0)))])
  (.keep [0, 6] (.cond (.t 6)
  (.seq (.ops [.op (some 7) (.mov (.t 0)),
    .op (some 8) (.neg (.t 7)),
    .call (some 9) 43 [.t 8],
    .op (some 10) (.bin .add (.k (.str [45])) (.t 9)),
    .op (some 2) (.mov (.t 10))])
   (.keep [2] (.ret)))
  (.skip))))
 (.keep [0] (.seq (.seq (.ops [.op (some 11) (.mov (.t 0)),
   .op (some 12) (.bin .lss (.t 11) (.k (.int .i64 10)))])
  (.keep [0, 12] (.cond (.t 12)
  (.seq (.ops [.op (some 13) (.mov (.t 0)),
    .op (some 14) (.bin .add (.k (.int .i64 48)) (.t 13)),
    .op (some 15) (.conv .u8 (.t 14)),
    .op (some 16) (.bslice 1 [.t 15]),
    .op (some 17) (.b2s (.t 16)),
    .op (some 2) (.mov (.t 17))])
   (.keep [2] (.ret)))
  (.skip))))
 (.keep [0] (.seq (.drawE [[], [0], [0, 1], [], [3], [3, 4], [3, 4, 5], [3, 4, 5, 6], [3, 4, 5, 6, 7], [0, 1, 2, 3, 4, 5, 6, 7, 8], [0, 1, 2, 3, 4, 5, 6, 7, 8, 9]] [.op (some 18) (.mov (.t 0)),
   .op (some 19) (.bin .quo (.t 18) (.k (.int .i64 10))),
   .call (some 20) 43 [.t 19],
   .op (some 21) (.mov (.t 0)),
   .op (some 22) (.bin .rem (.t 21) (.k (.int .i64 10))),
   .op (some 23) (.bin .add (.k (.int .i64 48)) (.t 22)),
   .op (some 24) (.conv .u8 (.t 23)),
   .op (some 25) (.bslice 1 [.t 24]),
   .op (some 26) (.b2s (.t 25))]
  [.op (some 27) (.bin .add (.t 20) (.t 26)),
   .op (some 2) (.mov (.t 27))])
 (.keep [2] (.ret))))))))))
theorem k_c_l00Digits_fits : fitsF Tryd.prog 43 ⟨28, k_c_l00Digits, [.t 2]⟩ = true := by kernel_rfl
theorem c_l00Digits {f : Nat} {n : Int} (hf : dgM f n) : Con Tryd.prog noMv 43 [int n] [] (fun r h => r = str (Lib.itoa n) ∧ h = []) := by
 induction f generalizing n with
 | zero => exact absurd hf.1 (by decide)
 | succ f ih =>
  refine con_of2 k_c_l00Digits_fits rfl fun C hP hmv => ?_
  unfold k_c_l00Digits
  have hb := dgM_b hf
  have hfl := hf.2.1
  refine cx_seq ?_
  refine cx_ops ?_
  refine ax_q (q_mov rfl) ?_
  refine ax_nil ?_
  refine cx_keep rfl rfl ?_
  refine cx_seq ?_
  refine cx_seq ?_
  refine cx_ops ?_
  refine ax_q (q_mov rfl) ?_
  refine ax_q (q_ibin rfl rfl rfl) ?_
  refine ax_nil ?_
  refine cx_keep rfl rfl ?_
  refine cx_cond rfl (fun h0 => ?_) (fun h0 => ?_)
  ·
   have h0 := dT h0
   exfalso; omega
  ·
   have h0 := dF h0
   refine cx_skip ?_
   refine cx_keep rfl rfl ?_
   refine cx_seq ?_
   refine cx_seq ?_
   refine cx_ops ?_
   refine ax_q (q_mov rfl) ?_
   refine ax_q (q_ibin rfl rfl rfl) ?_
   refine ax_nil ?_
   refine cx_keep rfl rfl ?_
   refine cx_cond rfl (fun h1 => ?_) (fun h1 => ?_)
   ·
    have h1 := dT h1
    have hln := itoa_len (dgM_neg hf h1)
    refine cx_seq ?_
    refine cx_ops ?_
    refine ax_q (q_mov rfl) ?_
    first | refine ax_q (q_negI rfl (by omega)) ?_ | refine ax_q (q_neg rfl) ?_
    first | refine ax_call rfl (vc_pure0 (ih  ?_) hP rfl rfl ?_) | refine ax_call rfl (vc_lend0 (ih  ?_) hP (by repeat (first | exact lal_id _ rfl | exact LAL.nil | refine LAL.cons ?_ ?_ | exact la_id _ rfl | exact LA.lend (lend_whole rfl (by first | (simp; done) | (rw [List.length_map]; rfl))) | refine LA.agg ?_ | refine LA.fn ?_ | refine LA.lend ?_ | exact Lend.d _ | exact Lend.zs _ | exact lend_whole rfl (by first | (simp; done) | (rw [List.length_map]; rfl)) | refine Lend.ptr rfl ?_ | refine Lend.fn ?_ | exact LendL.nil | refine LendL.cons ?_ ?_)) rfl rfl ?_)
    ·
     exact dgM_neg hf h1
    refine ax_qe (r' := str (45 :: Lib.itoa (-n))) (q_sbin_add rfl rfl (by simp; omega)) (rfl) ?_
    refine ax_q (q_mov rfl) ?_
    refine ax_nil ?_
    refine cx_keep rfl rfl ?_
    refine cx_ret (ret0 rfl rfl ?_)
    exact ⟨by rw [itoa_neg h1]; rfl, rfl⟩
   ·
    have h1 := dF h1
    refine cx_skip ?_
    refine cx_keep rfl rfl ?_
    refine cx_seq ?_
    refine cx_seq ?_
    refine cx_ops ?_
    refine ax_q (q_mov rfl) ?_
    refine ax_q (q_ibin rfl rfl rfl) ?_
    refine ax_nil ?_
    refine cx_keep rfl rfl ?_
    refine cx_cond rfl (fun h2 => ?_) (fun h2 => ?_)
    ·
     have h2 := dT h2
     refine cx_seq ?_
     refine cx_ops ?_
     refine ax_q (q_mov rfl) ?_
     refine ax_qe (r' := int ((48 + n.toNat : Nat) : Int)) (q_ibin rfl rfl rfl) (by rw [wi (by omega) (by omega)]; exact congrArg AM.int (by omega)) ?_
     refine ax_qe (r' := .d (.int .u8 ((UInt8.ofNat (48 + n.toNat)).toNat : Int))) (q_conv rfl) (by rw [byteConv (by omega)]) ?_
     refine ax_e (e_bslice rfl (by decide) rfl rfl) ?_
     refine ax_q (q_b2s (bs := [UInt8.ofNat (48 + n.toNat)]) rfl (src_osl rfl (by simp)) (by simp [byteRow]) ⟨_, _, _, _, .inl rfl⟩) ?_
     refine ax_q (q_mov rfl) ?_
     refine ax_nil ?_
     refine cx_keep rfl rfl ?_
     refine cx_ret (ret0 rfl rfl ?_)
     exact ⟨by rw [itoa_one (by omega) h2]; rfl, rfl⟩
    ·
     have h2 := dF h2
     have hdv := dgM_div hf h2
     have hln := itoa_len hdv
     refine cx_skip ?_
     refine cx_keep rfl rfl ?_
     refine cx_seq ?_
     refine cx_drawL 0 18 (fun _ => false) (fun _ => true) [] ([]) [[0], [18], [19], [0], [21], [22], [23], [24], [25]] [[], [], [], [], [], [], [], [], []] rfl ?_
     first | refine ⟨⟨18, _, []⟩, .inl ⟨rfl, rfl, rfl, locl_of (loc_q (q_mov rfl))⟩, ?_⟩
     first | refine ⟨_, .inr ⟨rfl, _, rfl, .inr ⟨rfl, rfl, .inl rfl, rfl, rfl⟩, loc_qe (r' := int (n / 10)) (q_idiv rfl rfl rfl (by decide)) (by rw [Int.tdiv_eq_ediv_of_nonneg (by omega), wi (by omega) (by omega)])⟩, ?_⟩
     first | refine ⟨_, .inr ⟨rfl, _, rfl, .inr ⟨rfl, rfl, .inl rfl, rfl, rfl⟩, loc_call (fun i => 20 + 200 * i) false rfl (ih  (by first | assumption | omega | (simp; done) | (simp; omega))) hP (.inr ⟨rfl, rfl, rfl⟩) rfl rfl (fun h => by cases h)⟩, ?_⟩ | refine ⟨_, .inr ⟨rfl, _, rfl, .inr ⟨rfl, rfl, .inl rfl, rfl, rfl⟩, loc_call (fun i => 20 + 200 * i) true rfl (ih  (by first | assumption | omega | (simp; done) | (simp; omega))) hP (.inl ⟨rfl, (by repeat (first | exact lal_id _ rfl | exact LAL.nil | refine LAL.cons ?_ ?_ | exact la_id _ rfl | exact LA.lend (lend_whole rfl (by first | (simp; done) | (rw [List.length_map]; rfl))) | refine LA.agg ?_ | refine LA.fn ?_ | refine LA.lend ?_ | exact Lend.d _ | exact Lend.zs _ | exact lend_whole rfl (by first | (simp; done) | (rw [List.length_map]; rfl)) | refine Lend.ptr rfl ?_ | refine Lend.fn ?_ | exact LendL.nil | refine LendL.cons ?_ ?_))⟩) rfl rfl (fun _ => ⟨rfl, noisl_of (by repeat (first | exact trivial | refine ⟨noisl_map (fun _ => rfl), ?_⟩ | refine ⟨?_, ?_⟩))⟩)⟩, ?_⟩
     first | refine ⟨_, .inr ⟨rfl, _, rfl, .inr ⟨rfl, rfl, .inr rfl, rfl, rfl⟩, loc_q (q_mov rfl)⟩, ?_⟩
     first | refine ⟨_, .inr ⟨rfl, _, rfl, .inr ⟨rfl, rfl, .inr rfl, rfl, rfl⟩, loc_qe (r' := int ((n % 10).toNat : Nat)) (q_idiv rfl rfl rfl (by decide)) (by rw [Int.tmod_eq_emod_of_nonneg (by omega)]; exact congrArg AM.int (by omega))⟩, ?_⟩
     first | refine ⟨_, .inr ⟨rfl, _, rfl, .inr ⟨rfl, rfl, .inr rfl, rfl, rfl⟩, loc_qe (r' := int ((48 + (n % 10).toNat : Nat) : Int)) (q_ibin rfl rfl rfl) (by rw [wi (by omega) (by omega)]; exact congrArg AM.int (by omega))⟩, ?_⟩
     first | refine ⟨_, .inr ⟨rfl, _, rfl, .inr ⟨rfl, rfl, .inr rfl, rfl, rfl⟩, loc_qe (r' := .d (.int .u8 ((UInt8.ofNat (48 + (n % 10).toNat)).toNat : Int))) (q_conv rfl) (by rw [byteConv (by omega)])⟩, ?_⟩
     first | refine ⟨_, .inr ⟨rfl, _, rfl, .inr ⟨rfl, rfl, .inr rfl, rfl, rfl⟩, loc_bslice rfl⟩, ?_⟩
     first | refine ⟨_, .inr ⟨rfl, _, rfl, .inr ⟨rfl, rfl, .inr rfl, rfl, rfl⟩, loc_q (q_b2s (bs := [UInt8.ofNat (48 + (n % 10).toNat)]) rfl (src_osl rfl (by simp)) (by simp [byteRow]) ⟨_, _, _, _, .inl rfl⟩)⟩, ?_⟩
     refine ⟨rfl, ?_⟩
     refine ax_qe (r' := str (Lib.itoa (n / 10) ++ [UInt8.ofNat (48 + (n % 10).toNat)])) (q_sbin_add rfl rfl (by simp; omega)) (rfl) ?_
     refine ax_q (q_mov rfl) ?_
     refine ax_nil ?_
     refine cx_keep rfl rfl ?_
     refine cx_ret (ret0 rfl rfl ?_)
     exact ⟨by rw [itoa_more h2]; rfl, rfl⟩


/- loop.example/g00332/spec.l01Text -/
def k_c_l01Text : XCode :=
 .seq (.ops [.op (some 1) (.box (.t 0)),
   .op (some 2) (.mov (.k (.str [])))])
 (.keep [1] (.seq (.seq (.ops [.op (some 3) (.fadr (.t 1) 0),
   .op (some 4) (.load1 (.t 3))])
  (.keep [1, 4] (.block 0 (.seq (.ops [.op (some 6) (.bin .eql (.t 4) (.k (.int .i64 0))),
    .op (some 5) (.mov (.t 6))])
  (.keep [1, 4, 5] (.cond (.t 5)
   (.seq (.ops [.op (some 2) (.mov (.k (.str [110, 117, 108, 108])))])
   (.keep [2] (.ret)))
   (.seq (.ops [.op (some 8) (.bin .eql (.t 4) (.k (.int .i64 1))),
     .op (some 7) (.mov (.t 8))])
   (.keep [1, 7] (.cond (.t 7)
    (.seq (.ops [.op (some 9) (.fadr (.t 1) 1),
      .op (some 10) (.load1 (.t 9)),
      .call (some 11) 43 [.t 10],
      .op (some 2) (.mov (.t 11))])
    (.keep [2] (.ret)))
    (.skip))))))))))
 (.keep [1] (.seq (.ops [.op (some 12) (.fadr (.t 1) 2),
   .op (some 13) (.load1 (.t 12)),
   .op (some 14) (.bin .add (.k (.str [39])) (.t 13)),
   .op (some 15) (.bin .add (.t 14) (.k (.str [39]))),
   .op (some 2) (.mov (.t 15))])
 (.keep [2] (.ret))))))
theorem k_c_l01Text_fits : fitsF Tryd.prog 32 ⟨16, k_c_l01Text, [.t 2]⟩ = true := by kernel_rfl
theorem c_l01Text {v : GValue} (hv : valueOK v = true) : Con Tryd.prog noMv 32 [v.av] [] (fun r h => r = str (vtextF v) ∧ h = []) := by
 refine con_of2 k_c_l01Text_fits rfl fun C hP hmv => ?_
 unfold k_c_l01Text
 have htl := vOK_t hv
 refine cx_seq ?_
 refine cx_ops ?_
 refine ax_e (e_box rfl rfl (by decide) rfl rfl rfl) ?_
 refine ax_q (q_mov rfl) ?_
 refine ax_nil ?_
 refine cx_keep rfl rfl ?_
 refine cx_seq ?_
 refine cx_seq ?_
 refine cx_ops ?_
 refine ax_q (q_fadr_ptr rfl) ?_
 refine ax_q (q_load1_ptr rfl rfl rfl) ?_
 refine ax_nil ?_
 refine cx_keep rfl rfl ?_
 refine cx_block ?_
 refine cx_seq ?_
 refine cx_ops ?_
 refine ax_q (q_ibin rfl rfl rfl) ?_
 refine ax_q (q_mov rfl) ?_
 refine ax_nil ?_
 refine cx_keep rfl rfl ?_
 refine cx_cond rfl (fun h0 => ?_) (fun h0 => ?_)
 ·
  have h0 := dT h0
  refine cx_seq ?_
  refine cx_ops ?_
  refine ax_q (q_mov rfl) ?_
  refine ax_nil ?_
  refine cx_keep rfl rfl ?_
  refine cx_ret (ret0 rfl rfl ?_)
  exact ⟨by rw [vtext_0 h0]; rfl, rfl⟩
 ·
  have h0 := dF h0
  refine cx_seq ?_
  refine cx_ops ?_
  refine ax_q (q_ibin rfl rfl rfl) ?_
  refine ax_q (q_mov rfl) ?_
  refine ax_nil ?_
  refine cx_keep rfl rfl ?_
  refine cx_cond rfl (fun h1 => ?_) (fun h1 => ?_)
  ·
   have h1 := dT h1
   have hvn := vOK_n hv h1
   refine cx_seq ?_
   refine cx_ops ?_
   refine ax_q (q_fadr_ptr rfl) ?_
   refine ax_q (q_load1_ptr rfl rfl rfl) ?_
   first | refine ax_call rfl (vc_pure0 (c_l00Digits (f := 11) (n := v.N) ?_) hP rfl rfl ?_) | refine ax_call rfl (vc_lend0 (c_l00Digits (f := 11) (n := v.N) ?_) hP (by repeat (first | exact lal_id _ rfl | exact LAL.nil | refine LAL.cons ?_ ?_ | exact la_id _ rfl | exact LA.lend (lend_whole rfl (by first | (simp; done) | (rw [List.length_map]; rfl))) | refine LA.agg ?_ | refine LA.fn ?_ | refine LA.lend ?_ | exact Lend.d _ | exact Lend.zs _ | exact lend_whole rfl (by first | (simp; done) | (rw [List.length_map]; rfl)) | refine Lend.ptr rfl ?_ | refine Lend.fn ?_ | exact LendL.nil | refine LendL.cons ?_ ?_)) rfl rfl ?_)
   ·
    exact dgM_small hvn
   refine ax_q (q_mov rfl) ?_
   refine ax_nil ?_
   refine cx_keep rfl rfl ?_
   refine cx_ret (ret0 rfl rfl ?_)
   exact ⟨by rw [vtext_1 h1]; rfl, rfl⟩
  ·
   have h1 := dF h1
   refine cx_skip ?_
   refine cx_keep rfl rfl ?_
   refine cx_seq ?_
   refine cx_ops ?_
   refine ax_q (q_fadr_ptr rfl) ?_
   refine ax_q (q_load1_ptr rfl rfl rfl) ?_
   refine ax_qe (r' := str (39 :: v.T)) (q_sbin_add rfl rfl (by simp; omega)) (rfl) ?_
   refine ax_qe (r' := str ((39 :: v.T) ++ [39])) (q_sbin_add rfl rfl (by simp; omega)) (rfl) ?_
   refine ax_q (q_mov rfl) ?_
   refine ax_nil ?_
   refine cx_keep rfl rfl ?_
   refine cx_ret (ret0 rfl rfl ?_)
   exact ⟨by rw [vtext_2 h0 h1]; rfl, rfl⟩


/- loop.example/g00332/spec.l10Columns -/
def k_c_l10Columns : XCode :=
 .seq (.ops [.op (some 0) (.mov (.k (.nils 1)))])
 (.keep [] (.seq (.ops [.op (some 1) (.bslice 1 [.k (.str [105, 100]), .k (.str [110]), .k (.str [110, 97, 109, 101])]),
   .op (some 0) (.mov (.t 1))])
 (.keep [0] (.ret))))
theorem k_c_l10Columns_fits : fitsF Tryd.prog 33 ⟨2, k_c_l10Columns, [.t 0]⟩ = true := by kernel_rfl
theorem c_l10Columns  : Con Tryd.prog noMv 33 [] [] (fun r h => r = .osl 0 1 0 3 ∧ h = [(0, .rows 1 (colsL.map strRow))]) := by
 refine con_of2 k_c_l10Columns_fits rfl fun C hP hmv => ?_
 unfold k_c_l10Columns
 refine cx_seq ?_
 refine cx_ops ?_
 refine ax_q (q_mov rfl) ?_
 refine ax_nil ?_
 refine cx_keep rfl rfl ?_
 refine cx_seq ?_
 refine cx_ops ?_
 refine ax_e (e_bslice rfl (by decide) rfl rfl) ?_
 refine ax_q (q_mov rfl) ?_
 refine ax_nil ?_
 refine cx_keep rfl rfl ?_
 refine cx_ret (retN (fun _ => 0) [1] rfl rfl rfl rfl rfl ?_)
 exact ⟨rfl, rfl⟩


/- loop.example/g00332/spec.l10Sign -/
def k_c_l10Sign : XCode :=
 .seq (.ops [.op (some 2) (.mov (.k (.str [])))])
 (.keep [0] (.seq (.ops [.op (some 3) (.bslice 1 [.k (.str []), .k (.str []), .k (.str []), .k (.str []), .k (.str []), .k (.str []), .k (.str [43]), .k (.str [45]), .k (.str [42]), .k (.str [47]), .k (.str [61]), .k (.str [60]), .k (.str [97, 110, 100]), .k (.str [111, 114])]),
   .op (some 4) (.mov (.t 0)),
   .op (some 5) (.iadr 1 (.t 3) (.t 4)),
   .op (some 6) (.load1 (.t 5)),
   .op (some 2) (.mov (.t 6))])
 (.keep [2] (.ret))))
theorem k_c_l10Sign_fits : fitsF Tryd.prog 34 ⟨7, k_c_l10Sign, [.t 2]⟩ = true := by kernel_rfl
theorem c_l10Sign {op : Int} (ho : 6 ≤ op ∧ op ≤ 13) : Con Tryd.prog noMv 34 [int op] [] (fun r h => r = str (sgnT op) ∧ h = []) := by
 refine con_of2 k_c_l10Sign_fits rfl fun C hP hmv => ?_
 unfold k_c_l10Sign
 refine cx_seq ?_
 refine cx_ops ?_
 refine ax_q (q_mov rfl) ?_
 refine ax_nil ?_
 refine cx_keep rfl rfl ?_
 refine cx_seq ?_
 refine cx_ops ?_
 refine ax_e (e_bslice rfl (by decide) rfl rfl) ?_
 refine ax_q (q_mov rfl) ?_
 refine ax_q (q_ixoI rfl rfl (by omega) (by show _ < (14 : Nat); omega)) ?_
 refine ax_q (q_load1_rptr rfl rfl (sgn14_at ho) rfl) ?_
 refine ax_q (q_mov rfl) ?_
 refine ax_nil ?_
 refine cx_keep rfl rfl ?_
 refine cx_ret (ret0 rfl rfl ?_)
 exact ⟨rfl, rfl⟩


/- loop.example/g00332/spec.l10Text -/
def k_c_l10Text : XCode :=
 .seq (.ops [.op (some 2) (.box (.t 0)),
   .op (some 4) (.mov (.k (.str [])))])
 (.keep [1, 2] (.seq (.ops [.op (some 6) (.fadr (.t 2) 0),
   .op (some 7) (.load1 (.t 6)),
   .op (some 8) (.mov (.t 1)),
   .op (some 9) (.iadr 7 (.t 7) (.t 8)),
   .op (some 10) (.loadN 7 (.t 9)),
   .op (some 5) (.alloc [.int .i64 0, .int .i64 0, .int .i64 0, .int .i64 0, .int .i64 0, .int .i64 0, .str []]),
   .op none (.store 7 (.t 5) (.t 10))])
 (.keep [2, 5] (.seq (.seq (.ops [.op (some 11) (.fadr (.t 5) 0),
   .op (some 12) (.load1 (.t 11))])
  (.keep [2, 5, 12] (.block 0 (.seq (.ops [.op (some 14) (.bin .eql (.t 12) (.k (.int .i64 1))),
    .op (some 13) (.mov (.t 14))])
  (.keep [2, 5, 12, 13] (.cond (.t 13)
   (.seq (.ops [.op (some 15) (.fadr (.t 5) 4),
     .op (some 16) (.loadN 3 (.t 15)),
     .call (some 17) 32 [.t 16],
     .op (some 4) (.mov (.t 17))])
   (.keep [4] (.ret)))
   (.seq (.ops [.op (some 19) (.bin .eql (.t 12) (.k (.int .i64 2))),
     .op (some 18) (.mov (.t 19))])
   (.keep [2, 5, 12, 18] (.cond (.t 18)
    (.seq (.drawE [[], [], [1], [0, 1, 2], [0, 1, 2, 3], [0, 1, 2, 3, 4]] [.call (some 20) 33 [],
      .op (some 21) (.fadr (.t 5) 3),
      .op (some 22) (.load1 (.t 21))]
     [.op (some 23) (.iadr 1 (.t 20) (.t 22)),
      .op (some 24) (.load1 (.t 23)),
      .op (some 4) (.mov (.t 24))])
    (.keep [4] (.ret)))
    (.seq (.ops [.op (some 26) (.bin .eql (.t 12) (.k (.int .i64 3))),
      .op (some 25) (.mov (.t 26))])
    (.keep [2, 5, 12, 25] (.cond (.t 25)
     (.seq (.ops [.op (some 27) (.loadN 1 (.t 2)),
       .op (some 28) (.fadr (.t 5) 1),
       .op (some 29) (.load1 (.t 28)),
       .call (some 30) 17 [.t 27, .t 29],
       .op (some 31) (.bin .add (.k (.str [40, 110, 111, 116, 32])) (.t 30)),
       .op (some 32) (.bin .add (.t 31) (.k (.str [41]))),
       .op (some 4) (.mov (.t 32))])
     (.keep [4] (.ret)))
     (.seq (.ops [.op (some 34) (.bin .eql (.t 12) (.k (.int .i64 4))),
       .op (some 33) (.mov (.t 34))])
     (.keep [2, 5, 12, 33] (.cond (.t 33)
      (.seq (.ops [.op (some 35) (.loadN 1 (.t 2)),
        .op (some 36) (.fadr (.t 5) 1),
        .op (some 37) (.load1 (.t 36)),
        .call (some 38) 17 [.t 35, .t 37],
        .op (some 39) (.bin .add (.k (.str [40])) (.t 38)),
        .op (some 40) (.bin .add (.t 39) (.k (.str [32, 105, 115, 32, 110, 117, 108, 108, 41]))),
        .op (some 4) (.mov (.t 40))])
      (.keep [4] (.ret)))
      (.seq (.ops [.op (some 42) (.bin .eql (.t 12) (.k (.int .i64 5))),
        .op (some 41) (.mov (.t 42))])
      (.keep [2, 5, 41] (.cond (.t 41)
       (.seq (.ops [.op (some 43) (.loadN 1 (.t 2)),
         .op (some 44) (.fadr (.t 5) 1),
         .op (some 45) (.load1 (.t 44)),
         .call (some 46) 17 [.t 43, .t 45],
         .op (some 47) (.bin .add (.k (.str [40, 45, 32, 40])) (.t 46)),
         .op (some 48) (.bin .add (.t 47) (.k (.str [41, 41]))),
         .op (some 4) (.mov (.t 48))])
       (.keep [4] (.ret)))
       (.skip)))))))))))))))))))
 (.keep [2, 5] (.seq (.draw [.op (some 49) (.loadN 1 (.t 2)),
   .op (some 50) (.fadr (.t 5) 1),
   .op (some 51) (.load1 (.t 50)),
   .call (some 52) 17 [.t 49, .t 51],
   .op (some 53) (.bin .add (.k (.str [40])) (.t 52)),
   .op (some 54) (.bin .add (.t 53) (.k (.str [32]))),
   .op (some 55) (.fadr (.t 5) 0),
   .op (some 56) (.load1 (.t 55)),
   .call (some 57) 34 [.t 56],
   .op (some 58) (.bin .add (.t 54) (.t 57)),
   .op (some 59) (.bin .add (.t 58) (.k (.str [32]))),
   .op (some 60) (.loadN 1 (.t 2)),
   .op (some 61) (.fadr (.t 5) 2),
   .op (some 62) (.load1 (.t 61)),
   .call (some 63) 17 [.t 60, .t 62],
   .op (some 64) (.bin .add (.t 59) (.t 63)),
   .op (some 65) (.bin .add (.t 64) (.k (.str [41]))),
   .op (some 4) (.mov (.t 65))])
 (.keep [4] (.ret))))))))
theorem k_c_l10Text_fits : fitsF Tryd.prog 17 ⟨66, k_c_l10Text, [.t 4]⟩ = true := by kernel_rfl
set_option maxHeartbeats 4000000 in
theorem c_l10Text {e : GExpr} {f : Nat} {i : Int} (hw : e.Nodes.length ≤ 1048576) (hi : 0 ≤ i) (hf : i < f) (hl : i < e.Nodes.length) (ht : (T e.Nodes i).2.2 = true) (hfm : f ≤ 41) : Con Tryd.prog noMv 17 [e.av, int i] [] (fun r h => r = str (etF e.Nodes f i) ∧ h = []) := by
 induction f generalizing i with
 | zero => exact absurd hf (by omega)
 | succ f ih =>
  refine con_of2 k_c_l10Text_fits rfl fun C hP hmv => ?_
  unfold k_c_l10Text
  obtain ⟨j, rfl⟩ : ∃ j : Nat, i = (j : Int) := ⟨i.toNat, by omega⟩
  have hj : j < e.Nodes.length := by omega
  have hTV := T_V hj ht
  refine cx_seq ?_
  refine cx_ops ?_
  refine ax_e (e_box rfl rfl (by decide) rfl rfl rfl) ?_
  refine ax_q (q_mov rfl) ?_
  refine ax_nil ?_
  refine cx_keep rfl rfl ?_
  refine cx_seq ?_
  refine cx_ops ?_
  refine ax_q (q_fadr_ptr rfl) ?_
  refine ax_q (q_load1_ptr rfl rfl rfl) ?_
  refine ax_q (q_mov rfl) ?_
  refine ax_q (q_ix rfl rfl (mapAt hj)) ?_
  first | refine ax_q (q_ldN rfl rfl rfl) ?_ | refine ax_q (q_loadN_ip rfl (Nat.le_refl _)) ?_ | refine ax_q (q_loadN_ip rfl (by decide)) ?_ | refine ax_q (q_loadN_rptr rfl rfl (by assumption) (by decide)) ?_ | refine ax_q (q_loadN_rptr rfl rfl (mapAt (by first | assumption | omega)) (by decide)) ?_
  refine ax_e (e_alloc (by decide) rfl rfl) ?_
  refine ax_e (e_st rfl rfl rfl rfl rfl rfl rfl) ?_
  refine ax_nil ?_
  refine cx_keep rfl rfl ?_
  refine cx_seq ?_
  refine cx_seq ?_
  refine cx_ops ?_
  refine ax_q (q_fadr_ptr rfl) ?_
  refine ax_q (q_load1_ptr rfl rfl rfl) ?_
  refine ax_nil ?_
  refine cx_keep rfl rfl ?_
  refine cx_block ?_
  refine cx_seq ?_
  refine cx_ops ?_
  refine ax_q (q_ibin rfl rfl rfl) ?_
  refine ax_q (q_mov rfl) ?_
  refine ax_nil ?_
  refine cx_keep rfl rfl ?_
  refine cx_cond rfl (fun h0 => ?_) (fun h0 => ?_)
  ·
   have h0 := dT h0
   have hv0 := T_1 hj ht h0
   refine cx_seq ?_
   refine cx_ops ?_
   refine ax_q (q_fadr_ptr rfl) ?_
   refine ax_q (q_ldN rfl rfl rfl) ?_
   first | refine ax_call rfl (vc_pure0 (c_l01Text (v := e.Nodes[j].V) ?_) hP rfl rfl ?_) | refine ax_call rfl (vc_lend0 (c_l01Text (v := e.Nodes[j].V) ?_) hP (by repeat (first | exact lal_id _ rfl | exact LAL.nil | refine LAL.cons ?_ ?_ | exact la_id _ rfl | exact LA.lend (lend_whole rfl (by first | (simp; done) | (rw [List.length_map]; rfl))) | refine LA.agg ?_ | refine LA.fn ?_ | refine LA.lend ?_ | exact Lend.d _ | exact Lend.zs _ | exact lend_whole rfl (by first | (simp; done) | (rw [List.length_map]; rfl)) | refine Lend.ptr rfl ?_ | refine Lend.fn ?_ | exact LendL.nil | refine LendL.cons ?_ ?_)) rfl rfl ?_)
   ·
    first | assumption | omega | (simp; done) | (simp; omega)
   refine ax_q (q_mov rfl) ?_
   refine ax_nil ?_
   refine cx_keep rfl rfl ?_
   refine cx_ret (ret0 rfl rfl ?_)
   exact ⟨by rw [etF_1 hj h0]; rfl, rfl⟩
  ·
   have h0 := dF h0
   refine cx_seq ?_
   refine cx_ops ?_
   refine ax_q (q_ibin rfl rfl rfl) ?_
   refine ax_q (q_mov rfl) ?_
   refine ax_nil ?_
   refine cx_keep rfl rfl ?_
   refine cx_cond rfl (fun h1 => ?_) (fun h1 => ?_)
   ·
    have h1 := dT h1
    have hc := hTV.2 h1
    refine cx_seq ?_
    refine cx_drawL 1 21 (fun _ => false) (fun _ => true) [] ([]) [[], [5], [21]] [[], [], []] rfl ?_
    first | refine ⟨_, .inr ⟨rfl, _, rfl, .inr ⟨rfl, rfl, .inr rfl, rfl, rfl⟩, loc_call (fun i => 20 + 200 * i) false rfl (c_l10Columns  ) hP (.inr ⟨rfl, rfl, rfl⟩) rfl rfl (fun h => by cases h)⟩, ?_⟩ | refine ⟨_, .inr ⟨rfl, _, rfl, .inr ⟨rfl, rfl, .inr rfl, rfl, rfl⟩, loc_call (fun i => 20 + 200 * i) true rfl (c_l10Columns  ) hP (.inl ⟨rfl, (by repeat (first | exact lal_id _ rfl | exact LAL.nil | refine LAL.cons ?_ ?_ | exact la_id _ rfl | exact LA.lend (lend_whole rfl (by first | (simp; done) | (rw [List.length_map]; rfl))) | refine LA.agg ?_ | refine LA.fn ?_ | refine LA.lend ?_ | exact Lend.d _ | exact Lend.zs _ | exact lend_whole rfl (by first | (simp; done) | (rw [List.length_map]; rfl)) | refine Lend.ptr rfl ?_ | refine Lend.fn ?_ | exact LendL.nil | refine LendL.cons ?_ ?_))⟩) rfl rfl (fun _ => ⟨rfl, noisl_of (by repeat (first | exact trivial | refine ⟨noisl_map (fun _ => rfl), ?_⟩ | refine ⟨?_, ?_⟩))⟩)⟩, ?_⟩
    first | refine ⟨⟨21, _, []⟩, .inl ⟨rfl, rfl, rfl, locl_of (loc_q (q_fadr_ptr rfl))⟩, ?_⟩
    first | refine ⟨_, .inr ⟨rfl, _, rfl, .inr ⟨rfl, rfl, .inl rfl, rfl, rfl⟩, loc_q (q_load1_ptr rfl rfl rfl)⟩, ?_⟩
    refine ⟨rfl, ?_⟩
    refine ax_q (q_ixoI rfl rfl (by omega) (by omega)) ?_
    refine ax_q (q_load1_rptr rfl rfl (cols_at hc) rfl) ?_
    refine ax_q (q_mov rfl) ?_
    refine ax_nil ?_
    refine cx_keep rfl rfl ?_
    refine cx_ret (ret0 rfl rfl ?_)
    exact ⟨by rw [etF_2 hj h1]; rfl, rfl⟩
   ·
    have h1 := dF h1
    obtain ⟨⟨hA0, hA1, hAt, hAs⟩, hB⟩ := T_kids hj ht h0 h1
    have hla := etF_le (f := f) hA0 (by omega) (by omega) hAt (by omega)
    refine cx_seq ?_
    refine cx_ops ?_
    refine ax_q (q_ibin rfl rfl rfl) ?_
    refine ax_q (q_mov rfl) ?_
    refine ax_nil ?_
    refine cx_keep rfl rfl ?_
    refine cx_cond rfl (fun h2 => ?_) (fun h2 => ?_)
    ·
     have h2 := dT h2
     refine cx_seq ?_
     refine cx_ops ?_
     refine ax_q (q_ldN rfl rfl rfl) ?_
     refine ax_q (q_fadr_ptr rfl) ?_
     refine ax_q (q_load1_ptr rfl rfl rfl) ?_
     first | refine ax_call rfl (vc_pure0 (ih (i := e.Nodes[j].A) ?_ ?_ ?_ ?_ ?_) hP rfl rfl ?_) | refine ax_call rfl (vc_lend0 (ih (i := e.Nodes[j].A) ?_ ?_ ?_ ?_ ?_) hP (by repeat (first | exact lal_id _ rfl | exact LAL.nil | refine LAL.cons ?_ ?_ | exact la_id _ rfl | exact LA.lend (lend_whole rfl (by first | (simp; done) | (rw [List.length_map]; rfl))) | refine LA.agg ?_ | refine LA.fn ?_ | refine LA.lend ?_ | exact Lend.d _ | exact Lend.zs _ | exact lend_whole rfl (by first | (simp; done) | (rw [List.length_map]; rfl)) | refine Lend.ptr rfl ?_ | refine Lend.fn ?_ | exact LendL.nil | refine LendL.cons ?_ ?_)) rfl rfl ?_)
     ·
      first | assumption | omega | (simp; done) | (simp; omega)
     ·
      first | assumption | omega | (simp; done) | (simp; omega)
     ·
      first | assumption | omega | (simp; done) | (simp; omega)
     ·
      first | assumption | omega | (simp; done) | (simp; omega)
     ·
      first | assumption | omega | (simp; done) | (simp; omega)
     refine ax_qe (r' := str ([40, 110, 111, 116, 32] ++ etF e.Nodes f e.Nodes[j].A)) (q_sbin_add rfl rfl (by simp; omega)) (rfl) ?_
     refine ax_qe (r' := str (([40, 110, 111, 116, 32] ++ etF e.Nodes f e.Nodes[j].A) ++ [41])) (q_sbin_add rfl rfl (by simp; omega)) (rfl) ?_
     refine ax_q (q_mov rfl) ?_
     refine ax_nil ?_
     refine cx_keep rfl rfl ?_
     refine cx_ret (ret0 rfl rfl ?_)
     exact ⟨by rw [etF_3 hj h2]; rfl, rfl⟩
    ·
     have h2 := dF h2
     refine cx_seq ?_
     refine cx_ops ?_
     refine ax_q (q_ibin rfl rfl rfl) ?_
     refine ax_q (q_mov rfl) ?_
     refine ax_nil ?_
     refine cx_keep rfl rfl ?_
     refine cx_cond rfl (fun h3 => ?_) (fun h3 => ?_)
     ·
      have h3 := dT h3
      refine cx_seq ?_
      refine cx_ops ?_
      refine ax_q (q_ldN rfl rfl rfl) ?_
      refine ax_q (q_fadr_ptr rfl) ?_
      refine ax_q (q_load1_ptr rfl rfl rfl) ?_
      first | refine ax_call rfl (vc_pure0 (ih (i := e.Nodes[j].A) ?_ ?_ ?_ ?_ ?_) hP rfl rfl ?_) | refine ax_call rfl (vc_lend0 (ih (i := e.Nodes[j].A) ?_ ?_ ?_ ?_ ?_) hP (by repeat (first | exact lal_id _ rfl | exact LAL.nil | refine LAL.cons ?_ ?_ | exact la_id _ rfl | exact LA.lend (lend_whole rfl (by first | (simp; done) | (rw [List.length_map]; rfl))) | refine LA.agg ?_ | refine LA.fn ?_ | refine LA.lend ?_ | exact Lend.d _ | exact Lend.zs _ | exact lend_whole rfl (by first | (simp; done) | (rw [List.length_map]; rfl)) | refine Lend.ptr rfl ?_ | refine Lend.fn ?_ | exact LendL.nil | refine LendL.cons ?_ ?_)) rfl rfl ?_)
      ·
       first | assumption | omega | (simp; done) | (simp; omega)
      ·
       first | assumption | omega | (simp; done) | (simp; omega)
      ·
       first | assumption | omega | (simp; done) | (simp; omega)
      ·
       first | assumption | omega | (simp; done) | (simp; omega)
      ·
       first | assumption | omega | (simp; done) | (simp; omega)
      refine ax_qe (r' := str ([40] ++ etF e.Nodes f e.Nodes[j].A)) (q_sbin_add rfl rfl (by simp; omega)) (rfl) ?_
      refine ax_qe (r' := str (([40] ++ etF e.Nodes f e.Nodes[j].A) ++ [32, 105, 115, 32, 110, 117, 108, 108, 41])) (q_sbin_add rfl rfl (by simp; omega)) (rfl) ?_
      refine ax_q (q_mov rfl) ?_
      refine ax_nil ?_
      refine cx_keep rfl rfl ?_
      refine cx_ret (ret0 rfl rfl ?_)
      exact ⟨by rw [etF_4 hj h3]; rfl, rfl⟩
     ·
      have h3 := dF h3
      refine cx_seq ?_
      refine cx_ops ?_
      refine ax_q (q_ibin rfl rfl rfl) ?_
      refine ax_q (q_mov rfl) ?_
      refine ax_nil ?_
      refine cx_keep rfl rfl ?_
      refine cx_cond rfl (fun h4 => ?_) (fun h4 => ?_)
      ·
       have h4 := dT h4
       refine cx_seq ?_
       refine cx_ops ?_
       refine ax_q (q_ldN rfl rfl rfl) ?_
       refine ax_q (q_fadr_ptr rfl) ?_
       refine ax_q (q_load1_ptr rfl rfl rfl) ?_
       first | refine ax_call rfl (vc_pure0 (ih (i := e.Nodes[j].A) ?_ ?_ ?_ ?_ ?_) hP rfl rfl ?_) | refine ax_call rfl (vc_lend0 (ih (i := e.Nodes[j].A) ?_ ?_ ?_ ?_ ?_) hP (by repeat (first | exact lal_id _ rfl | exact LAL.nil | refine LAL.cons ?_ ?_ | exact la_id _ rfl | exact LA.lend (lend_whole rfl (by first | (simp; done) | (rw [List.length_map]; rfl))) | refine LA.agg ?_ | refine LA.fn ?_ | refine LA.lend ?_ | exact Lend.d _ | exact Lend.zs _ | exact lend_whole rfl (by first | (simp; done) | (rw [List.length_map]; rfl)) | refine Lend.ptr rfl ?_ | refine Lend.fn ?_ | exact LendL.nil | refine LendL.cons ?_ ?_)) rfl rfl ?_)
       ·
        first | assumption | omega | (simp; done) | (simp; omega)
       ·
        first | assumption | omega | (simp; done) | (simp; omega)
       ·
        first | assumption | omega | (simp; done) | (simp; omega)
       ·
        first | assumption | omega | (simp; done) | (simp; omega)
       ·
        first | assumption | omega | (simp; done) | (simp; omega)
       refine ax_qe (r' := str ([40, 45, 32, 40] ++ etF e.Nodes f e.Nodes[j].A)) (q_sbin_add rfl rfl (by simp; omega)) (rfl) ?_
       refine ax_qe (r' := str (([40, 45, 32, 40] ++ etF e.Nodes f e.Nodes[j].A) ++ [41, 41])) (q_sbin_add rfl rfl (by simp; omega)) (rfl) ?_
       refine ax_q (q_mov rfl) ?_
       refine ax_nil ?_
       refine cx_keep rfl rfl ?_
       refine cx_ret (ret0 rfl rfl ?_)
       exact ⟨by rw [etF_5 hj h4]; rfl, rfl⟩
      ·
       have h4 := dF h4
              
       have ho := op_un hj ht h0 h1 h2 h3 h4
       obtain ⟨hB0, hB1, hBt, hBs⟩ := hB (by omega)
       have hlb := etF_le (f := f) hB0 (by omega) (by omega) hBt (by omega)
       have hls := sgnT_len ho
       refine cx_skip ?_
       refine cx_keep rfl rfl ?_
       refine cx_seq ?_
       refine cx_draw ?_
       refine ax_q (q_ldN rfl rfl rfl) ?_
       refine ax_q (q_fadr_ptr rfl) ?_
       refine ax_q (q_load1_ptr rfl rfl rfl) ?_
       first | refine ax_callq rfl (ih (i := e.Nodes[j].A) ?_ ?_ ?_ ?_ ?_) hP (lal_id _ rfl) rfl ?_ | refine ax_callq rfl (ih (i := e.Nodes[j].A) ?_ ?_ ?_ ?_ ?_) hP (by repeat (first | exact lal_id _ rfl | exact LAL.nil | refine LAL.cons ?_ ?_ | exact la_id _ rfl | exact LA.lend (lend_whole rfl (by first | (simp; done) | (rw [List.length_map]; rfl))) | refine LA.agg ?_ | refine LA.fn ?_ | refine LA.lend ?_ | exact Lend.d _ | exact Lend.zs _ | exact lend_whole rfl (by first | (simp; done) | (rw [List.length_map]; rfl)) | refine Lend.ptr rfl ?_ | refine Lend.fn ?_ | exact LendL.nil | refine LendL.cons ?_ ?_)) rfl ?_
       ·
        first | assumption | omega | (simp; done) | (simp; omega)
       ·
        first | assumption | omega | (simp; done) | (simp; omega)
       ·
        first | assumption | omega | (simp; done) | (simp; omega)
       ·
        first | assumption | omega | (simp; done) | (simp; omega)
       ·
        first | assumption | omega | (simp; done) | (simp; omega)
       refine ax_qe (r' := str ([40] ++ etF e.Nodes f e.Nodes[j].A)) (q_sbin_add rfl rfl (by simp; omega)) (rfl) ?_
       refine ax_qe (r' := str (([40] ++ etF e.Nodes f e.Nodes[j].A) ++ [32])) (q_sbin_add rfl rfl (by simp; omega)) (rfl) ?_
       refine ax_q (q_fadr_ptr rfl) ?_
       refine ax_q (q_load1_ptr rfl rfl rfl) ?_
       first | refine ax_callq rfl (c_l10Sign (op := e.Nodes[j].Op) ?_) hP (lal_id _ rfl) rfl ?_ | refine ax_callq rfl (c_l10Sign (op := e.Nodes[j].Op) ?_) hP (by repeat (first | exact lal_id _ rfl | exact LAL.nil | refine LAL.cons ?_ ?_ | exact la_id _ rfl | exact LA.lend (lend_whole rfl (by first | (simp; done) | (rw [List.length_map]; rfl))) | refine LA.agg ?_ | refine LA.fn ?_ | refine LA.lend ?_ | exact Lend.d _ | exact Lend.zs _ | exact lend_whole rfl (by first | (simp; done) | (rw [List.length_map]; rfl)) | refine Lend.ptr rfl ?_ | refine Lend.fn ?_ | exact LendL.nil | refine LendL.cons ?_ ?_)) rfl ?_
       ·
        first | assumption | omega | (simp; done) | (simp; omega)
       refine ax_qe (r' := str ((([40] ++ etF e.Nodes f e.Nodes[j].A) ++ [32]) ++ sgnT e.Nodes[j].Op)) (q_sbin_add rfl rfl (by simp; omega)) (rfl) ?_
       refine ax_qe (r' := str (((([40] ++ etF e.Nodes f e.Nodes[j].A) ++ [32]) ++ sgnT e.Nodes[j].Op) ++ [32])) (q_sbin_add rfl rfl (by simp; omega)) (rfl) ?_
       refine ax_q (q_ldN rfl rfl rfl) ?_
       refine ax_q (q_fadr_ptr rfl) ?_
       refine ax_q (q_load1_ptr rfl rfl rfl) ?_
       first | refine ax_callq rfl (ih (i := e.Nodes[j].B) ?_ ?_ ?_ ?_ ?_) hP (lal_id _ rfl) rfl ?_ | refine ax_callq rfl (ih (i := e.Nodes[j].B) ?_ ?_ ?_ ?_ ?_) hP (by repeat (first | exact lal_id _ rfl | exact LAL.nil | refine LAL.cons ?_ ?_ | exact la_id _ rfl | exact LA.lend (lend_whole rfl (by first | (simp; done) | (rw [List.length_map]; rfl))) | refine LA.agg ?_ | refine LA.fn ?_ | refine LA.lend ?_ | exact Lend.d _ | exact Lend.zs _ | exact lend_whole rfl (by first | (simp; done) | (rw [List.length_map]; rfl)) | refine Lend.ptr rfl ?_ | refine Lend.fn ?_ | exact LendL.nil | refine LendL.cons ?_ ?_)) rfl ?_
       ·
        first | assumption | omega | (simp; done) | (simp; omega)
       ·
        first | assumption | omega | (simp; done) | (simp; omega)
       ·
        first | assumption | omega | (simp; done) | (simp; omega)
       ·
        first | assumption | omega | (simp; done) | (simp; omega)
       ·
        first | assumption | omega | (simp; done) | (simp; omega)
       refine ax_qe (r' := str ((((([40] ++ etF e.Nodes f e.Nodes[j].A) ++ [32]) ++ sgnT e.Nodes[j].Op) ++ [32]) ++ etF e.Nodes f e.Nodes[j].B)) (q_sbin_add rfl rfl (by simp; omega)) (rfl) ?_
       refine ax_qe (r' := str (((((([40] ++ etF e.Nodes f e.Nodes[j].A) ++ [32]) ++ sgnT e.Nodes[j].Op) ++ [32]) ++ etF e.Nodes f e.Nodes[j].B) ++ [41])) (q_sbin_add rfl rfl (by simp; omega)) (rfl) ?_
       refine ax_q (q_mov rfl) ?_
       refine ax_nil ?_
       refine cx_keep rfl rfl ?_
       refine cx_ret (ret0 rfl rfl ?_)
       exact ⟨by rw [etF_6 hj h0 h1 h2 h3 h4]; rfl, rfl⟩


/- loop.example/g00332/spec.l12Text -/
def k_c_l12Text : XCode :=
 .seq (.ops [.op (some 1) (.box (.t 0)),
   .op (some 2) (.mov (.k (.str [])))])
 (.keep [1] (.seq (.drawE [[], [], [1], [0, 1, 2], [0, 1, 2, 3], [0, 1, 2, 3, 4], [], [6], [6, 7], [0, 1, 2, 3, 4, 5, 6, 7, 8], [0, 1, 2, 3, 4, 5, 6, 7, 8, 9]] [.op (some 4) (.bslice 1 [.k (.str []), .k (.str [115, 101, 108, 101, 99, 116]), .k (.str [105, 110, 115, 101, 114, 116]), .k (.str [117, 112, 100, 97, 116, 101]), .k (.str [100, 101, 108, 101, 116, 101])]),
   .op (some 5) (.fadr (.t 1) 0),
   .op (some 6) (.load1 (.t 5)),
   .op (some 7) (.iadr 1 (.t 4) (.t 6)),
   .op (some 8) (.load1 (.t 7)),
   .op (some 9) (.bin .add (.t 8) (.k (.str [32]))),
   .op (some 10) (.fadr (.t 1) 1),
   .op (some 11) (.load1 (.t 10)),
   .call (some 12) 43 [.t 11]]
  [.op (some 13) (.bin .add (.t 9) (.t 12)),
   .op (some 3) (.mov (.t 13))])
 (.keep [1, 3] (.seq (.seq (.ops [.op (some 14) (.fadr (.t 1) 0),
   .op (some 15) (.load1 (.t 14)),
   .op (some 16) (.bin .eql (.t 15) (.k (.int .i64 2)))])
  (.keep [1, 3, 16] (.cond (.t 16)
  (.draw [.op (some 17) (.mov (.t 3)),
    .op (some 18) (.fadr (.t 1) 2),
    .op (some 19) (.fadr (.t 18) 0),
    .op (some 20) (.load1 (.t 19)),
    .call (some 21) 43 [.t 20],
    .op (some 22) (.bin .add (.k (.str [32])) (.t 21)),
    .op (some 23) (.bin .add (.t 22) (.k (.str [32]))),
    .op (some 24) (.fadr (.t 1) 2),
    .op (some 25) (.fadr (.t 24) 1),
    .op (some 26) (.loadN 3 (.t 25)),
    .call (some 27) 32 [.t 26],
    .op (some 28) (.bin .add (.t 23) (.t 27)),
    .op (some 29) (.bin .add (.t 28) (.k (.str [32]))),
    .op (some 30) (.fadr (.t 1) 2),
    .op (some 31) (.fadr (.t 30) 4),
    .op (some 32) (.loadN 3 (.t 31)),
    .call (some 33) 32 [.t 32],
    .op (some 34) (.bin .add (.t 29) (.t 33)),
    .op (some 35) (.bin .add (.t 17) (.t 34)),
    .op (some 3) (.mov (.t 35))])
  (.skip))))
 (.keep [1, 3] (.seq (.seq (.ops [.op (some 36) (.fadr (.t 1) 0),
   .op (some 37) (.load1 (.t 36)),
   .op (some 38) (.bin .eql (.t 37) (.k (.int .i64 3)))])
  (.keep [1, 3, 38] (.cond (.t 38)
  (.drawE [[], [], [], [2], [1, 2, 3], [1, 2, 3, 4], [1, 2, 3, 4, 5], [1, 2, 3, 4, 5, 6], [], [8], [], [10], [10, 11], [10, 11, 12], [10, 11, 12, 13], [1, 8, 9, 10, 11, 12, 13, 14], [1, 2, 3, 4, 5, 6, 7, 8, 9, 10, 11, 12, 13, 14, 15], [0, 1, 2, 3, 4, 5, 6, 7, 8, 9, 10, 11, 12, 13, 14, 15, 16], [0, 1, 2, 3, 4, 5, 6, 7, 8, 9, 10, 11, 12, 13, 14, 15, 16, 17]] [.op (some 39) (.mov (.t 3)),
    .call (some 40) 33 [],
    .op (some 41) (.fadr (.t 1) 9),
    .op (some 42) (.load1 (.t 41)),
    .op (some 43) (.iadr 1 (.t 40) (.t 42)),
    .op (some 44) (.load1 (.t 43)),
    .op (some 45) (.bin .add (.k (.str [32, 115, 101, 116, 32])) (.t 44)),
    .op (some 46) (.bin .add (.t 45) (.k (.str [32, 61, 32]))),
    .op (some 47) (.fadr (.t 1) 10),
    .op (some 48) (.loadN 1 (.t 47)),
    .op (some 49) (.fadr (.t 1) 10),
    .op (some 50) (.fadr (.t 49) 0),
    .op (some 51) (.load1 (.t 50)),
    .op (some 52) (.lenS (.t 51)),
    .op (some 53) (.bin .sub (.t 52) (.k (.int .i64 1))),
    .call (some 54) 17 [.t 48, .t 53],
    .op (some 55) (.bin .add (.t 46) (.t 54))]
   [.op (some 56) (.bin .add (.t 39) (.t 55)),
    .op (some 3) (.mov (.t 56))])
  (.skip))))
 (.keep [1, 3] (.seq (.seq (.ops [.op (some 57) (.fadr (.t 1) 11),
   .op (some 58) (.loadN 1 (.t 57)),
   .call (some 59) 41 [.t 58],
   .op (some 60) (.not (.t 59))])
  (.keep [1, 3, 60] (.cond (.t 60)
  (.ops [.op (some 61) (.mov (.t 3)),
    .op (some 62) (.fadr (.t 1) 11),
    .op (some 63) (.loadN 1 (.t 62)),
    .op (some 64) (.fadr (.t 1) 11),
    .op (some 65) (.fadr (.t 64) 0),
    .op (some 66) (.load1 (.t 65)),
    .op (some 67) (.lenS (.t 66)),
    .op (some 68) (.bin .sub (.t 67) (.k (.int .i64 1))),
    .call (some 69) 17 [.t 63, .t 68],
    .op (some 70) (.bin .add (.k (.str [32, 119, 104, 101, 114, 101, 32])) (.t 69)),
    .op (some 71) (.bin .add (.t 61) (.t 70)),
    .op (some 3) (.mov (.t 71))])
  (.skip))))
 (.keep [1, 3] (.seq (.seq (.ops [.op (some 72) (.fadr (.t 1) 0),
   .op (some 73) (.load1 (.t 72)),
   .op (some 74) (.bin .eql (.t 73) (.k (.int .i64 1))),
   .op (some 75) (.mov (.t 74)),
   .andor 83 true 3 75 [.op (some 76) (.fadr (.t 1) 12), .op (some 77) (.load1 (.t 76)), .op (some 78) (.bin .gtr (.t 77) (.k (.int .i64 0))), .op (some 79) (.mov (.t 78)), .andor 82 false 7 79 [.op (some 80) (.fadr (.t 1) 13), .op (some 81) (.load1 (.t 80))] (.t 81)] (.t 82)])
  (.keep [1, 3, 83] (.cond (.t 83)
  (.seq (.drawE [[], [], [], [2], [1, 2, 3], [1, 2, 3, 4], [1, 2, 3, 4, 5], [0, 1, 2, 3, 4, 5, 6], [0, 1, 2, 3, 4, 5, 6, 7]] [.op (some 84) (.mov (.t 3)),
    .call (some 85) 33 [],
    .op (some 86) (.fadr (.t 1) 12),
    .op (some 87) (.load1 (.t 86)),
    .op (some 88) (.iadr 1 (.t 85) (.t 87)),
    .op (some 89) (.load1 (.t 88)),
    .op (some 90) (.bin .add (.k (.str [32, 111, 114, 100, 101, 114, 32])) (.t 89))]
    [.op (some 91) (.bin .add (.t 84) (.t 90)),
    .op (some 3) (.mov (.t 91))])
   (.keep [1, 3] (.seq (.ops [.op (some 92) (.fadr (.t 1) 13),
    .op (some 93) (.load1 (.t 92))])
   (.keep [3, 93] (.cond (.t 93)
   (.ops [.op (some 94) (.mov (.t 3)),
     .op (some 95) (.bin .add (.t 94) (.k (.str [32, 100, 101, 115, 99]))),
     .op (some 3) (.mov (.t 95))])
   (.skip))))))
  (.skip))))
 (.keep [3] (.seq (.ops [.op (some 96) (.mov (.t 3)),
   .op (some 2) (.mov (.t 96))])
 (.keep [2] (.ret))))))))))))))
theorem k_c_l12Text_fits : fitsF Tryd.prog 24 ⟨97, k_c_l12Text, [.t 2]⟩ = true := by kernel_rfl
set_option maxHeartbeats 8000000 in
theorem c_l12Text {s : GStmt} (hs : stmtOK s = true) : Con Tryd.prog noMv 24 [s.av] [] (fun r h => r = str (stT s) ∧ h = []) := by
 refine con_of2 k_c_l12Text_fits rfl fun C hP hmv => ?_
 unfold k_c_l12Text
 obtain ⟨hk, htb, hwh, hk2, hk3, hor, hk1, hzr, hnn⟩ := stOK_p hs
 have hlt := itoa_len (dgM_small (n := s.Table) (by omega))
 have hlo := colT_len hor
 have hls := selT_len hk
 have hdt : dgM 11 s.Table := dgM_small (by omega)
 refine cx_seq ?_
 refine cx_ops ?_
 refine ax_e (e_box rfl rfl (by decide) rfl rfl rfl) ?_
 refine ax_q (q_mov rfl) ?_
 refine ax_nil ?_
 refine cx_keep rfl rfl ?_
 refine cx_seq ?_
 refine cx_drawL 1 5 (fun _ => false) (fun _ => true) [] ([]) [[], [1], [5], [4, 6], [7], [8], [1], [10], [11]] [[], [], [], [], [], [], [], [], []] rfl ?_
 first | refine ⟨_, .inr ⟨rfl, _, rfl, .inr ⟨rfl, rfl, .inr rfl, rfl, rfl⟩, loc_bslice rfl⟩, ?_⟩
 first | refine ⟨⟨5, _, []⟩, .inl ⟨rfl, rfl, rfl, locl_of (loc_q (q_fadr_ptr rfl))⟩, ?_⟩
 first | refine ⟨_, .inr ⟨rfl, _, rfl, .inr ⟨rfl, rfl, .inl rfl, rfl, rfl⟩, loc_q (q_load1_ptr rfl rfl rfl)⟩, ?_⟩
 first | refine ⟨_, .inr ⟨rfl, _, rfl, .inr ⟨rfl, rfl, .inl rfl, rfl, rfl⟩, loc_q (q_ixoI rfl rfl (by omega) (by show _ < (5 : Nat); omega))⟩, ?_⟩
 first | refine ⟨_, .inr ⟨rfl, _, rfl, .inr ⟨rfl, rfl, .inl rfl, rfl, rfl⟩, loc_q (q_load1_rptr rfl rfl (selT_at hk) rfl)⟩, ?_⟩
 first | refine ⟨_, .inr ⟨rfl, _, rfl, .inr ⟨rfl, rfl, .inl rfl, rfl, rfl⟩, loc_q (q_sbin_add rfl rfl (by simp only [List.length_append, List.length_cons, List.length_nil]; omega))⟩, ?_⟩
 first | refine ⟨_, .inr ⟨rfl, _, rfl, .inr ⟨rfl, rfl, .inr rfl, rfl, rfl⟩, loc_q (q_fadr_ptr rfl)⟩, ?_⟩
 first | refine ⟨_, .inr ⟨rfl, _, rfl, .inr ⟨rfl, rfl, .inr rfl, rfl, rfl⟩, loc_q (q_load1_ptr rfl rfl rfl)⟩, ?_⟩
 first | refine ⟨_, .inr ⟨rfl, _, rfl, .inr ⟨rfl, rfl, .inr rfl, rfl, rfl⟩, loc_call (fun i => 12 + 200 * i) false rfl (c_l00Digits (f := 11) (n := s.Table) (by first | assumption | omega | (simp; done) | (simp; omega))) hP (.inr ⟨rfl, rfl, rfl⟩) rfl rfl (fun h => by cases h)⟩, ?_⟩ | refine ⟨_, .inr ⟨rfl, _, rfl, .inr ⟨rfl, rfl, .inr rfl, rfl, rfl⟩, loc_call (fun i => 12 + 200 * i) true rfl (c_l00Digits (f := 11) (n := s.Table) (by first | assumption | omega | (simp; done) | (simp; omega))) hP (.inl ⟨rfl, (by repeat (first | exact lal_id _ rfl | exact LAL.nil | refine LAL.cons ?_ ?_ | exact la_id _ rfl | exact LA.lend (lend_whole rfl (by first | (simp; done) | (rw [List.length_map]; rfl))) | refine LA.agg ?_ | refine LA.fn ?_ | refine LA.lend ?_ | exact Lend.d _ | exact Lend.zs _ | exact lend_whole rfl (by first | (simp; done) | (rw [List.length_map]; rfl)) | refine Lend.ptr rfl ?_ | refine Lend.fn ?_ | exact LendL.nil | refine LendL.cons ?_ ?_))⟩) rfl rfl (fun _ => ⟨rfl, noisl_of (by repeat (first | exact trivial | refine ⟨noisl_map (fun _ => rfl), ?_⟩ | refine ⟨?_, ?_⟩))⟩)⟩, ?_⟩
 refine ⟨rfl, ?_⟩
 refine ax_q (q_sbin_add rfl rfl (by simp only [List.length_append, List.length_cons, List.length_nil]; omega)) ?_
 refine ax_q (q_mov rfl) ?_
 refine ax_nil ?_
 refine cx_keep rfl rfl ?_
 refine cx_seq ?_
 refine cx_seq ?_
 refine cx_ops ?_
 refine ax_q (q_fadr_ptr rfl) ?_
 refine ax_q (q_load1_ptr rfl rfl rfl) ?_
 refine ax_q (q_ibin rfl rfl rfl) ?_
 refine ax_nil ?_
 refine cx_keep rfl rfl ?_
 refine cx_cond rfl (fun h0 => ?_) (fun h0 => ?_)
 ·
  have h0 := dT h0
  obtain ⟨hro, _⟩ := hk2 h0
  obtain ⟨hr1, hr2, hr3⟩ := rowOK_p hro
  have hdi : dgM 11 s.Row.Id := dgM_small (by omega)
  have hli := itoa_len hdi
  have t2 := vtext_le hr2
  have t3 := vtext_le hr3
  have eb := fun a => sxB_t (a := a) h0
  refine cx_draw ?_
  refine ax_q (q_mov rfl) ?_
  refine ax_q (q_fadr_ptr rfl) ?_
  refine ax_q (q_fadr_ptr rfl) ?_
  refine ax_q (q_load1_ptr rfl rfl rfl) ?_
  first | refine ax_callq rfl (c_l00Digits (f := 11) (n := s.Row.Id) ?_) hP (lal_id _ rfl) rfl ?_ | refine ax_callq rfl (c_l00Digits (f := 11) (n := s.Row.Id) ?_) hP (by repeat (first | exact lal_id _ rfl | exact LAL.nil | refine LAL.cons ?_ ?_ | exact la_id _ rfl | exact LA.lend (lend_whole rfl (by first | (simp; done) | (rw [List.length_map]; rfl))) | refine LA.agg ?_ | refine LA.fn ?_ | refine LA.lend ?_ | exact Lend.d _ | exact Lend.zs _ | exact lend_whole rfl (by first | (simp; done) | (rw [List.length_map]; rfl)) | refine Lend.ptr rfl ?_ | refine Lend.fn ?_ | exact LendL.nil | refine LendL.cons ?_ ?_)) rfl ?_
  ·
   exact dgM_small (by omega)
  refine ax_q (q_sbin_add rfl rfl (by simp only [List.length_append, List.length_cons, List.length_nil]; omega)) ?_
  refine ax_q (q_sbin_add rfl rfl (by simp only [List.length_append, List.length_cons, List.length_nil]; omega)) ?_
  refine ax_q (q_fadr_ptr rfl) ?_
  refine ax_q (q_fadr_ptr rfl) ?_
  refine ax_q (q_ldN rfl rfl rfl) ?_
  first | refine ax_callq rfl (c_l01Text (v := s.Row.N) ?_) hP (lal_id _ rfl) rfl ?_ | refine ax_callq rfl (c_l01Text (v := s.Row.N) ?_) hP (by repeat (first | exact lal_id _ rfl | exact LAL.nil | refine LAL.cons ?_ ?_ | exact la_id _ rfl | exact LA.lend (lend_whole rfl (by first | (simp; done) | (rw [List.length_map]; rfl))) | refine LA.agg ?_ | refine LA.fn ?_ | refine LA.lend ?_ | exact Lend.d _ | exact Lend.zs _ | exact lend_whole rfl (by first | (simp; done) | (rw [List.length_map]; rfl)) | refine Lend.ptr rfl ?_ | refine Lend.fn ?_ | exact LendL.nil | refine LendL.cons ?_ ?_)) rfl ?_
  ·
   first | assumption | omega | (simp; done) | (simp; omega)
  refine ax_q (q_sbin_add rfl rfl (by simp only [List.length_append, List.length_cons, List.length_nil]; omega)) ?_
  refine ax_q (q_sbin_add rfl rfl (by simp only [List.length_append, List.length_cons, List.length_nil]; omega)) ?_
  refine ax_q (q_fadr_ptr rfl) ?_
  refine ax_q (q_fadr_ptr rfl) ?_
  refine ax_q (q_ldN rfl rfl rfl) ?_
  first | refine ax_callq rfl (c_l01Text (v := s.Row.Name) ?_) hP (lal_id _ rfl) rfl ?_ | refine ax_callq rfl (c_l01Text (v := s.Row.Name) ?_) hP (by repeat (first | exact lal_id _ rfl | exact LAL.nil | refine LAL.cons ?_ ?_ | exact la_id _ rfl | exact LA.lend (lend_whole rfl (by first | (simp; done) | (rw [List.length_map]; rfl))) | refine LA.agg ?_ | refine LA.fn ?_ | refine LA.lend ?_ | exact Lend.d _ | exact Lend.zs _ | exact lend_whole rfl (by first | (simp; done) | (rw [List.length_map]; rfl)) | refine Lend.ptr rfl ?_ | refine Lend.fn ?_ | exact LendL.nil | refine LendL.cons ?_ ?_)) rfl ?_
  ·
   first | assumption | omega | (simp; done) | (simp; omega)
  refine ax_q (q_sbin_add rfl rfl (by simp only [List.length_append, List.length_cons, List.length_nil]; omega)) ?_
  refine ax_q (q_sbin_add rfl rfl (by simp only [List.length_append, List.length_cons, List.length_nil]; omega)) ?_
  refine ax_q (q_mov rfl) ?_
  refine ax_nil ?_
  refine cx_keep rfl rfl ?_
  refine cx_seq ?_
  refine cx_seq ?_
  refine cx_ops ?_
  refine ax_q (q_fadr_ptr rfl) ?_
  refine ax_q (q_load1_ptr rfl rfl rfl) ?_
  refine ax_q (q_ibin rfl rfl rfl) ?_
  refine ax_nil ?_
  refine cx_keep rfl rfl ?_
  refine cx_cond rfl (fun h1 => ?_) (fun h1 => ?_)
  ·
   have h1 := dT h1
   obtain ⟨hcs, hse⟩ := hk3 h1
   have hsl : (etF s.Set.Nodes (s.Set.Nodes.length + 1) ((s.Set.Nodes.length : Int) - 1)).length ≤ 100000000000000 := exT_le hse
   have hsl2 := exT_le hse
   obtain ⟨hy0, hy1, hy2, hy3, _⟩ := comp_hyps hse
   have hn41 := exprOK_n hse
   have hcl := colT_len (c := s.Column) (by omega)
   have ec := fun a => sxC_t (a := a) h1
   refine cx_drawL 0 39 (fun _ => false) (fun _ => true) [] ([]) [[3], [], [1], [41], [40, 42], [43], [44], [45], [1], [47], [1], [49], [50], [51], [52], [48, 53], [46, 54]] [[], [], [], [], [], [], [], [], [], [], [], [], [], [], [], [], []] rfl ?_
   first | refine ⟨⟨39, _, []⟩, .inl ⟨rfl, rfl, rfl, locl_of (loc_q (q_mov rfl))⟩, ?_⟩
   first | refine ⟨_, .inr ⟨rfl, _, rfl, .inr ⟨rfl, rfl, .inr rfl, rfl, rfl⟩, loc_call (fun i => 40 + 200 * i) false rfl (c_l10Columns  ) hP (.inr ⟨rfl, rfl, rfl⟩) rfl rfl (fun h => by cases h)⟩, ?_⟩ | refine ⟨_, .inr ⟨rfl, _, rfl, .inr ⟨rfl, rfl, .inr rfl, rfl, rfl⟩, loc_call (fun i => 40 + 200 * i) true rfl (c_l10Columns  ) hP (.inl ⟨rfl, (by repeat (first | exact lal_id _ rfl | exact LAL.nil | refine LAL.cons ?_ ?_ | exact la_id _ rfl | exact LA.lend (lend_whole rfl (by first | (simp; done) | (rw [List.length_map]; rfl))) | refine LA.agg ?_ | refine LA.fn ?_ | refine LA.lend ?_ | exact Lend.d _ | exact Lend.zs _ | exact lend_whole rfl (by first | (simp; done) | (rw [List.length_map]; rfl)) | refine Lend.ptr rfl ?_ | refine Lend.fn ?_ | exact LendL.nil | refine LendL.cons ?_ ?_))⟩) rfl rfl (fun _ => ⟨rfl, noisl_of (by repeat (first | exact trivial | refine ⟨noisl_map (fun _ => rfl), ?_⟩ | refine ⟨?_, ?_⟩))⟩)⟩, ?_⟩
   first | refine ⟨_, .inr ⟨rfl, _, rfl, .inr ⟨rfl, rfl, .inr rfl, rfl, rfl⟩, loc_q (q_fadr_ptr rfl)⟩, ?_⟩
   first | refine ⟨_, .inr ⟨rfl, _, rfl, .inr ⟨rfl, rfl, .inr rfl, rfl, rfl⟩, loc_q (q_load1_ptr rfl rfl rfl)⟩, ?_⟩
   first | refine ⟨_, .inr ⟨rfl, _, rfl, .inr ⟨rfl, rfl, .inr rfl, rfl, rfl⟩, loc_q (q_ixoI rfl rfl (by omega) (by omega))⟩, ?_⟩
   first | refine ⟨_, .inr ⟨rfl, _, rfl, .inr ⟨rfl, rfl, .inr rfl, rfl, rfl⟩, loc_q (q_load1_rptr rfl rfl (cols_at (by omega)) rfl)⟩, ?_⟩
   first | refine ⟨_, .inr ⟨rfl, _, rfl, .inr ⟨rfl, rfl, .inr rfl, rfl, rfl⟩, loc_q (q_sbin_add rfl rfl (by simp only [List.length_append, List.length_cons, List.length_nil]; omega))⟩, ?_⟩
   first | refine ⟨_, .inr ⟨rfl, _, rfl, .inr ⟨rfl, rfl, .inr rfl, rfl, rfl⟩, loc_q (q_sbin_add rfl rfl (by simp only [List.length_append, List.length_cons, List.length_nil]; omega))⟩, ?_⟩
   first | refine ⟨_, .inr ⟨rfl, _, rfl, .inr ⟨rfl, rfl, .inr rfl, rfl, rfl⟩, loc_q (q_fadr_ptr rfl)⟩, ?_⟩
   first | refine ⟨_, .inr ⟨rfl, _, rfl, .inr ⟨rfl, rfl, .inr rfl, rfl, rfl⟩, loc_q (q_ldN rfl rfl rfl)⟩, ?_⟩
   first | refine ⟨_, .inr ⟨rfl, _, rfl, .inr ⟨rfl, rfl, .inr rfl, rfl, rfl⟩, loc_q (q_fadr_ptr rfl)⟩, ?_⟩
   first | refine ⟨_, .inr ⟨rfl, _, rfl, .inr ⟨rfl, rfl, .inr rfl, rfl, rfl⟩, loc_q (q_fadr_ptr rfl)⟩, ?_⟩
   first | refine ⟨_, .inr ⟨rfl, _, rfl, .inr ⟨rfl, rfl, .inr rfl, rfl, rfl⟩, loc_q (q_load1_ptr rfl rfl rfl)⟩, ?_⟩
   first | refine ⟨_, .inr ⟨rfl, _, rfl, .inr ⟨rfl, rfl, .inr rfl, rfl, rfl⟩, loc_q (q_lenS_map rfl)⟩, ?_⟩ | refine ⟨_, .inr ⟨rfl, _, rfl, .inr ⟨rfl, rfl, .inr rfl, rfl, rfl⟩, loc_q (q_lenS_osl rfl)⟩, ?_⟩ | refine ⟨_, .inr ⟨rfl, _, rfl, .inr ⟨rfl, rfl, .inr rfl, rfl, rfl⟩, loc_q (q_lenS_zs rfl)⟩, ?_⟩ | refine ⟨_, .inr ⟨rfl, _, rfl, .inr ⟨rfl, rfl, .inr rfl, rfl, rfl⟩, loc_q (q_lenS rfl)⟩, ?_⟩
   first | refine ⟨_, .inr ⟨rfl, _, rfl, .inr ⟨rfl, rfl, .inr rfl, rfl, rfl⟩, loc_q (q_sub rfl rfl (by omega))⟩, ?_⟩
   first | refine ⟨_, .inr ⟨rfl, _, rfl, .inr ⟨rfl, rfl, .inr rfl, rfl, rfl⟩, loc_call (fun i => 54 + 200 * i) false rfl (c_l10Text (e := s.Set) (f := s.Set.Nodes.length + 1) (by first | assumption | omega | (simp; done) | (simp; omega)) (by first | assumption | omega | (simp; done) | (simp; omega)) (by first | assumption | omega | (simp; done) | (simp; omega)) (by first | assumption | omega | (simp; done) | (simp; omega)) (by first | assumption | omega | (simp; done) | (simp; omega)) (by first | assumption | omega | (simp; done) | (simp; omega))) hP (.inr ⟨rfl, rfl, rfl⟩) rfl rfl (fun h => by cases h)⟩, ?_⟩ | refine ⟨_, .inr ⟨rfl, _, rfl, .inr ⟨rfl, rfl, .inr rfl, rfl, rfl⟩, loc_call (fun i => 54 + 200 * i) true rfl (c_l10Text (e := s.Set) (f := s.Set.Nodes.length + 1) (by first | assumption | omega | (simp; done) | (simp; omega)) (by first | assumption | omega | (simp; done) | (simp; omega)) (by first | assumption | omega | (simp; done) | (simp; omega)) (by first | assumption | omega | (simp; done) | (simp; omega)) (by first | assumption | omega | (simp; done) | (simp; omega)) (by first | assumption | omega | (simp; done) | (simp; omega))) hP (.inl ⟨rfl, (by repeat (first | exact lal_id _ rfl | exact LAL.nil | refine LAL.cons ?_ ?_ | exact la_id _ rfl | exact LA.lend (lend_whole rfl (by first | (simp; done) | (rw [List.length_map]; rfl))) | refine LA.agg ?_ | refine LA.fn ?_ | refine LA.lend ?_ | exact Lend.d _ | exact Lend.zs _ | exact lend_whole rfl (by first | (simp; done) | (rw [List.length_map]; rfl)) | refine Lend.ptr rfl ?_ | refine Lend.fn ?_ | exact LendL.nil | refine LendL.cons ?_ ?_))⟩) rfl rfl (fun _ => ⟨rfl, noisl_of (by repeat (first | exact trivial | refine ⟨noisl_map (fun _ => rfl), ?_⟩ | refine ⟨?_, ?_⟩))⟩)⟩, ?_⟩
   first | refine ⟨_, .inr ⟨rfl, _, rfl, .inr ⟨rfl, rfl, .inr rfl, rfl, rfl⟩, loc_q (q_sbin_add rfl rfl (by simp only [List.length_append, List.length_cons, List.length_nil]; omega))⟩, ?_⟩
   refine ⟨rfl, ?_⟩
   refine ax_q (q_sbin_add rfl rfl (by simp only [List.length_append, List.length_cons, List.length_nil]; omega)) ?_
   refine ax_q (q_mov rfl) ?_
   refine ax_nil ?_
   refine cx_keep rfl rfl ?_
   refine cx_seq ?_
   refine cx_seq ?_
   refine cx_ops ?_
   refine ax_q (q_fadr_ptr rfl) ?_
   refine ax_q (q_ldN rfl rfl rfl) ?_
   first | refine ax_call rfl (vc_pure0 (c_l12None  ) hP rfl rfl ?_) | refine ax_call rfl (vc_lend0 (c_l12None  ) hP (by repeat (first | exact lal_id _ rfl | exact LAL.nil | refine LAL.cons ?_ ?_ | exact la_id _ rfl | exact LA.lend (lend_whole rfl (by first | (simp; done) | (rw [List.length_map]; rfl))) | refine LA.agg ?_ | refine LA.fn ?_ | refine LA.lend ?_ | exact Lend.d _ | exact Lend.zs _ | exact lend_whole rfl (by first | (simp; done) | (rw [List.length_map]; rfl)) | refine Lend.ptr rfl ?_ | refine Lend.fn ?_ | exact LendL.nil | refine LendL.cons ?_ ?_)) rfl rfl ?_)
   refine ax_q (q_not rfl) ?_
   refine ax_nil ?_
   refine cx_keep rfl rfl ?_
   refine cx_cond rfl (fun h2 => ?_) (fun h2 => ?_)
   ·
    have h2 := bT h2
    have hwe := hwh h2
    have hwl : (etF s.Where.Nodes (s.Where.Nodes.length + 1) ((s.Where.Nodes.length : Int) - 1)).length ≤ 100000000000000 := exT_le hwe
    have hwl2 := exT_le hwe
    obtain ⟨hz0, hz1, hz2, hz3, _⟩ := comp_hyps hwe
    have hn40 := exprOK_n hwe
    have ew := fun a => sxW_t (a := a) h2
    refine cx_ops ?_
    refine ax_q (q_mov rfl) ?_
    refine ax_q (q_fadr_ptr rfl) ?_
    refine ax_q (q_ldN rfl rfl rfl) ?_
    refine ax_q (q_fadr_ptr rfl) ?_
    refine ax_q (q_fadr_ptr rfl) ?_
    refine ax_q (q_load1_ptr rfl rfl rfl) ?_
    first | refine ax_q (q_lenS_map rfl) ?_ | refine ax_q (q_lenS_osl rfl) ?_ | refine ax_q (q_lenS_zs rfl) ?_ | refine ax_q (q_lenS rfl) ?_
    refine ax_q (q_sub rfl rfl (by omega)) ?_
    first | refine ax_call rfl (vc_pure0 (c_l10Text (e := s.Where) (f := s.Where.Nodes.length + 1) ?_ ?_ ?_ ?_ ?_ ?_) hP rfl rfl ?_) | refine ax_call rfl (vc_lend0 (c_l10Text (e := s.Where) (f := s.Where.Nodes.length + 1) ?_ ?_ ?_ ?_ ?_ ?_) hP (by repeat (first | exact lal_id _ rfl | exact LAL.nil | refine LAL.cons ?_ ?_ | exact la_id _ rfl | exact LA.lend (lend_whole rfl (by first | (simp; done) | (rw [List.length_map]; rfl))) | refine LA.agg ?_ | refine LA.fn ?_ | refine LA.lend ?_ | exact Lend.d _ | exact Lend.zs _ | exact lend_whole rfl (by first | (simp; done) | (rw [List.length_map]; rfl)) | refine Lend.ptr rfl ?_ | refine Lend.fn ?_ | exact LendL.nil | refine LendL.cons ?_ ?_)) rfl rfl ?_)
    ·
     first | assumption | omega | (simp; done) | (simp; omega)
    ·
     first | assumption | omega | (simp; done) | (simp; omega)
    ·
     first | assumption | omega | (simp; done) | (simp; omega)
    ·
     first | assumption | omega | (simp; done) | (simp; omega)
    ·
     first | assumption | omega | (simp; done) | (simp; omega)
    ·
     first | assumption | omega | (simp; done) | (simp; omega)
    refine ax_q (q_sbin_add rfl rfl (by simp only [List.length_append, List.length_cons, List.length_nil]; omega)) ?_
    refine ax_q (q_sbin_add rfl rfl (by simp only [List.length_append, List.length_cons, List.length_nil]; omega)) ?_
    refine ax_q (q_mov rfl) ?_
    refine ax_nil ?_
    refine cx_keep rfl rfl ?_
    refine cx_seq ?_
    refine cx_seq ?_
    refine cx_ops ?_
    refine ax_q (q_fadr_ptr rfl) ?_
    refine ax_q (q_load1_ptr rfl rfl rfl) ?_
    refine ax_q (q_ibin rfl rfl rfl) ?_
    refine ax_q (q_mov rfl) ?_
    apply ax_and rfl rfl
    ·
     intro g
     have g := dT g
     refine ax_q (q_fadr_ptr rfl) ?_
     refine ax_q (q_load1_ptr rfl rfl rfl) ?_
     refine ax_q (q_ibin rfl rfl rfl) ?_
     refine ax_q (q_mov rfl) ?_
     apply ax_or rfl rfl
     ·
      intro g
      have g := dF g
      refine ax_q (q_fadr_ptr rfl) ?_
      refine ax_q (q_load1_ptr rfl rfl rfl) ?_
      exact ax_nil ⟨rfl, by repeat (first | exact trivial | refine ⟨rfl, ?_⟩ | refine ⟨?_, ?_⟩)⟩
     exact ax_nil ⟨rfl, by repeat (first | exact trivial | refine ⟨rfl, ?_⟩ | refine ⟨?_, ?_⟩)⟩
    refine ax_nil ?_
    refine cx_keep rfl rfl ?_
    refine cx_cond rfl (fun h3 => ?_) (fun h3 => ?_)
    ·
     have h3 := (fun h => And.intro (dT (and_T h).1) ((fun h => (or_T h).imp dT id) (and_T h).2)) h3
     have eo := fun a => sxO_t (a := a) (h3.2.imp (fun h => by omega) id)
     refine cx_seq ?_
     refine cx_drawL 0 84 (fun _ => false) (fun _ => true) [] ([]) [[3], [], [1], [86], [85, 87], [88], [89]] [[], [], [], [], [], [], []] rfl ?_
     first | refine ⟨⟨84, _, []⟩, .inl ⟨rfl, rfl, rfl, locl_of (loc_q (q_mov rfl))⟩, ?_⟩
     first | refine ⟨_, .inr ⟨rfl, _, rfl, .inr ⟨rfl, rfl, .inr rfl, rfl, rfl⟩, loc_call (fun i => 85 + 200 * i) false rfl (c_l10Columns  ) hP (.inr ⟨rfl, rfl, rfl⟩) rfl rfl (fun h => by cases h)⟩, ?_⟩ | refine ⟨_, .inr ⟨rfl, _, rfl, .inr ⟨rfl, rfl, .inr rfl, rfl, rfl⟩, loc_call (fun i => 85 + 200 * i) true rfl (c_l10Columns  ) hP (.inl ⟨rfl, (by repeat (first | exact lal_id _ rfl | exact LAL.nil | refine LAL.cons ?_ ?_ | exact la_id _ rfl | exact LA.lend (lend_whole rfl (by first | (simp; done) | (rw [List.length_map]; rfl))) | refine LA.agg ?_ | refine LA.fn ?_ | refine LA.lend ?_ | exact Lend.d _ | exact Lend.zs _ | exact lend_whole rfl (by first | (simp; done) | (rw [List.length_map]; rfl)) | refine Lend.ptr rfl ?_ | refine Lend.fn ?_ | exact LendL.nil | refine LendL.cons ?_ ?_))⟩) rfl rfl (fun _ => ⟨rfl, noisl_of (by repeat (first | exact trivial | refine ⟨noisl_map (fun _ => rfl), ?_⟩ | refine ⟨?_, ?_⟩))⟩)⟩, ?_⟩
     first | refine ⟨_, .inr ⟨rfl, _, rfl, .inr ⟨rfl, rfl, .inr rfl, rfl, rfl⟩, loc_q (q_fadr_ptr rfl)⟩, ?_⟩
     first | refine ⟨_, .inr ⟨rfl, _, rfl, .inr ⟨rfl, rfl, .inr rfl, rfl, rfl⟩, loc_q (q_load1_ptr rfl rfl rfl)⟩, ?_⟩
     first | refine ⟨_, .inr ⟨rfl, _, rfl, .inr ⟨rfl, rfl, .inr rfl, rfl, rfl⟩, loc_q (q_ixoI rfl rfl (by omega) (by omega))⟩, ?_⟩
     first | refine ⟨_, .inr ⟨rfl, _, rfl, .inr ⟨rfl, rfl, .inr rfl, rfl, rfl⟩, loc_q (q_load1_rptr rfl rfl (cols_at (by omega)) rfl)⟩, ?_⟩
     first | refine ⟨_, .inr ⟨rfl, _, rfl, .inr ⟨rfl, rfl, .inr rfl, rfl, rfl⟩, loc_q (q_sbin_add rfl rfl (by simp only [List.length_append, List.length_cons, List.length_nil]; omega))⟩, ?_⟩
     refine ⟨rfl, ?_⟩
     refine ax_q (q_sbin_add rfl rfl (by simp only [List.length_append, List.length_cons, List.length_nil]; omega)) ?_
     refine ax_q (q_mov rfl) ?_
     refine ax_nil ?_
     refine cx_keep rfl rfl ?_
     refine cx_seq ?_
     refine cx_ops ?_
     refine ax_q (q_fadr_ptr rfl) ?_
     refine ax_q (q_load1_ptr rfl rfl rfl) ?_
     refine ax_nil ?_
     refine cx_keep rfl rfl ?_
     refine cx_cond rfl (fun h4 => ?_) (fun h4 => ?_)
     ·
      skip
      have ed := fun a => sxD_t (a := a) h4
      refine cx_ops ?_
      refine ax_q (q_mov rfl) ?_
      refine ax_q (q_sbin_add rfl rfl (by simp only [List.length_append, List.length_cons, List.length_nil]; omega)) ?_
      refine ax_q (q_mov rfl) ?_
      refine ax_nil ?_
      refine cx_keep rfl rfl ?_
      refine cx_seq ?_
      refine cx_ops ?_
      refine ax_q (q_mov rfl) ?_
      refine ax_q (q_mov rfl) ?_
      refine ax_nil ?_
      refine cx_keep rfl rfl ?_
      refine cx_ret (ret0 rfl rfl ?_)
      exact ⟨by unfold stT sxA; rw [eb, ec, ew, eo, ed]; rfl, rfl⟩
     ·
      skip
      have ed := fun a => sxD_f (a := a) h4
      refine cx_skip ?_
      refine cx_keep rfl rfl ?_
      refine cx_seq ?_
      refine cx_ops ?_
      refine ax_q (q_mov rfl) ?_
      refine ax_q (q_mov rfl) ?_
      refine ax_nil ?_
      refine cx_keep rfl rfl ?_
      refine cx_ret (ret0 rfl rfl ?_)
      exact ⟨by unfold stT sxA; rw [eb, ec, ew, eo, ed]; rfl, rfl⟩
    ·
     have h3 := (fun h => (and_F h).imp dF (fun h => And.intro (dF (or_F h).1) (id (or_F h).2))) h3
     have eo := fun a => sxO_f (a := a) (so_f hk1 hor h3)
     have ed := fun a => sxD_f (a := a) (so_f hk1 hor h3).2
     refine cx_skip ?_
     refine cx_keep rfl rfl ?_
     refine cx_seq ?_
     refine cx_ops ?_
     refine ax_q (q_mov rfl) ?_
     refine ax_q (q_mov rfl) ?_
     refine ax_nil ?_
     refine cx_keep rfl rfl ?_
     refine cx_ret (ret0 rfl rfl ?_)
     exact ⟨by unfold stT sxA; rw [eb, ec, ew, eo, ed]; rfl, rfl⟩
   ·
    have h2 := bF h2
    have ew := fun a => sxW_f (a := a) h2
    refine cx_skip ?_
    refine cx_keep rfl rfl ?_
    refine cx_seq ?_
    refine cx_seq ?_
    refine cx_ops ?_
    refine ax_q (q_fadr_ptr rfl) ?_
    refine ax_q (q_load1_ptr rfl rfl rfl) ?_
    refine ax_q (q_ibin rfl rfl rfl) ?_
    refine ax_q (q_mov rfl) ?_
    apply ax_and rfl rfl
    ·
     intro g
     have g := dT g
     refine ax_q (q_fadr_ptr rfl) ?_
     refine ax_q (q_load1_ptr rfl rfl rfl) ?_
     refine ax_q (q_ibin rfl rfl rfl) ?_
     refine ax_q (q_mov rfl) ?_
     apply ax_or rfl rfl
     ·
      intro g
      have g := dF g
      refine ax_q (q_fadr_ptr rfl) ?_
      refine ax_q (q_load1_ptr rfl rfl rfl) ?_
      exact ax_nil ⟨rfl, by repeat (first | exact trivial | refine ⟨rfl, ?_⟩ | refine ⟨?_, ?_⟩)⟩
     exact ax_nil ⟨rfl, by repeat (first | exact trivial | refine ⟨rfl, ?_⟩ | refine ⟨?_, ?_⟩)⟩
    refine ax_nil ?_
    refine cx_keep rfl rfl ?_
    refine cx_cond rfl (fun h3 => ?_) (fun h3 => ?_)
    ·
     have h3 := (fun h => And.intro (dT (and_T h).1) ((fun h => (or_T h).imp dT id) (and_T h).2)) h3
     have eo := fun a => sxO_t (a := a) (h3.2.imp (fun h => by omega) id)
     refine cx_seq ?_
     refine cx_drawL 0 84 (fun _ => false) (fun _ => true) [] ([]) [[3], [], [1], [86], [85, 87], [88], [89]] [[], [], [], [], [], [], []] rfl ?_
     first | refine ⟨⟨84, _, []⟩, .inl ⟨rfl, rfl, rfl, locl_of (loc_q (q_mov rfl))⟩, ?_⟩
     first | refine ⟨_, .inr ⟨rfl, _, rfl, .inr ⟨rfl, rfl, .inr rfl, rfl, rfl⟩, loc_call (fun i => 85 + 200 * i) false rfl (c_l10Columns  ) hP (.inr ⟨rfl, rfl, rfl⟩) rfl rfl (fun h => by cases h)⟩, ?_⟩ | refine ⟨_, .inr ⟨rfl, _, rfl, .inr ⟨rfl, rfl, .inr rfl, rfl, rfl⟩, loc_call (fun i => 85 + 200 * i) true rfl (c_l10Columns  ) hP (.inl ⟨rfl, (by repeat (first | exact lal_id _ rfl | exact LAL.nil | refine LAL.cons ?_ ?_ | exact la_id _ rfl | exact LA.lend (lend_whole rfl (by first | (simp; done) | (rw [List.length_map]; rfl))) | refine LA.agg ?_ | refine LA.fn ?_ | refine LA.lend ?_ | exact Lend.d _ | exact Lend.zs _ | exact lend_whole rfl (by first | (simp; done) | (rw [List.length_map]; rfl)) | refine Lend.ptr rfl ?_ | refine Lend.fn ?_ | exact LendL.nil | refine LendL.cons ?_ ?_))⟩) rfl rfl (fun _ => ⟨rfl, noisl_of (by repeat (first | exact trivial | refine ⟨noisl_map (fun _ => rfl), ?_⟩ | refine ⟨?_, ?_⟩))⟩)⟩, ?_⟩
     first | refine ⟨_, .inr ⟨rfl, _, rfl, .inr ⟨rfl, rfl, .inr rfl, rfl, rfl⟩, loc_q (q_fadr_ptr rfl)⟩, ?_⟩
     first | refine ⟨_, .inr ⟨rfl, _, rfl, .inr ⟨rfl, rfl, .inr rfl, rfl, rfl⟩, loc_q (q_load1_ptr rfl rfl rfl)⟩, ?_⟩
     first | refine ⟨_, .inr ⟨rfl, _, rfl, .inr ⟨rfl, rfl, .inr rfl, rfl, rfl⟩, loc_q (q_ixoI rfl rfl (by omega) (by omega))⟩, ?_⟩
     first | refine ⟨_, .inr ⟨rfl, _, rfl, .inr ⟨rfl, rfl, .inr rfl, rfl, rfl⟩, loc_q (q_load1_rptr rfl rfl (cols_at (by omega)) rfl)⟩, ?_⟩
     first | refine ⟨_, .inr ⟨rfl, _, rfl, .inr ⟨rfl, rfl, .inr rfl, rfl, rfl⟩, loc_q (q_sbin_add rfl rfl (by simp only [List.length_append, List.length_cons, List.length_nil]; omega))⟩, ?_⟩
     refine ⟨rfl, ?_⟩
     refine ax_q (q_sbin_add rfl rfl (by simp only [List.length_append, List.length_cons, List.length_nil]; omega)) ?_
     refine ax_q (q_mov rfl) ?_
     refine ax_nil ?_
     refine cx_keep rfl rfl ?_
     refine cx_seq ?_
     refine cx_ops ?_
     refine ax_q (q_fadr_ptr rfl) ?_
     refine ax_q (q_load1_ptr rfl rfl rfl) ?_
     refine ax_nil ?_
     refine cx_keep rfl rfl ?_
     refine cx_cond rfl (fun h4 => ?_) (fun h4 => ?_)
     ·
      skip
      have ed := fun a => sxD_t (a := a) h4
      refine cx_ops ?_
      refine ax_q (q_mov rfl) ?_
      refine ax_q (q_sbin_add rfl rfl (by simp only [List.length_append, List.length_cons, List.length_nil]; omega)) ?_
      refine ax_q (q_mov rfl) ?_
      refine ax_nil ?_
      refine cx_keep rfl rfl ?_
      refine cx_seq ?_
      refine cx_ops ?_
      refine ax_q (q_mov rfl) ?_
      refine ax_q (q_mov rfl) ?_
      refine ax_nil ?_
      refine cx_keep rfl rfl ?_
      refine cx_ret (ret0 rfl rfl ?_)
      exact ⟨by unfold stT sxA; rw [eb, ec, ew, eo, ed]; rfl, rfl⟩
     ·
      skip
      have ed := fun a => sxD_f (a := a) h4
      refine cx_skip ?_
      refine cx_keep rfl rfl ?_
      refine cx_seq ?_
      refine cx_ops ?_
      refine ax_q (q_mov rfl) ?_
      refine ax_q (q_mov rfl) ?_
      refine ax_nil ?_
      refine cx_keep rfl rfl ?_
      refine cx_ret (ret0 rfl rfl ?_)
      exact ⟨by unfold stT sxA; rw [eb, ec, ew, eo, ed]; rfl, rfl⟩
    ·
     have h3 := (fun h => (and_F h).imp dF (fun h => And.intro (dF (or_F h).1) (id (or_F h).2))) h3
     have eo := fun a => sxO_f (a := a) (so_f hk1 hor h3)
     have ed := fun a => sxD_f (a := a) (so_f hk1 hor h3).2
     refine cx_skip ?_
     refine cx_keep rfl rfl ?_
     refine cx_seq ?_
     refine cx_ops ?_
     refine ax_q (q_mov rfl) ?_
     refine ax_q (q_mov rfl) ?_
     refine ax_nil ?_
     refine cx_keep rfl rfl ?_
     refine cx_ret (ret0 rfl rfl ?_)
     exact ⟨by unfold stT sxA; rw [eb, ec, ew, eo, ed]; rfl, rfl⟩
  ·
   have h1 := dF h1
   have ec := fun a => sxC_f (a := a) h1
   refine cx_skip ?_
   refine cx_keep rfl rfl ?_
   refine cx_seq ?_
   refine cx_seq ?_
   refine cx_ops ?_
   refine ax_q (q_fadr_ptr rfl) ?_
   refine ax_q (q_ldN rfl rfl rfl) ?_
   first | refine ax_call rfl (vc_pure0 (c_l12None  ) hP rfl rfl ?_) | refine ax_call rfl (vc_lend0 (c_l12None  ) hP (by repeat (first | exact lal_id _ rfl | exact LAL.nil | refine LAL.cons ?_ ?_ | exact la_id _ rfl | exact LA.lend (lend_whole rfl (by first | (simp; done) | (rw [List.length_map]; rfl))) | refine LA.agg ?_ | refine LA.fn ?_ | refine LA.lend ?_ | exact Lend.d _ | exact Lend.zs _ | exact lend_whole rfl (by first | (simp; done) | (rw [List.length_map]; rfl)) | refine Lend.ptr rfl ?_ | refine Lend.fn ?_ | exact LendL.nil | refine LendL.cons ?_ ?_)) rfl rfl ?_)
   refine ax_q (q_not rfl) ?_
   refine ax_nil ?_
   refine cx_keep rfl rfl ?_
   refine cx_cond rfl (fun h2 => ?_) (fun h2 => ?_)
   ·
    have h2 := bT h2
    have hwe := hwh h2
    have hwl : (etF s.Where.Nodes (s.Where.Nodes.length + 1) ((s.Where.Nodes.length : Int) - 1)).length ≤ 100000000000000 := exT_le hwe
    have hwl2 := exT_le hwe
    obtain ⟨hz0, hz1, hz2, hz3, _⟩ := comp_hyps hwe
    have hn40 := exprOK_n hwe
    have ew := fun a => sxW_t (a := a) h2
    refine cx_ops ?_
    refine ax_q (q_mov rfl) ?_
    refine ax_q (q_fadr_ptr rfl) ?_
    refine ax_q (q_ldN rfl rfl rfl) ?_
    refine ax_q (q_fadr_ptr rfl) ?_
    refine ax_q (q_fadr_ptr rfl) ?_
    refine ax_q (q_load1_ptr rfl rfl rfl) ?_
    first | refine ax_q (q_lenS_map rfl) ?_ | refine ax_q (q_lenS_osl rfl) ?_ | refine ax_q (q_lenS_zs rfl) ?_ | refine ax_q (q_lenS rfl) ?_
    refine ax_q (q_sub rfl rfl (by omega)) ?_
    first | refine ax_call rfl (vc_pure0 (c_l10Text (e := s.Where) (f := s.Where.Nodes.length + 1) ?_ ?_ ?_ ?_ ?_ ?_) hP rfl rfl ?_) | refine ax_call rfl (vc_lend0 (c_l10Text (e := s.Where) (f := s.Where.Nodes.length + 1) ?_ ?_ ?_ ?_ ?_ ?_) hP (by repeat (first | exact lal_id _ rfl | exact LAL.nil | refine LAL.cons ?_ ?_ | exact la_id _ rfl | exact LA.lend (lend_whole rfl (by first | (simp; done) | (rw [List.length_map]; rfl))) | refine LA.agg ?_ | refine LA.fn ?_ | refine LA.lend ?_ | exact Lend.d _ | exact Lend.zs _ | exact lend_whole rfl (by first | (simp; done) | (rw [List.length_map]; rfl)) | refine Lend.ptr rfl ?_ | refine Lend.fn ?_ | exact LendL.nil | refine LendL.cons ?_ ?_)) rfl rfl ?_)
    ·
     first | assumption | omega | (simp; done) | (simp; omega)
    ·
     first | assumption | omega | (simp; done) | (simp; omega)
    ·
     first | assumption | omega | (simp; done) | (simp; omega)
    ·
     first | assumption | omega | (simp; done) | (simp; omega)
    ·
     first | assumption | omega | (simp; done) | (simp; omega)
    ·
     first | assumption | omega | (simp; done) | (simp; omega)
    refine ax_q (q_sbin_add rfl rfl (by simp only [List.length_append, List.length_cons, List.length_nil]; omega)) ?_
    refine ax_q (q_sbin_add rfl rfl (by simp only [List.length_append, List.length_cons, List.length_nil]; omega)) ?_
    refine ax_q (q_mov rfl) ?_
    refine ax_nil ?_
    refine cx_keep rfl rfl ?_
    refine cx_seq ?_
    refine cx_seq ?_
    refine cx_ops ?_
    refine ax_q (q_fadr_ptr rfl) ?_
    refine ax_q (q_load1_ptr rfl rfl rfl) ?_
    refine ax_q (q_ibin rfl rfl rfl) ?_
    refine ax_q (q_mov rfl) ?_
    apply ax_and rfl rfl
    ·
     intro g
     have g := dT g
     refine ax_q (q_fadr_ptr rfl) ?_
     refine ax_q (q_load1_ptr rfl rfl rfl) ?_
     refine ax_q (q_ibin rfl rfl rfl) ?_
     refine ax_q (q_mov rfl) ?_
     apply ax_or rfl rfl
     ·
      intro g
      have g := dF g
      refine ax_q (q_fadr_ptr rfl) ?_
      refine ax_q (q_load1_ptr rfl rfl rfl) ?_
      exact ax_nil ⟨rfl, by repeat (first | exact trivial | refine ⟨rfl, ?_⟩ | refine ⟨?_, ?_⟩)⟩
     exact ax_nil ⟨rfl, by repeat (first | exact trivial | refine ⟨rfl, ?_⟩ | refine ⟨?_, ?_⟩)⟩
    refine ax_nil ?_
    refine cx_keep rfl rfl ?_
    refine cx_cond rfl (fun h3 => ?_) (fun h3 => ?_)
    ·
     have h3 := (fun h => And.intro (dT (and_T h).1) ((fun h => (or_T h).imp dT id) (and_T h).2)) h3
     have eo := fun a => sxO_t (a := a) (h3.2.imp (fun h => by omega) id)
     refine cx_seq ?_
     refine cx_drawL 0 84 (fun _ => false) (fun _ => true) [] ([]) [[3], [], [1], [86], [85, 87], [88], [89]] [[], [], [], [], [], [], []] rfl ?_
     first | refine ⟨⟨84, _, []⟩, .inl ⟨rfl, rfl, rfl, locl_of (loc_q (q_mov rfl))⟩, ?_⟩
     first | refine ⟨_, .inr ⟨rfl, _, rfl, .inr ⟨rfl, rfl, .inr rfl, rfl, rfl⟩, loc_call (fun i => 85 + 200 * i) false rfl (c_l10Columns  ) hP (.inr ⟨rfl, rfl, rfl⟩) rfl rfl (fun h => by cases h)⟩, ?_⟩ | refine ⟨_, .inr ⟨rfl, _, rfl, .inr ⟨rfl, rfl, .inr rfl, rfl, rfl⟩, loc_call (fun i => 85 + 200 * i) true rfl (c_l10Columns  ) hP (.inl ⟨rfl, (by repeat (first | exact lal_id _ rfl | exact LAL.nil | refine LAL.cons ?_ ?_ | exact la_id _ rfl | exact LA.lend (lend_whole rfl (by first | (simp; done) | (rw [List.length_map]; rfl))) | refine LA.agg ?_ | refine LA.fn ?_ | refine LA.lend ?_ | exact Lend.d _ | exact Lend.zs _ | exact lend_whole rfl (by first | (simp; done) | (rw [List.length_map]; rfl)) | refine Lend.ptr rfl ?_ | refine Lend.fn ?_ | exact LendL.nil | refine LendL.cons ?_ ?_))⟩) rfl rfl (fun _ => ⟨rfl, noisl_of (by repeat (first | exact trivial | refine ⟨noisl_map (fun _ => rfl), ?_⟩ | refine ⟨?_, ?_⟩))⟩)⟩, ?_⟩
     first | refine ⟨_, .inr ⟨rfl, _, rfl, .inr ⟨rfl, rfl, .inr rfl, rfl, rfl⟩, loc_q (q_fadr_ptr rfl)⟩, ?_⟩
     first | refine ⟨_, .inr ⟨rfl, _, rfl, .inr ⟨rfl, rfl, .inr rfl, rfl, rfl⟩, loc_q (q_load1_ptr rfl rfl rfl)⟩, ?_⟩
     first | refine ⟨_, .inr ⟨rfl, _, rfl, .inr ⟨rfl, rfl, .inr rfl, rfl, rfl⟩, loc_q (q_ixoI rfl rfl (by omega) (by omega))⟩, ?_⟩
     first | refine ⟨_, .inr ⟨rfl, _, rfl, .inr ⟨rfl, rfl, .inr rfl, rfl, rfl⟩, loc_q (q_load1_rptr rfl rfl (cols_at (by omega)) rfl)⟩, ?_⟩
     first | refine ⟨_, .inr ⟨rfl, _, rfl, .inr ⟨rfl, rfl, .inr rfl, rfl, rfl⟩, loc_q (q_sbin_add rfl rfl (by simp only [List.length_append, List.length_cons, List.length_nil]; omega))⟩, ?_⟩
     refine ⟨rfl, ?_⟩
     refine ax_q (q_sbin_add rfl rfl (by simp only [List.length_append, List.length_cons, List.length_nil]; omega)) ?_
     refine ax_q (q_mov rfl) ?_
     refine ax_nil ?_
     refine cx_keep rfl rfl ?_
     refine cx_seq ?_
     refine cx_ops ?_
     refine ax_q (q_fadr_ptr rfl) ?_
     refine ax_q (q_load1_ptr rfl rfl rfl) ?_
     refine ax_nil ?_
     refine cx_keep rfl rfl ?_
     refine cx_cond rfl (fun h4 => ?_) (fun h4 => ?_)
     ·
      skip
      have ed := fun a => sxD_t (a := a) h4
      refine cx_ops ?_
      refine ax_q (q_mov rfl) ?_
      refine ax_q (q_sbin_add rfl rfl (by simp only [List.length_append, List.length_cons, List.length_nil]; omega)) ?_
      refine ax_q (q_mov rfl) ?_
      refine ax_nil ?_
      refine cx_keep rfl rfl ?_
      refine cx_seq ?_
      refine cx_ops ?_
      refine ax_q (q_mov rfl) ?_
      refine ax_q (q_mov rfl) ?_
      refine ax_nil ?_
      refine cx_keep rfl rfl ?_
      refine cx_ret (ret0 rfl rfl ?_)
      exact ⟨by unfold stT sxA; rw [eb, ec, ew, eo, ed]; rfl, rfl⟩
     ·
      skip
      have ed := fun a => sxD_f (a := a) h4
      refine cx_skip ?_
      refine cx_keep rfl rfl ?_
      refine cx_seq ?_
      refine cx_ops ?_
      refine ax_q (q_mov rfl) ?_
      refine ax_q (q_mov rfl) ?_
      refine ax_nil ?_
      refine cx_keep rfl rfl ?_
      refine cx_ret (ret0 rfl rfl ?_)
      exact ⟨by unfold stT sxA; rw [eb, ec, ew, eo, ed]; rfl, rfl⟩
    ·
     have h3 := (fun h => (and_F h).imp dF (fun h => And.intro (dF (or_F h).1) (id (or_F h).2))) h3
     have eo := fun a => sxO_f (a := a) (so_f hk1 hor h3)
     have ed := fun a => sxD_f (a := a) (so_f hk1 hor h3).2
     refine cx_skip ?_
     refine cx_keep rfl rfl ?_
     refine cx_seq ?_
     refine cx_ops ?_
     refine ax_q (q_mov rfl) ?_
     refine ax_q (q_mov rfl) ?_
     refine ax_nil ?_
     refine cx_keep rfl rfl ?_
     refine cx_ret (ret0 rfl rfl ?_)
     exact ⟨by unfold stT sxA; rw [eb, ec, ew, eo, ed]; rfl, rfl⟩
   ·
    have h2 := bF h2
    have ew := fun a => sxW_f (a := a) h2
    refine cx_skip ?_
    refine cx_keep rfl rfl ?_
    refine cx_seq ?_
    refine cx_seq ?_
    refine cx_ops ?_
    refine ax_q (q_fadr_ptr rfl) ?_
    refine ax_q (q_load1_ptr rfl rfl rfl) ?_
    refine ax_q (q_ibin rfl rfl rfl) ?_
    refine ax_q (q_mov rfl) ?_
    apply ax_and rfl rfl
    ·
     intro g
     have g := dT g
     refine ax_q (q_fadr_ptr rfl) ?_
     refine ax_q (q_load1_ptr rfl rfl rfl) ?_
     refine ax_q (q_ibin rfl rfl rfl) ?_
     refine ax_q (q_mov rfl) ?_
     apply ax_or rfl rfl
     ·
      intro g
      have g := dF g
      refine ax_q (q_fadr_ptr rfl) ?_
      refine ax_q (q_load1_ptr rfl rfl rfl) ?_
      exact ax_nil ⟨rfl, by repeat (first | exact trivial | refine ⟨rfl, ?_⟩ | refine ⟨?_, ?_⟩)⟩
     exact ax_nil ⟨rfl, by repeat (first | exact trivial | refine ⟨rfl, ?_⟩ | refine ⟨?_, ?_⟩)⟩
    refine ax_nil ?_
    refine cx_keep rfl rfl ?_
    refine cx_cond rfl (fun h3 => ?_) (fun h3 => ?_)
    ·
     have h3 := (fun h => And.intro (dT (and_T h).1) ((fun h => (or_T h).imp dT id) (and_T h).2)) h3
     have eo := fun a => sxO_t (a := a) (h3.2.imp (fun h => by omega) id)
     refine cx_seq ?_
     refine cx_drawL 0 84 (fun _ => false) (fun _ => true) [] ([]) [[3], [], [1], [86], [85, 87], [88], [89]] [[], [], [], [], [], [], []] rfl ?_
     first | refine ⟨⟨84, _, []⟩, .inl ⟨rfl, rfl, rfl, locl_of (loc_q (q_mov rfl))⟩, ?_⟩
     first | refine ⟨_, .inr ⟨rfl, _, rfl, .inr ⟨rfl, rfl, .inr rfl, rfl, rfl⟩, loc_call (fun i => 85 + 200 * i) false rfl (c_l10Columns  ) hP (.inr ⟨rfl, rfl, rfl⟩) rfl rfl (fun h => by cases h)⟩, ?_⟩ | refine ⟨_, .inr ⟨rfl, _, rfl, .inr ⟨rfl, rfl, .inr rfl, rfl, rfl⟩, loc_call (fun i => 85 + 200 * i) true rfl (c_l10Columns  ) hP (.inl ⟨rfl, (by repeat (first | exact lal_id _ rfl | exact LAL.nil | refine LAL.cons ?_ ?_ | exact la_id _ rfl | exact LA.lend (lend_whole rfl (by first | (simp; done) | (rw [List.length_map]; rfl))) | refine LA.agg ?_ | refine LA.fn ?_ | refine LA.lend ?_ | exact Lend.d _ | exact Lend.zs _ | exact lend_whole rfl (by first | (simp; done) | (rw [List.length_map]; rfl)) | refine Lend.ptr rfl ?_ | refine Lend.fn ?_ | exact LendL.nil | refine LendL.cons ?_ ?_))⟩) rfl rfl (fun _ => ⟨rfl, noisl_of (by repeat (first | exact trivial | refine ⟨noisl_map (fun _ => rfl), ?_⟩ | refine ⟨?_, ?_⟩))⟩)⟩, ?_⟩
     first | refine ⟨_, .inr ⟨rfl, _, rfl, .inr ⟨rfl, rfl, .inr rfl, rfl, rfl⟩, loc_q (q_fadr_ptr rfl)⟩, ?_⟩
     first | refine ⟨_, .inr ⟨rfl, _, rfl, .inr ⟨rfl, rfl, .inr rfl, rfl, rfl⟩, loc_q (q_load1_ptr rfl rfl rfl)⟩, ?_⟩
     first | refine ⟨_, .inr ⟨rfl, _, rfl, .inr ⟨rfl, rfl, .inr rfl, rfl, rfl⟩, loc_q (q_ixoI rfl rfl (by omega) (by omega))⟩, ?_⟩
     first | refine ⟨_, .inr ⟨rfl, _, rfl, .inr ⟨rfl, rfl, .inr rfl, rfl, rfl⟩, loc_q (q_load1_rptr rfl rfl (cols_at (by omega)) rfl)⟩, ?_⟩
     first | refine ⟨_, .inr ⟨rfl, _, rfl, .inr ⟨rfl, rfl, .inr rfl, rfl, rfl⟩, loc_q (q_sbin_add rfl rfl (by simp only [List.length_append, List.length_cons, List.length_nil]; omega))⟩, ?_⟩
     refine ⟨rfl, ?_⟩
     refine ax_q (q_sbin_add rfl rfl (by simp only [List.length_append, List.length_cons, List.length_nil]; omega)) ?_
     refine ax_q (q_mov rfl) ?_
     refine ax_nil ?_
     refine cx_keep rfl rfl ?_
     refine cx_seq ?_
     refine cx_ops ?_
     refine ax_q (q_fadr_ptr rfl) ?_
     refine ax_q (q_load1_ptr rfl rfl rfl) ?_
     refine ax_nil ?_
     refine cx_keep rfl rfl ?_
     refine cx_cond rfl (fun h4 => ?_) (fun h4 => ?_)
     ·
      skip
      have ed := fun a => sxD_t (a := a) h4
      refine cx_ops ?_
      refine ax_q (q_mov rfl) ?_
      refine ax_q (q_sbin_add rfl rfl (by simp only [List.length_append, List.length_cons, List.length_nil]; omega)) ?_
      refine ax_q (q_mov rfl) ?_
      refine ax_nil ?_
      refine cx_keep rfl rfl ?_
      refine cx_seq ?_
      refine cx_ops ?_
      refine ax_q (q_mov rfl) ?_
      refine ax_q (q_mov rfl) ?_
      refine ax_nil ?_
      refine cx_keep rfl rfl ?_
      refine cx_ret (ret0 rfl rfl ?_)
      exact ⟨by unfold stT sxA; rw [eb, ec, ew, eo, ed]; rfl, rfl⟩
     ·
      skip
      have ed := fun a => sxD_f (a := a) h4
      refine cx_skip ?_
      refine cx_keep rfl rfl ?_
      refine cx_seq ?_
      refine cx_ops ?_
      refine ax_q (q_mov rfl) ?_
      refine ax_q (q_mov rfl) ?_
      refine ax_nil ?_
      refine cx_keep rfl rfl ?_
      refine cx_ret (ret0 rfl rfl ?_)
      exact ⟨by unfold stT sxA; rw [eb, ec, ew, eo, ed]; rfl, rfl⟩
    ·
     have h3 := (fun h => (and_F h).imp dF (fun h => And.intro (dF (or_F h).1) (id (or_F h).2))) h3
     have eo := fun a => sxO_f (a := a) (so_f hk1 hor h3)
     have ed := fun a => sxD_f (a := a) (so_f hk1 hor h3).2
     refine cx_skip ?_
     refine cx_keep rfl rfl ?_
     refine cx_seq ?_
     refine cx_ops ?_
     refine ax_q (q_mov rfl) ?_
     refine ax_q (q_mov rfl) ?_
     refine ax_nil ?_
     refine cx_keep rfl rfl ?_
     refine cx_ret (ret0 rfl rfl ?_)
     exact ⟨by unfold stT sxA; rw [eb, ec, ew, eo, ed]; rfl, rfl⟩
 ·
  have h0 := dF h0
  have eb := fun a => sxB_f (a := a) h0
  refine cx_skip ?_
  refine cx_keep rfl rfl ?_
  refine cx_seq ?_
  refine cx_seq ?_
  refine cx_ops ?_
  refine ax_q (q_fadr_ptr rfl) ?_
  refine ax_q (q_load1_ptr rfl rfl rfl) ?_
  refine ax_q (q_ibin rfl rfl rfl) ?_
  refine ax_nil ?_
  refine cx_keep rfl rfl ?_
  refine cx_cond rfl (fun h1 => ?_) (fun h1 => ?_)
  ·
   have h1 := dT h1
   obtain ⟨hcs, hse⟩ := hk3 h1
   have hsl : (etF s.Set.Nodes (s.Set.Nodes.length + 1) ((s.Set.Nodes.length : Int) - 1)).length ≤ 100000000000000 := exT_le hse
   have hsl2 := exT_le hse
   obtain ⟨hy0, hy1, hy2, hy3, _⟩ := comp_hyps hse
   have hn41 := exprOK_n hse
   have hcl := colT_len (c := s.Column) (by omega)
   have ec := fun a => sxC_t (a := a) h1
   refine cx_drawL 0 39 (fun _ => false) (fun _ => true) [] ([]) [[3], [], [1], [41], [40, 42], [43], [44], [45], [1], [47], [1], [49], [50], [51], [52], [48, 53], [46, 54]] [[], [], [], [], [], [], [], [], [], [], [], [], [], [], [], [], []] rfl ?_
   first | refine ⟨⟨39, _, []⟩, .inl ⟨rfl, rfl, rfl, locl_of (loc_q (q_mov rfl))⟩, ?_⟩
   first | refine ⟨_, .inr ⟨rfl, _, rfl, .inr ⟨rfl, rfl, .inr rfl, rfl, rfl⟩, loc_call (fun i => 40 + 200 * i) false rfl (c_l10Columns  ) hP (.inr ⟨rfl, rfl, rfl⟩) rfl rfl (fun h => by cases h)⟩, ?_⟩ | refine ⟨_, .inr ⟨rfl, _, rfl, .inr ⟨rfl, rfl, .inr rfl, rfl, rfl⟩, loc_call (fun i => 40 + 200 * i) true rfl (c_l10Columns  ) hP (.inl ⟨rfl, (by repeat (first | exact lal_id _ rfl | exact LAL.nil | refine LAL.cons ?_ ?_ | exact la_id _ rfl | exact LA.lend (lend_whole rfl (by first | (simp; done) | (rw [List.length_map]; rfl))) | refine LA.agg ?_ | refine LA.fn ?_ | refine LA.lend ?_ | exact Lend.d _ | exact Lend.zs _ | exact lend_whole rfl (by first | (simp; done) | (rw [List.length_map]; rfl)) | refine Lend.ptr rfl ?_ | refine Lend.fn ?_ | exact LendL.nil | refine LendL.cons ?_ ?_))⟩) rfl rfl (fun _ => ⟨rfl, noisl_of (by repeat (first | exact trivial | refine ⟨noisl_map (fun _ => rfl), ?_⟩ | refine ⟨?_, ?_⟩))⟩)⟩, ?_⟩
   first | refine ⟨_, .inr ⟨rfl, _, rfl, .inr ⟨rfl, rfl, .inr rfl, rfl, rfl⟩, loc_q (q_fadr_ptr rfl)⟩, ?_⟩
   first | refine ⟨_, .inr ⟨rfl, _, rfl, .inr ⟨rfl, rfl, .inr rfl, rfl, rfl⟩, loc_q (q_load1_ptr rfl rfl rfl)⟩, ?_⟩
   first | refine ⟨_, .inr ⟨rfl, _, rfl, .inr ⟨rfl, rfl, .inr rfl, rfl, rfl⟩, loc_q (q_ixoI rfl rfl (by omega) (by omega))⟩, ?_⟩
   first | refine ⟨_, .inr ⟨rfl, _, rfl, .inr ⟨rfl, rfl, .inr rfl, rfl, rfl⟩, loc_q (q_load1_rptr rfl rfl (cols_at (by omega)) rfl)⟩, ?_⟩
   first | refine ⟨_, .inr ⟨rfl, _, rfl, .inr ⟨rfl, rfl, .inr rfl, rfl, rfl⟩, loc_q (q_sbin_add rfl rfl (by simp only [List.length_append, List.length_cons, List.length_nil]; omega))⟩, ?_⟩
   first | refine ⟨_, .inr ⟨rfl, _, rfl, .inr ⟨rfl, rfl, .inr rfl, rfl, rfl⟩, loc_q (q_sbin_add rfl rfl (by simp only [List.length_append, List.length_cons, List.length_nil]; omega))⟩, ?_⟩
   first | refine ⟨_, .inr ⟨rfl, _, rfl, .inr ⟨rfl, rfl, .inr rfl, rfl, rfl⟩, loc_q (q_fadr_ptr rfl)⟩, ?_⟩
   first | refine ⟨_, .inr ⟨rfl, _, rfl, .inr ⟨rfl, rfl, .inr rfl, rfl, rfl⟩, loc_q (q_ldN rfl rfl rfl)⟩, ?_⟩
   first | refine ⟨_, .inr ⟨rfl, _, rfl, .inr ⟨rfl, rfl, .inr rfl, rfl, rfl⟩, loc_q (q_fadr_ptr rfl)⟩, ?_⟩
   first | refine ⟨_, .inr ⟨rfl, _, rfl, .inr ⟨rfl, rfl, .inr rfl, rfl, rfl⟩, loc_q (q_fadr_ptr rfl)⟩, ?_⟩
   first | refine ⟨_, .inr ⟨rfl, _, rfl, .inr ⟨rfl, rfl, .inr rfl, rfl, rfl⟩, loc_q (q_load1_ptr rfl rfl rfl)⟩, ?_⟩
   first | refine ⟨_, .inr ⟨rfl, _, rfl, .inr ⟨rfl, rfl, .inr rfl, rfl, rfl⟩, loc_q (q_lenS_map rfl)⟩, ?_⟩ | refine ⟨_, .inr ⟨rfl, _, rfl, .inr ⟨rfl, rfl, .inr rfl, rfl, rfl⟩, loc_q (q_lenS_osl rfl)⟩, ?_⟩ | refine ⟨_, .inr ⟨rfl, _, rfl, .inr ⟨rfl, rfl, .inr rfl, rfl, rfl⟩, loc_q (q_lenS_zs rfl)⟩, ?_⟩ | refine ⟨_, .inr ⟨rfl, _, rfl, .inr ⟨rfl, rfl, .inr rfl, rfl, rfl⟩, loc_q (q_lenS rfl)⟩, ?_⟩
   first | refine ⟨_, .inr ⟨rfl, _, rfl, .inr ⟨rfl, rfl, .inr rfl, rfl, rfl⟩, loc_q (q_sub rfl rfl (by omega))⟩, ?_⟩
   first | refine ⟨_, .inr ⟨rfl, _, rfl, .inr ⟨rfl, rfl, .inr rfl, rfl, rfl⟩, loc_call (fun i => 54 + 200 * i) false rfl (c_l10Text (e := s.Set) (f := s.Set.Nodes.length + 1) (by first | assumption | omega | (simp; done) | (simp; omega)) (by first | assumption | omega | (simp; done) | (simp; omega)) (by first | assumption | omega | (simp; done) | (simp; omega)) (by first | assumption | omega | (simp; done) | (simp; omega)) (by first | assumption | omega | (simp; done) | (simp; omega)) (by first | assumption | omega | (simp; done) | (simp; omega))) hP (.inr ⟨rfl, rfl, rfl⟩) rfl rfl (fun h => by cases h)⟩, ?_⟩ | refine ⟨_, .inr ⟨rfl, _, rfl, .inr ⟨rfl, rfl, .inr rfl, rfl, rfl⟩, loc_call (fun i => 54 + 200 * i) true rfl (c_l10Text (e := s.Set) (f := s.Set.Nodes.length + 1) (by first | assumption | omega | (simp; done) | (simp; omega)) (by first | assumption | omega | (simp; done) | (simp; omega)) (by first | assumption | omega | (simp; done) | (simp; omega)) (by first | assumption | omega | (simp; done) | (simp; omega)) (by first | assumption | omega | (simp; done) | (simp; omega)) (by first | assumption | omega | (simp; done) | (simp; omega))) hP (.inl ⟨rfl, (by repeat (first | exact lal_id _ rfl | exact LAL.nil | refine LAL.cons ?_ ?_ | exact la_id _ rfl | exact LA.lend (lend_whole rfl (by first | (simp; done) | (rw [List.length_map]; rfl))) | refine LA.agg ?_ | refine LA.fn ?_ | refine LA.lend ?_ | exact Lend.d _ | exact Lend.zs _ | exact lend_whole rfl (by first | (simp; done) | (rw [List.length_map]; rfl)) | refine Lend.ptr rfl ?_ | refine Lend.fn ?_ | exact LendL.nil | refine LendL.cons ?_ ?_))⟩) rfl rfl (fun _ => ⟨rfl, noisl_of (by repeat (first | exact trivial | refine ⟨noisl_map (fun _ => rfl), ?_⟩ | refine ⟨?_, ?_⟩))⟩)⟩, ?_⟩
   first | refine ⟨_, .inr ⟨rfl, _, rfl, .inr ⟨rfl, rfl, .inr rfl, rfl, rfl⟩, loc_q (q_sbin_add rfl rfl (by simp only [List.length_append, List.length_cons, List.length_nil]; omega))⟩, ?_⟩
   refine ⟨rfl, ?_⟩
   refine ax_q (q_sbin_add rfl rfl (by simp only [List.length_append, List.length_cons, List.length_nil]; omega)) ?_
   refine ax_q (q_mov rfl) ?_
   refine ax_nil ?_
   refine cx_keep rfl rfl ?_
   refine cx_seq ?_
   refine cx_seq ?_
   refine cx_ops ?_
   refine ax_q (q_fadr_ptr rfl) ?_
   refine ax_q (q_ldN rfl rfl rfl) ?_
   first | refine ax_call rfl (vc_pure0 (c_l12None  ) hP rfl rfl ?_) | refine ax_call rfl (vc_lend0 (c_l12None  ) hP (by repeat (first | exact lal_id _ rfl | exact LAL.nil | refine LAL.cons ?_ ?_ | exact la_id _ rfl | exact LA.lend (lend_whole rfl (by first | (simp; done) | (rw [List.length_map]; rfl))) | refine LA.agg ?_ | refine LA.fn ?_ | refine LA.lend ?_ | exact Lend.d _ | exact Lend.zs _ | exact lend_whole rfl (by first | (simp; done) | (rw [List.length_map]; rfl)) | refine Lend.ptr rfl ?_ | refine Lend.fn ?_ | exact LendL.nil | refine LendL.cons ?_ ?_)) rfl rfl ?_)
   refine ax_q (q_not rfl) ?_
   refine ax_nil ?_
   refine cx_keep rfl rfl ?_
   refine cx_cond rfl (fun h2 => ?_) (fun h2 => ?_)
   ·
    have h2 := bT h2
    have hwe := hwh h2
    have hwl : (etF s.Where.Nodes (s.Where.Nodes.length + 1) ((s.Where.Nodes.length : Int) - 1)).length ≤ 100000000000000 := exT_le hwe
    have hwl2 := exT_le hwe
    obtain ⟨hz0, hz1, hz2, hz3, _⟩ := comp_hyps hwe
    have hn40 := exprOK_n hwe
    have ew := fun a => sxW_t (a := a) h2
    refine cx_ops ?_
    refine ax_q (q_mov rfl) ?_
    refine ax_q (q_fadr_ptr rfl) ?_
    refine ax_q (q_ldN rfl rfl rfl) ?_
    refine ax_q (q_fadr_ptr rfl) ?_
    refine ax_q (q_fadr_ptr rfl) ?_
    refine ax_q (q_load1_ptr rfl rfl rfl) ?_
    first | refine ax_q (q_lenS_map rfl) ?_ | refine ax_q (q_lenS_osl rfl) ?_ | refine ax_q (q_lenS_zs rfl) ?_ | refine ax_q (q_lenS rfl) ?_
    refine ax_q (q_sub rfl rfl (by omega)) ?_
    first | refine ax_call rfl (vc_pure0 (c_l10Text (e := s.Where) (f := s.Where.Nodes.length + 1) ?_ ?_ ?_ ?_ ?_ ?_) hP rfl rfl ?_) | refine ax_call rfl (vc_lend0 (c_l10Text (e := s.Where) (f := s.Where.Nodes.length + 1) ?_ ?_ ?_ ?_ ?_ ?_) hP (by repeat (first | exact lal_id _ rfl | exact LAL.nil | refine LAL.cons ?_ ?_ | exact la_id _ rfl | exact LA.lend (lend_whole rfl (by first | (simp; done) | (rw [List.length_map]; rfl))) | refine LA.agg ?_ | refine LA.fn ?_ | refine LA.lend ?_ | exact Lend.d _ | exact Lend.zs _ | exact lend_whole rfl (by first | (simp; done) | (rw [List.length_map]; rfl)) | refine Lend.ptr rfl ?_ | refine Lend.fn ?_ | exact LendL.nil | refine LendL.cons ?_ ?_)) rfl rfl ?_)
    ·
     first | assumption | omega | (simp; done) | (simp; omega)
    ·
     first | assumption | omega | (simp; done) | (simp; omega)
    ·
     first | assumption | omega | (simp; done) | (simp; omega)
    ·
     first | assumption | omega | (simp; done) | (simp; omega)
    ·
     first | assumption | omega | (simp; done) | (simp; omega)
    ·
     first | assumption | omega | (simp; done) | (simp; omega)
    refine ax_q (q_sbin_add rfl rfl (by simp only [List.length_append, List.length_cons, List.length_nil]; omega)) ?_
    refine ax_q (q_sbin_add rfl rfl (by simp only [List.length_append, List.length_cons, List.length_nil]; omega)) ?_
    refine ax_q (q_mov rfl) ?_
    refine ax_nil ?_
    refine cx_keep rfl rfl ?_
    refine cx_seq ?_
    refine cx_seq ?_
    refine cx_ops ?_
    refine ax_q (q_fadr_ptr rfl) ?_
    refine ax_q (q_load1_ptr rfl rfl rfl) ?_
    refine ax_q (q_ibin rfl rfl rfl) ?_
    refine ax_q (q_mov rfl) ?_
    apply ax_and rfl rfl
    ·
     intro g
     have g := dT g
     refine ax_q (q_fadr_ptr rfl) ?_
     refine ax_q (q_load1_ptr rfl rfl rfl) ?_
     refine ax_q (q_ibin rfl rfl rfl) ?_
     refine ax_q (q_mov rfl) ?_
     apply ax_or rfl rfl
     ·
      intro g
      have g := dF g
      refine ax_q (q_fadr_ptr rfl) ?_
      refine ax_q (q_load1_ptr rfl rfl rfl) ?_
      exact ax_nil ⟨rfl, by repeat (first | exact trivial | refine ⟨rfl, ?_⟩ | refine ⟨?_, ?_⟩)⟩
     exact ax_nil ⟨rfl, by repeat (first | exact trivial | refine ⟨rfl, ?_⟩ | refine ⟨?_, ?_⟩)⟩
    refine ax_nil ?_
    refine cx_keep rfl rfl ?_
    refine cx_cond rfl (fun h3 => ?_) (fun h3 => ?_)
    ·
     have h3 := (fun h => And.intro (dT (and_T h).1) ((fun h => (or_T h).imp dT id) (and_T h).2)) h3
     have eo := fun a => sxO_t (a := a) (h3.2.imp (fun h => by omega) id)
     refine cx_seq ?_
     refine cx_drawL 0 84 (fun _ => false) (fun _ => true) [] ([]) [[3], [], [1], [86], [85, 87], [88], [89]] [[], [], [], [], [], [], []] rfl ?_
     first | refine ⟨⟨84, _, []⟩, .inl ⟨rfl, rfl, rfl, locl_of (loc_q (q_mov rfl))⟩, ?_⟩
     first | refine ⟨_, .inr ⟨rfl, _, rfl, .inr ⟨rfl, rfl, .inr rfl, rfl, rfl⟩, loc_call (fun i => 85 + 200 * i) false rfl (c_l10Columns  ) hP (.inr ⟨rfl, rfl, rfl⟩) rfl rfl (fun h => by cases h)⟩, ?_⟩ | refine ⟨_, .inr ⟨rfl, _, rfl, .inr ⟨rfl, rfl, .inr rfl, rfl, rfl⟩, loc_call (fun i => 85 + 200 * i) true rfl (c_l10Columns  ) hP (.inl ⟨rfl, (by repeat (first | exact lal_id _ rfl | exact LAL.nil | refine LAL.cons ?_ ?_ | exact la_id _ rfl | exact LA.lend (lend_whole rfl (by first | (simp; done) | (rw [List.length_map]; rfl))) | refine LA.agg ?_ | refine LA.fn ?_ | refine LA.lend ?_ | exact Lend.d _ | exact Lend.zs _ | exact lend_whole rfl (by first | (simp; done) | (rw [List.length_map]; rfl)) | refine Lend.ptr rfl ?_ | refine Lend.fn ?_ | exact LendL.nil | refine LendL.cons ?_ ?_))⟩) rfl rfl (fun _ => ⟨rfl, noisl_of (by repeat (first | exact trivial | refine ⟨noisl_map (fun _ => rfl), ?_⟩ | refine ⟨?_, ?_⟩))⟩)⟩, ?_⟩
     first | refine ⟨_, .inr ⟨rfl, _, rfl, .inr ⟨rfl, rfl, .inr rfl, rfl, rfl⟩, loc_q (q_fadr_ptr rfl)⟩, ?_⟩
     first | refine ⟨_, .inr ⟨rfl, _, rfl, .inr ⟨rfl, rfl, .inr rfl, rfl, rfl⟩, loc_q (q_load1_ptr rfl rfl rfl)⟩, ?_⟩
     first | refine ⟨_, .inr ⟨rfl, _, rfl, .inr ⟨rfl, rfl, .inr rfl, rfl, rfl⟩, loc_q (q_ixoI rfl rfl (by omega) (by omega))⟩, ?_⟩
     first | refine ⟨_, .inr ⟨rfl, _, rfl, .inr ⟨rfl, rfl, .inr rfl, rfl, rfl⟩, loc_q (q_load1_rptr rfl rfl (cols_at (by omega)) rfl)⟩, ?_⟩
     first | refine ⟨_, .inr ⟨rfl, _, rfl, .inr ⟨rfl, rfl, .inr rfl, rfl, rfl⟩, loc_q (q_sbin_add rfl rfl (by simp only [List.length_append, List.length_cons, List.length_nil]; omega))⟩, ?_⟩
     refine ⟨rfl, ?_⟩
     refine ax_q (q_sbin_add rfl rfl (by simp only [List.length_append, List.length_cons, List.length_nil]; omega)) ?_
     refine ax_q (q_mov rfl) ?_
     refine ax_nil ?_
     refine cx_keep rfl rfl ?_
     refine cx_seq ?_
     refine cx_ops ?_
     refine ax_q (q_fadr_ptr rfl) ?_
     refine ax_q (q_load1_ptr rfl rfl rfl) ?_
     refine ax_nil ?_
     refine cx_keep rfl rfl ?_
     refine cx_cond rfl (fun h4 => ?_) (fun h4 => ?_)
     ·
      skip
      have ed := fun a => sxD_t (a := a) h4
      refine cx_ops ?_
      refine ax_q (q_mov rfl) ?_
      refine ax_q (q_sbin_add rfl rfl (by simp only [List.length_append, List.length_cons, List.length_nil]; omega)) ?_
      refine ax_q (q_mov rfl) ?_
      refine ax_nil ?_
      refine cx_keep rfl rfl ?_
      refine cx_seq ?_
      refine cx_ops ?_
      refine ax_q (q_mov rfl) ?_
      refine ax_q (q_mov rfl) ?_
      refine ax_nil ?_
      refine cx_keep rfl rfl ?_
      refine cx_ret (ret0 rfl rfl ?_)
      exact ⟨by unfold stT sxA; rw [eb, ec, ew, eo, ed]; rfl, rfl⟩
     ·
      skip
      have ed := fun a => sxD_f (a := a) h4
      refine cx_skip ?_
      refine cx_keep rfl rfl ?_
      refine cx_seq ?_
      refine cx_ops ?_
      refine ax_q (q_mov rfl) ?_
      refine ax_q (q_mov rfl) ?_
      refine ax_nil ?_
      refine cx_keep rfl rfl ?_
      refine cx_ret (ret0 rfl rfl ?_)
      exact ⟨by unfold stT sxA; rw [eb, ec, ew, eo, ed]; rfl, rfl⟩
    ·
     have h3 := (fun h => (and_F h).imp dF (fun h => And.intro (dF (or_F h).1) (id (or_F h).2))) h3
     have eo := fun a => sxO_f (a := a) (so_f hk1 hor h3)
     have ed := fun a => sxD_f (a := a) (so_f hk1 hor h3).2
     refine cx_skip ?_
     refine cx_keep rfl rfl ?_
     refine cx_seq ?_
     refine cx_ops ?_
     refine ax_q (q_mov rfl) ?_
     refine ax_q (q_mov rfl) ?_
     refine ax_nil ?_
     refine cx_keep rfl rfl ?_
     refine cx_ret (ret0 rfl rfl ?_)
     exact ⟨by unfold stT sxA; rw [eb, ec, ew, eo, ed]; rfl, rfl⟩
   ·
    have h2 := bF h2
    have ew := fun a => sxW_f (a := a) h2
    refine cx_skip ?_
    refine cx_keep rfl rfl ?_
    refine cx_seq ?_
    refine cx_seq ?_
    refine cx_ops ?_
    refine ax_q (q_fadr_ptr rfl) ?_
    refine ax_q (q_load1_ptr rfl rfl rfl) ?_
    refine ax_q (q_ibin rfl rfl rfl) ?_
    refine ax_q (q_mov rfl) ?_
    apply ax_and rfl rfl
    ·
     intro g
     have g := dT g
     refine ax_q (q_fadr_ptr rfl) ?_
     refine ax_q (q_load1_ptr rfl rfl rfl) ?_
     refine ax_q (q_ibin rfl rfl rfl) ?_
     refine ax_q (q_mov rfl) ?_
     apply ax_or rfl rfl
     ·
      intro g
      have g := dF g
      refine ax_q (q_fadr_ptr rfl) ?_
      refine ax_q (q_load1_ptr rfl rfl rfl) ?_
      exact ax_nil ⟨rfl, by repeat (first | exact trivial | refine ⟨rfl, ?_⟩ | refine ⟨?_, ?_⟩)⟩
     exact ax_nil ⟨rfl, by repeat (first | exact trivial | refine ⟨rfl, ?_⟩ | refine ⟨?_, ?_⟩)⟩
    refine ax_nil ?_
    refine cx_keep rfl rfl ?_
    refine cx_cond rfl (fun h3 => ?_) (fun h3 => ?_)
    ·
     have h3 := (fun h => And.intro (dT (and_T h).1) ((fun h => (or_T h).imp dT id) (and_T h).2)) h3
     have eo := fun a => sxO_t (a := a) (h3.2.imp (fun h => by omega) id)
     refine cx_seq ?_
     refine cx_drawL 0 84 (fun _ => false) (fun _ => true) [] ([]) [[3], [], [1], [86], [85, 87], [88], [89]] [[], [], [], [], [], [], []] rfl ?_
     first | refine ⟨⟨84, _, []⟩, .inl ⟨rfl, rfl, rfl, locl_of (loc_q (q_mov rfl))⟩, ?_⟩
     first | refine ⟨_, .inr ⟨rfl, _, rfl, .inr ⟨rfl, rfl, .inr rfl, rfl, rfl⟩, loc_call (fun i => 85 + 200 * i) false rfl (c_l10Columns  ) hP (.inr ⟨rfl, rfl, rfl⟩) rfl rfl (fun h => by cases h)⟩, ?_⟩ | refine ⟨_, .inr ⟨rfl, _, rfl, .inr ⟨rfl, rfl, .inr rfl, rfl, rfl⟩, loc_call (fun i => 85 + 200 * i) true rfl (c_l10Columns  ) hP (.inl ⟨rfl, (by repeat (first | exact lal_id _ rfl | exact LAL.nil | refine LAL.cons ?_ ?_ | exact la_id _ rfl | exact LA.lend (lend_whole rfl (by first | (simp; done) | (rw [List.length_map]; rfl))) | refine LA.agg ?_ | refine LA.fn ?_ | refine LA.lend ?_ | exact Lend.d _ | exact Lend.zs _ | exact lend_whole rfl (by first | (simp; done) | (rw [List.length_map]; rfl)) | refine Lend.ptr rfl ?_ | refine Lend.fn ?_ | exact LendL.nil | refine LendL.cons ?_ ?_))⟩) rfl rfl (fun _ => ⟨rfl, noisl_of (by repeat (first | exact trivial | refine ⟨noisl_map (fun _ => rfl), ?_⟩ | refine ⟨?_, ?_⟩))⟩)⟩, ?_⟩
     first | refine ⟨_, .inr ⟨rfl, _, rfl, .inr ⟨rfl, rfl, .inr rfl, rfl, rfl⟩, loc_q (q_fadr_ptr rfl)⟩, ?_⟩
     first | refine ⟨_, .inr ⟨rfl, _, rfl, .inr ⟨rfl, rfl, .inr rfl, rfl, rfl⟩, loc_q (q_load1_ptr rfl rfl rfl)⟩, ?_⟩
     first | refine ⟨_, .inr ⟨rfl, _, rfl, .inr ⟨rfl, rfl, .inr rfl, rfl, rfl⟩, loc_q (q_ixoI rfl rfl (by omega) (by omega))⟩, ?_⟩
     first | refine ⟨_, .inr ⟨rfl, _, rfl, .inr ⟨rfl, rfl, .inr rfl, rfl, rfl⟩, loc_q (q_load1_rptr rfl rfl (cols_at (by omega)) rfl)⟩, ?_⟩
     first | refine ⟨_, .inr ⟨rfl, _, rfl, .inr ⟨rfl, rfl, .inr rfl, rfl, rfl⟩, loc_q (q_sbin_add rfl rfl (by simp only [List.length_append, List.length_cons, List.length_nil]; omega))⟩, ?_⟩
     refine ⟨rfl, ?_⟩
     refine ax_q (q_sbin_add rfl rfl (by simp only [List.length_append, List.length_cons, List.length_nil]; omega)) ?_
     refine ax_q (q_mov rfl) ?_
     refine ax_nil ?_
     refine cx_keep rfl rfl ?_
     refine cx_seq ?_
     refine cx_ops ?_
     refine ax_q (q_fadr_ptr rfl) ?_
     refine ax_q (q_load1_ptr rfl rfl rfl) ?_
     refine ax_nil ?_
     refine cx_keep rfl rfl ?_
     refine cx_cond rfl (fun h4 => ?_) (fun h4 => ?_)
     ·
      skip
      have ed := fun a => sxD_t (a := a) h4
      refine cx_ops ?_
      refine ax_q (q_mov rfl) ?_
      refine ax_q (q_sbin_add rfl rfl (by simp only [List.length_append, List.length_cons, List.length_nil]; omega)) ?_
      refine ax_q (q_mov rfl) ?_
      refine ax_nil ?_
      refine cx_keep rfl rfl ?_
      refine cx_seq ?_
      refine cx_ops ?_
      refine ax_q (q_mov rfl) ?_
      refine ax_q (q_mov rfl) ?_
      refine ax_nil ?_
      refine cx_keep rfl rfl ?_
      refine cx_ret (ret0 rfl rfl ?_)
      exact ⟨by unfold stT sxA; rw [eb, ec, ew, eo, ed]; rfl, rfl⟩
     ·
      skip
      have ed := fun a => sxD_f (a := a) h4
      refine cx_skip ?_
      refine cx_keep rfl rfl ?_
      refine cx_seq ?_
      refine cx_ops ?_
      refine ax_q (q_mov rfl) ?_
      refine ax_q (q_mov rfl) ?_
      refine ax_nil ?_
      refine cx_keep rfl rfl ?_
      refine cx_ret (ret0 rfl rfl ?_)
      exact ⟨by unfold stT sxA; rw [eb, ec, ew, eo, ed]; rfl, rfl⟩
    ·
     have h3 := (fun h => (and_F h).imp dF (fun h => And.intro (dF (or_F h).1) (id (or_F h).2))) h3
     have eo := fun a => sxO_f (a := a) (so_f hk1 hor h3)
     have ed := fun a => sxD_f (a := a) (so_f hk1 hor h3).2
     refine cx_skip ?_
     refine cx_keep rfl rfl ?_
     refine cx_seq ?_
     refine cx_ops ?_
     refine ax_q (q_mov rfl) ?_
     refine ax_q (q_mov rfl) ?_
     refine ax_nil ?_
     refine cx_keep rfl rfl ?_
     refine cx_ret (ret0 rfl rfl ?_)
     exact ⟨by unfold stT sxA; rw [eb, ec, ew, eo, ed]; rfl, rfl⟩
  ·
   have h1 := dF h1
   have ec := fun a => sxC_f (a := a) h1
   refine cx_skip ?_
   refine cx_keep rfl rfl ?_
   refine cx_seq ?_
   refine cx_seq ?_
   refine cx_ops ?_
   refine ax_q (q_fadr_ptr rfl) ?_
   refine ax_q (q_ldN rfl rfl rfl) ?_
   first | refine ax_call rfl (vc_pure0 (c_l12None  ) hP rfl rfl ?_) | refine ax_call rfl (vc_lend0 (c_l12None  ) hP (by repeat (first | exact lal_id _ rfl | exact LAL.nil | refine LAL.cons ?_ ?_ | exact la_id _ rfl | exact LA.lend (lend_whole rfl (by first | (simp; done) | (rw [List.length_map]; rfl))) | refine LA.agg ?_ | refine LA.fn ?_ | refine LA.lend ?_ | exact Lend.d _ | exact Lend.zs _ | exact lend_whole rfl (by first | (simp; done) | (rw [List.length_map]; rfl)) | refine Lend.ptr rfl ?_ | refine Lend.fn ?_ | exact LendL.nil | refine LendL.cons ?_ ?_)) rfl rfl ?_)
   refine ax_q (q_not rfl) ?_
   refine ax_nil ?_
   refine cx_keep rfl rfl ?_
   refine cx_cond rfl (fun h2 => ?_) (fun h2 => ?_)
   ·
    have h2 := bT h2
    have hwe := hwh h2
    have hwl : (etF s.Where.Nodes (s.Where.Nodes.length + 1) ((s.Where.Nodes.length : Int) - 1)).length ≤ 100000000000000 := exT_le hwe
    have hwl2 := exT_le hwe
    obtain ⟨hz0, hz1, hz2, hz3, _⟩ := comp_hyps hwe
    have hn40 := exprOK_n hwe
    have ew := fun a => sxW_t (a := a) h2
    refine cx_ops ?_
    refine ax_q (q_mov rfl) ?_
    refine ax_q (q_fadr_ptr rfl) ?_
    refine ax_q (q_ldN rfl rfl rfl) ?_
    refine ax_q (q_fadr_ptr rfl) ?_
    refine ax_q (q_fadr_ptr rfl) ?_
    refine ax_q (q_load1_ptr rfl rfl rfl) ?_
    first | refine ax_q (q_lenS_map rfl) ?_ | refine ax_q (q_lenS_osl rfl) ?_ | refine ax_q (q_lenS_zs rfl) ?_ | refine ax_q (q_lenS rfl) ?_
    refine ax_q (q_sub rfl rfl (by omega)) ?_
    first | refine ax_call rfl (vc_pure0 (c_l10Text (e := s.Where) (f := s.Where.Nodes.length + 1) ?_ ?_ ?_ ?_ ?_ ?_) hP rfl rfl ?_) | refine ax_call rfl (vc_lend0 (c_l10Text (e := s.Where) (f := s.Where.Nodes.length + 1) ?_ ?_ ?_ ?_ ?_ ?_) hP (by repeat (first | exact lal_id _ rfl | exact LAL.nil | refine LAL.cons ?_ ?_ | exact la_id _ rfl | exact LA.lend (lend_whole rfl (by first | (simp; done) | (rw [List.length_map]; rfl))) | refine LA.agg ?_ | refine LA.fn ?_ | refine LA.lend ?_ | exact Lend.d _ | exact Lend.zs _ | exact lend_whole rfl (by first | (simp; done) | (rw [List.length_map]; rfl)) | refine Lend.ptr rfl ?_ | refine Lend.fn ?_ | exact LendL.nil | refine LendL.cons ?_ ?_)) rfl rfl ?_)
    ·
     first | assumption | omega | (simp; done) | (simp; omega)
    ·
     first | assumption | omega | (simp; done) | (simp; omega)
    ·
     first | assumption | omega | (simp; done) | (simp; omega)
    ·
     first | assumption | omega | (simp; done) | (simp; omega)
    ·
     first | assumption | omega | (simp; done) | (simp; omega)
    ·
     first | assumption | omega | (simp; done) | (simp; omega)
    refine ax_q (q_sbin_add rfl rfl (by simp only [List.length_append, List.length_cons, List.length_nil]; omega)) ?_
    refine ax_q (q_sbin_add rfl rfl (by simp only [List.length_append, List.length_cons, List.length_nil]; omega)) ?_
    refine ax_q (q_mov rfl) ?_
    refine ax_nil ?_
    refine cx_keep rfl rfl ?_
    refine cx_seq ?_
    refine cx_seq ?_
    refine cx_ops ?_
    refine ax_q (q_fadr_ptr rfl) ?_
    refine ax_q (q_load1_ptr rfl rfl rfl) ?_
    refine ax_q (q_ibin rfl rfl rfl) ?_
    refine ax_q (q_mov rfl) ?_
    apply ax_and rfl rfl
    ·
     intro g
     have g := dT g
     refine ax_q (q_fadr_ptr rfl) ?_
     refine ax_q (q_load1_ptr rfl rfl rfl) ?_
     refine ax_q (q_ibin rfl rfl rfl) ?_
     refine ax_q (q_mov rfl) ?_
     apply ax_or rfl rfl
     ·
      intro g
      have g := dF g
      refine ax_q (q_fadr_ptr rfl) ?_
      refine ax_q (q_load1_ptr rfl rfl rfl) ?_
      exact ax_nil ⟨rfl, by repeat (first | exact trivial | refine ⟨rfl, ?_⟩ | refine ⟨?_, ?_⟩)⟩
     exact ax_nil ⟨rfl, by repeat (first | exact trivial | refine ⟨rfl, ?_⟩ | refine ⟨?_, ?_⟩)⟩
    refine ax_nil ?_
    refine cx_keep rfl rfl ?_
    refine cx_cond rfl (fun h3 => ?_) (fun h3 => ?_)
    ·
     have h3 := (fun h => And.intro (dT (and_T h).1) ((fun h => (or_T h).imp dT id) (and_T h).2)) h3
     have eo := fun a => sxO_t (a := a) (h3.2.imp (fun h => by omega) id)
     refine cx_seq ?_
     refine cx_drawL 0 84 (fun _ => false) (fun _ => true) [] ([]) [[3], [], [1], [86], [85, 87], [88], [89]] [[], [], [], [], [], [], []] rfl ?_
     first | refine ⟨⟨84, _, []⟩, .inl ⟨rfl, rfl, rfl, locl_of (loc_q (q_mov rfl))⟩, ?_⟩
     first | refine ⟨_, .inr ⟨rfl, _, rfl, .inr ⟨rfl, rfl, .inr rfl, rfl, rfl⟩, loc_call (fun i => 85 + 200 * i) false rfl (c_l10Columns  ) hP (.inr ⟨rfl, rfl, rfl⟩) rfl rfl (fun h => by cases h)⟩, ?_⟩ | refine ⟨_, .inr ⟨rfl, _, rfl, .inr ⟨rfl, rfl, .inr rfl, rfl, rfl⟩, loc_call (fun i => 85 + 200 * i) true rfl (c_l10Columns  ) hP (.inl ⟨rfl, (by repeat (first | exact lal_id _ rfl | exact LAL.nil | refine LAL.cons ?_ ?_ | exact la_id _ rfl | exact LA.lend (lend_whole rfl (by first | (simp; done) | (rw [List.length_map]; rfl))) | refine LA.agg ?_ | refine LA.fn ?_ | refine LA.lend ?_ | exact Lend.d _ | exact Lend.zs _ | exact lend_whole rfl (by first | (simp; done) | (rw [List.length_map]; rfl)) | refine Lend.ptr rfl ?_ | refine Lend.fn ?_ | exact LendL.nil | refine LendL.cons ?_ ?_))⟩) rfl rfl (fun _ => ⟨rfl, noisl_of (by repeat (first | exact trivial | refine ⟨noisl_map (fun _ => rfl), ?_⟩ | refine ⟨?_, ?_⟩))⟩)⟩, ?_⟩
     first | refine ⟨_, .inr ⟨rfl, _, rfl, .inr ⟨rfl, rfl, .inr rfl, rfl, rfl⟩, loc_q (q_fadr_ptr rfl)⟩, ?_⟩
     first | refine ⟨_, .inr ⟨rfl, _, rfl, .inr ⟨rfl, rfl, .inr rfl, rfl, rfl⟩, loc_q (q_load1_ptr rfl rfl rfl)⟩, ?_⟩
     first | refine ⟨_, .inr ⟨rfl, _, rfl, .inr ⟨rfl, rfl, .inr rfl, rfl, rfl⟩, loc_q (q_ixoI rfl rfl (by omega) (by omega))⟩, ?_⟩
     first | refine ⟨_, .inr ⟨rfl, _, rfl, .inr ⟨rfl, rfl, .inr rfl, rfl, rfl⟩, loc_q (q_load1_rptr rfl rfl (cols_at (by omega)) rfl)⟩, ?_⟩
     first | refine ⟨_, .inr ⟨rfl, _, rfl, .inr ⟨rfl, rfl, .inr rfl, rfl, rfl⟩, loc_q (q_sbin_add rfl rfl (by simp only [List.length_append, List.length_cons, List.length_nil]; omega))⟩, ?_⟩
     refine ⟨rfl, ?_⟩
     refine ax_q (q_sbin_add rfl rfl (by simp only [List.length_append, List.length_cons, List.length_nil]; omega)) ?_
     refine ax_q (q_mov rfl) ?_
     refine ax_nil ?_
     refine cx_keep rfl rfl ?_
     refine cx_seq ?_
     refine cx_ops ?_
     refine ax_q (q_fadr_ptr rfl) ?_
     refine ax_q (q_load1_ptr rfl rfl rfl) ?_
     refine ax_nil ?_
     refine cx_keep rfl rfl ?_
     refine cx_cond rfl (fun h4 => ?_) (fun h4 => ?_)
     ·
      skip
      have ed := fun a => sxD_t (a := a) h4
      refine cx_ops ?_
      refine ax_q (q_mov rfl) ?_
      refine ax_q (q_sbin_add rfl rfl (by simp only [List.length_append, List.length_cons, List.length_nil]; omega)) ?_
      refine ax_q (q_mov rfl) ?_
      refine ax_nil ?_
      refine cx_keep rfl rfl ?_
      refine cx_seq ?_
      refine cx_ops ?_
      refine ax_q (q_mov rfl) ?_
      refine ax_q (q_mov rfl) ?_
      refine ax_nil ?_
      refine cx_keep rfl rfl ?_
      refine cx_ret (ret0 rfl rfl ?_)
      exact ⟨by unfold stT sxA; rw [eb, ec, ew, eo, ed]; rfl, rfl⟩
     ·
      skip
      have ed := fun a => sxD_f (a := a) h4
      refine cx_skip ?_
      refine cx_keep rfl rfl ?_
      refine cx_seq ?_
      refine cx_ops ?_
      refine ax_q (q_mov rfl) ?_
      refine ax_q (q_mov rfl) ?_
      refine ax_nil ?_
      refine cx_keep rfl rfl ?_
      refine cx_ret (ret0 rfl rfl ?_)
      exact ⟨by unfold stT sxA; rw [eb, ec, ew, eo, ed]; rfl, rfl⟩
    ·
     have h3 := (fun h => (and_F h).imp dF (fun h => And.intro (dF (or_F h).1) (id (or_F h).2))) h3
     have eo := fun a => sxO_f (a := a) (so_f hk1 hor h3)
     have ed := fun a => sxD_f (a := a) (so_f hk1 hor h3).2
     refine cx_skip ?_
     refine cx_keep rfl rfl ?_
     refine cx_seq ?_
     refine cx_ops ?_
     refine ax_q (q_mov rfl) ?_
     refine ax_q (q_mov rfl) ?_
     refine ax_nil ?_
     refine cx_keep rfl rfl ?_
     refine cx_ret (ret0 rfl rfl ?_)
     exact ⟨by unfold stT sxA; rw [eb, ec, ew, eo, ed]; rfl, rfl⟩
   ·
    have h2 := bF h2
    have ew := fun a => sxW_f (a := a) h2
    refine cx_skip ?_
    refine cx_keep rfl rfl ?_
    refine cx_seq ?_
    refine cx_seq ?_
    refine cx_ops ?_
    refine ax_q (q_fadr_ptr rfl) ?_
    refine ax_q (q_load1_ptr rfl rfl rfl) ?_
    refine ax_q (q_ibin rfl rfl rfl) ?_
    refine ax_q (q_mov rfl) ?_
    apply ax_and rfl rfl
    ·
     intro g
     have g := dT g
     refine ax_q (q_fadr_ptr rfl) ?_
     refine ax_q (q_load1_ptr rfl rfl rfl) ?_
     refine ax_q (q_ibin rfl rfl rfl) ?_
     refine ax_q (q_mov rfl) ?_
     apply ax_or rfl rfl
     ·
      intro g
      have g := dF g
      refine ax_q (q_fadr_ptr rfl) ?_
      refine ax_q (q_load1_ptr rfl rfl rfl) ?_
      exact ax_nil ⟨rfl, by repeat (first | exact trivial | refine ⟨rfl, ?_⟩ | refine ⟨?_, ?_⟩)⟩
     exact ax_nil ⟨rfl, by repeat (first | exact trivial | refine ⟨rfl, ?_⟩ | refine ⟨?_, ?_⟩)⟩
    refine ax_nil ?_
    refine cx_keep rfl rfl ?_
    refine cx_cond rfl (fun h3 => ?_) (fun h3 => ?_)
    ·
     have h3 := (fun h => And.intro (dT (and_T h).1) ((fun h => (or_T h).imp dT id) (and_T h).2)) h3
     have eo := fun a => sxO_t (a := a) (h3.2.imp (fun h => by omega) id)
     refine cx_seq ?_
     refine cx_drawL 0 84 (fun _ => false) (fun _ => true) [] ([]) [[3], [], [1], [86], [85, 87], [88], [89]] [[], [], [], [], [], [], []] rfl ?_
     first | refine ⟨⟨84, _, []⟩, .inl ⟨rfl, rfl, rfl, locl_of (loc_q (q_mov rfl))⟩, ?_⟩
     first | refine ⟨_, .inr ⟨rfl, _, rfl, .inr ⟨rfl, rfl, .inr rfl, rfl, rfl⟩, loc_call (fun i => 85 + 200 * i) false rfl (c_l10Columns  ) hP (.inr ⟨rfl, rfl, rfl⟩) rfl rfl (fun h => by cases h)⟩, ?_⟩ | refine ⟨_, .inr ⟨rfl, _, rfl, .inr ⟨rfl, rfl, .inr rfl, rfl, rfl⟩, loc_call (fun i => 85 + 200 * i) true rfl (c_l10Columns  ) hP (.inl ⟨rfl, (by repeat (first | exact lal_id _ rfl | exact LAL.nil | refine LAL.cons ?_ ?_ | exact la_id _ rfl | exact LA.lend (lend_whole rfl (by first | (simp; done) | (rw [List.length_map]; rfl))) | refine LA.agg ?_ | refine LA.fn ?_ | refine LA.lend ?_ | exact Lend.d _ | exact Lend.zs _ | exact lend_whole rfl (by first | (simp; done) | (rw [List.length_map]; rfl)) | refine Lend.ptr rfl ?_ | refine Lend.fn ?_ | exact LendL.nil | refine LendL.cons ?_ ?_))⟩) rfl rfl (fun _ => ⟨rfl, noisl_of (by repeat (first | exact trivial | refine ⟨noisl_map (fun _ => rfl), ?_⟩ | refine ⟨?_, ?_⟩))⟩)⟩, ?_⟩
     first | refine ⟨_, .inr ⟨rfl, _, rfl, .inr ⟨rfl, rfl, .inr rfl, rfl, rfl⟩, loc_q (q_fadr_ptr rfl)⟩, ?_⟩
     first | refine ⟨_, .inr ⟨rfl, _, rfl, .inr ⟨rfl, rfl, .inr rfl, rfl, rfl⟩, loc_q (q_load1_ptr rfl rfl rfl)⟩, ?_⟩
     first | refine ⟨_, .inr ⟨rfl, _, rfl, .inr ⟨rfl, rfl, .inr rfl, rfl, rfl⟩, loc_q (q_ixoI rfl rfl (by omega) (by omega))⟩, ?_⟩
     first | refine ⟨_, .inr ⟨rfl, _, rfl, .inr ⟨rfl, rfl, .inr rfl, rfl, rfl⟩, loc_q (q_load1_rptr rfl rfl (cols_at (by omega)) rfl)⟩, ?_⟩
     first | refine ⟨_, .inr ⟨rfl, _, rfl, .inr ⟨rfl, rfl, .inr rfl, rfl, rfl⟩, loc_q (q_sbin_add rfl rfl (by simp only [List.length_append, List.length_cons, List.length_nil]; omega))⟩, ?_⟩
     refine ⟨rfl, ?_⟩
     refine ax_q (q_sbin_add rfl rfl (by simp only [List.length_append, List.length_cons, List.length_nil]; omega)) ?_
     refine ax_q (q_mov rfl) ?_
     refine ax_nil ?_
     refine cx_keep rfl rfl ?_
     refine cx_seq ?_
     refine cx_ops ?_
     refine ax_q (q_fadr_ptr rfl) ?_
     refine ax_q (q_load1_ptr rfl rfl rfl) ?_
     refine ax_nil ?_
     refine cx_keep rfl rfl ?_
     refine cx_cond rfl (fun h4 => ?_) (fun h4 => ?_)
     ·
      skip
      have ed := fun a => sxD_t (a := a) h4
      refine cx_ops ?_
      refine ax_q (q_mov rfl) ?_
      refine ax_q (q_sbin_add rfl rfl (by simp only [List.length_append, List.length_cons, List.length_nil]; omega)) ?_
      refine ax_q (q_mov rfl) ?_
      refine ax_nil ?_
      refine cx_keep rfl rfl ?_
      refine cx_seq ?_
      refine cx_ops ?_
      refine ax_q (q_mov rfl) ?_
      refine ax_q (q_mov rfl) ?_
      refine ax_nil ?_
      refine cx_keep rfl rfl ?_
      refine cx_ret (ret0 rfl rfl ?_)
      exact ⟨by unfold stT sxA; rw [eb, ec, ew, eo, ed]; rfl, rfl⟩
     ·
      skip
      have ed := fun a => sxD_f (a := a) h4
      refine cx_skip ?_
      refine cx_keep rfl rfl ?_
      refine cx_seq ?_
      refine cx_ops ?_
      refine ax_q (q_mov rfl) ?_
      refine ax_q (q_mov rfl) ?_
      refine ax_nil ?_
      refine cx_keep rfl rfl ?_
      refine cx_ret (ret0 rfl rfl ?_)
      exact ⟨by unfold stT sxA; rw [eb, ec, ew, eo, ed]; rfl, rfl⟩
    ·
     have h3 := (fun h => (and_F h).imp dF (fun h => And.intro (dF (or_F h).1) (id (or_F h).2))) h3
     have eo := fun a => sxO_f (a := a) (so_f hk1 hor h3)
     have ed := fun a => sxD_f (a := a) (so_f hk1 hor h3).2
     refine cx_skip ?_
     refine cx_keep rfl rfl ?_
     refine cx_seq ?_
     refine cx_ops ?_
     refine ax_q (q_mov rfl) ?_
     refine ax_q (q_mov rfl) ?_
     refine ax_nil ?_
     refine cx_keep rfl rfl ?_
     refine cx_ret (ret0 rfl rfl ?_)
     exact ⟨by unfold stT sxA; rw [eb, ec, ew, eo, ed]; rfl, rfl⟩


/- loop.example/g00332/spec.StmtText -/
def k_c_sStmtText : XCode :=
 .seq (.ops [.op (some 1) (.box (.t 0)),
   .op (some 2) (.mov (.k (.str []))),
   .op (some 3) (.mov (.k (.int .i64 0)))])
 (.keep [1] (.seq (.seq (.ops [.op (some 4) (.loadN 14 (.t 1)),
   .call (some 5) 23 [.t 4],
   .op (some 6) (.not (.t 5))])
  (.keep [1, 6] (.cond (.t 6)
  (.seq (.ops [.op (some 2) (.mov (.k (.str []))),
    .op (some 3) (.mov (.k (.int .i64 1)))])
   (.keep [2, 3] (.ret)))
  (.skip))))
 (.keep [1] (.seq (.ops [.op (some 7) (.loadN 14 (.t 1)),
   .call (some 8) 24 [.t 7],
   .op (some 2) (.mov (.t 8)),
   .op (some 3) (.mov (.k (.int .i64 0)))])
 (.keep [2, 3] (.ret))))))
theorem k_c_sStmtText_fits : fitsF Tryd.prog 11 ⟨9, k_c_sStmtText, [.t 2, .t 3]⟩ = true := by kernel_rfl
theorem c_sStmtText {s : GStmt} (hs0 : s.Set.Nodes.length ≤ 1048576) (hs1 : ∀ x ∈ s.Set.Nodes, x.V.T.length ≤ 1048576) (hw0 : s.Where.Nodes.length ≤ 1048576) (hw1 : ∀ x ∈ s.Where.Nodes, x.V.T.length ≤ 1048576) (hr0 : s.Row.N.T.length ≤ 1048576) (hr1 : s.Row.Name.T.length ≤ 1048576) : Con Tryd.prog noMv 11 [s.av] [] (fun r h => r = .tup [str (stTF s).1, int (stTF s).2] ∧ h = []) := by
 refine con_of2 k_c_sStmtText_fits rfl fun C hP hmv => ?_
 unfold k_c_sStmtText
 refine cx_seq ?_
 refine cx_ops ?_
 refine ax_e (e_box rfl rfl (by decide) rfl rfl rfl) ?_
 refine ax_q (q_mov rfl) ?_
 refine ax_q (q_mov rfl) ?_
 refine ax_nil ?_
 refine cx_keep rfl rfl ?_
 refine cx_seq ?_
 refine cx_seq ?_
 refine cx_ops ?_
 refine ax_q (q_ldN rfl rfl rfl) ?_
 first | refine ax_call rfl (vc_pure0 (c_sStmtOK (s := s) ?_ ?_ ?_ ?_ ?_ ?_) hP rfl rfl ?_) | refine ax_call rfl (vc_lend0 (c_sStmtOK (s := s) ?_ ?_ ?_ ?_ ?_ ?_) hP (by repeat (first | exact lal_id _ rfl | exact LAL.nil | refine LAL.cons ?_ ?_ | exact la_id _ rfl | exact LA.lend (lend_whole rfl (by first | (simp; done) | (rw [List.length_map]; rfl))) | refine LA.agg ?_ | refine LA.fn ?_ | refine LA.lend ?_ | exact Lend.d _ | exact Lend.zs _ | exact lend_whole rfl (by first | (simp; done) | (rw [List.length_map]; rfl)) | refine Lend.ptr rfl ?_ | refine Lend.fn ?_ | exact LendL.nil | refine LendL.cons ?_ ?_)) rfl rfl ?_)
 ·
  first | assumption | omega | (simp; done) | (simp; omega)
 ·
  first | assumption | omega | (simp; done) | (simp; omega)
 ·
  first | assumption | omega | (simp; done) | (simp; omega)
 ·
  first | assumption | omega | (simp; done) | (simp; omega)
 ·
  first | assumption | omega | (simp; done) | (simp; omega)
 ·
  first | assumption | omega | (simp; done) | (simp; omega)
 refine ax_q (q_not rfl) ?_
 refine ax_nil ?_
 refine cx_keep rfl rfl ?_
 refine cx_cond rfl (fun h0 => ?_) (fun h0 => ?_)
 ·
  have h0 := bT h0
  refine cx_seq ?_
  refine cx_ops ?_
  refine ax_q (q_mov rfl) ?_
  refine ax_q (q_mov rfl) ?_
  refine ax_nil ?_
  refine cx_keep rfl rfl ?_
  refine cx_ret (ret0 rfl rfl ?_)
  exact ⟨by rw [stT_f h0]; rfl, rfl⟩
 ·
  have h0 := bF h0
  refine cx_skip ?_
  refine cx_keep rfl rfl ?_
  refine cx_seq ?_
  refine cx_ops ?_
  refine ax_q (q_ldN rfl rfl rfl) ?_
  first | refine ax_call rfl (vc_pure0 (c_l12Text (s := s) ?_) hP rfl rfl ?_) | refine ax_call rfl (vc_lend0 (c_l12Text (s := s) ?_) hP (by repeat (first | exact lal_id _ rfl | exact LAL.nil | refine LAL.cons ?_ ?_ | exact la_id _ rfl | exact LA.lend (lend_whole rfl (by first | (simp; done) | (rw [List.length_map]; rfl))) | refine LA.agg ?_ | refine LA.fn ?_ | refine LA.lend ?_ | exact Lend.d _ | exact Lend.zs _ | exact lend_whole rfl (by first | (simp; done) | (rw [List.length_map]; rfl)) | refine Lend.ptr rfl ?_ | refine Lend.fn ?_ | exact LendL.nil | refine LendL.cons ?_ ?_)) rfl rfl ?_)
  ·
   first | assumption | omega | (simp; done) | (simp; omega)
  refine ax_q (q_mov rfl) ?_
  refine ax_q (q_mov rfl) ?_
  refine ax_nil ?_
  refine cx_keep rfl rfl ?_
  refine cx_ret (ret0 rfl rfl ?_)
  exact ⟨by rw [stT_t h0]; rfl, rfl⟩


/- loop.example/g00332/laws.toValue -/
def k_c_toValue : XCode :=
 .seq (.ops [.op (some 1) (.box (.t 0)),
   .op (some 2) (.alloc [.int .i64 0, .int .i64 0, .str []])])
 (.keep [1, 2] (.seq (.ops [.op (some 3) (.alloc [.int .i64 0, .int .i64 0, .str []])])
 (.keep [1, 2, 3] (.seq (.ops [.op (some 4) (.fadr (.t 1) 0),
   .op (some 5) (.load1 (.t 4)),
   .op (some 6) (.fadr (.t 3) 0),
   .op none (.store 1 (.t 6) (.t 5))])
 (.keep [1, 2, 3] (.seq (.ops [.op (some 7) (.fadr (.t 1) 1),
   .op (some 8) (.load1 (.t 7)),
   .op (some 9) (.fadr (.t 3) 1),
   .op none (.store 1 (.t 9) (.t 8))])
 (.keep [1, 2, 3] (.seq (.ops [.op (some 10) (.fadr (.t 1) 2),
   .op (some 11) (.load1 (.t 10)),
   .op (some 12) (.fadr (.t 3) 2),
   .op none (.store 1 (.t 12) (.t 11))])
 (.keep [2, 3] (.seq (.ops [.op (some 13) (.loadN 3 (.t 3)),
   .op none (.store 3 (.t 2) (.t 13))])
 (.keep [2] (.ret))))))))))))
theorem k_c_toValue_fits : fitsF Tryd.prog 44 ⟨14, k_c_toValue, [.cN 2 3]⟩ = true := by kernel_rfl
theorem c_toValue {a : GValue} : Con Tryd.prog noMv 44 [a.av] [] (fun r h => r = a.av ∧ h = []) := by
 refine con_of2 k_c_toValue_fits rfl fun C hP hmv => ?_
 unfold k_c_toValue
 refine cx_seq ?_
 refine cx_ops ?_
 refine ax_e (e_box rfl rfl (by decide) rfl rfl rfl) ?_
 refine ax_e (e_alloc (by decide) rfl rfl) ?_
 refine ax_nil ?_
 refine cx_keep rfl rfl ?_
 refine cx_seq ?_
 refine cx_ops ?_
 refine ax_e (e_alloc (by decide) rfl rfl) ?_
 refine ax_nil ?_
 refine cx_keep rfl rfl ?_
 refine cx_seq ?_
 refine cx_ops ?_
 refine ax_q (q_fadr_ptr rfl) ?_
 refine ax_q (q_load1_ptr rfl rfl rfl) ?_
 refine ax_q (q_fadr_ptr rfl) ?_
 refine ax_e (e_st rfl rfl rfl rfl rfl rfl rfl) ?_
 refine ax_nil ?_
 refine cx_keep rfl rfl ?_
 refine cx_seq ?_
 refine cx_ops ?_
 refine ax_q (q_fadr_ptr rfl) ?_
 refine ax_q (q_load1_ptr rfl rfl rfl) ?_
 refine ax_q (q_fadr_ptr rfl) ?_
 refine ax_e (e_st rfl rfl rfl rfl rfl rfl rfl) ?_
 refine ax_nil ?_
 refine cx_keep rfl rfl ?_
 refine cx_seq ?_
 refine cx_ops ?_
 refine ax_q (q_fadr_ptr rfl) ?_
 refine ax_q (q_load1_ptr rfl rfl rfl) ?_
 refine ax_q (q_fadr_ptr rfl) ?_
 refine ax_e (e_st rfl rfl rfl rfl rfl rfl rfl) ?_
 refine ax_nil ?_
 refine cx_keep rfl rfl ?_
 refine cx_seq ?_
 refine cx_ops ?_
 refine ax_q (q_ldN rfl rfl rfl) ?_
 refine ax_e (e_st rfl rfl rfl rfl rfl rfl rfl) ?_
 refine ax_nil ?_
 refine cx_keep rfl rfl ?_
 refine cx_ret (ret0 rfl rfl ?_)
 exact ⟨rfl, rfl⟩


/- loop.example/g00332/laws.toExprNode -/
def k_c_toExprNode : XCode :=
 .seq (.ops [.op (some 1) (.box (.t 0)),
   .op (some 2) (.alloc [.int .i64 0, .int .i64 0, .int .i64 0, .int .i64 0, .int .i64 0, .int .i64 0, .str []])])
 (.keep [1, 2] (.seq (.ops [.op (some 3) (.alloc [.int .i64 0, .int .i64 0, .int .i64 0, .int .i64 0, .int .i64 0, .int .i64 0, .str []])])
 (.keep [1, 2, 3] (.seq (.ops [.op (some 4) (.fadr (.t 1) 0),
   .op (some 5) (.load1 (.t 4)),
   .op (some 6) (.fadr (.t 3) 0),
   .op none (.store 1 (.t 6) (.t 5))])
 (.keep [1, 2, 3] (.seq (.ops [.op (some 7) (.fadr (.t 1) 1),
   .op (some 8) (.load1 (.t 7)),
   .op (some 9) (.fadr (.t 3) 1),
   .op none (.store 1 (.t 9) (.t 8))])
 (.keep [1, 2, 3] (.seq (.ops [.op (some 10) (.fadr (.t 1) 2),
   .op (some 11) (.load1 (.t 10)),
   .op (some 12) (.fadr (.t 3) 2),
   .op none (.store 1 (.t 12) (.t 11))])
 (.keep [1, 2, 3] (.seq (.ops [.op (some 13) (.fadr (.t 1) 3),
   .op (some 14) (.load1 (.t 13)),
   .op (some 15) (.fadr (.t 3) 3),
   .op none (.store 1 (.t 15) (.t 14))])
 (.keep [1, 2, 3] (.seq (.ops [.op (some 16) (.fadr (.t 1) 4),
   .op (some 17) (.loadN 3 (.t 16)),
   .call (some 18) 44 [.t 17],
   .op (some 19) (.fadr (.t 3) 4),
   .op none (.store 3 (.t 19) (.t 18))])
 (.keep [2, 3] (.seq (.ops [.op (some 20) (.loadN 7 (.t 3)),
   .op none (.store 7 (.t 2) (.t 20))])
 (.keep [2] (.ret))))))))))))))))
theorem k_c_toExprNode_fits : fitsF Tryd.prog 35 ⟨21, k_c_toExprNode, [.cN 2 7]⟩ = true := by kernel_rfl
theorem c_toExprNode {a : GExprNode} : Con Tryd.prog noMv 35 [a.av] [] (fun r h => r = a.av ∧ h = []) := by
 refine con_of2 k_c_toExprNode_fits rfl fun C hP hmv => ?_
 unfold k_c_toExprNode
 refine cx_seq ?_
 refine cx_ops ?_
 refine ax_e (e_box rfl rfl (by decide) rfl rfl rfl) ?_
 refine ax_e (e_alloc (by decide) rfl rfl) ?_
 refine ax_nil ?_
 refine cx_keep rfl rfl ?_
 refine cx_seq ?_
 refine cx_ops ?_
 refine ax_e (e_alloc (by decide) rfl rfl) ?_
 refine ax_nil ?_
 refine cx_keep rfl rfl ?_
 refine cx_seq ?_
 refine cx_ops ?_
 refine ax_q (q_fadr_ptr rfl) ?_
 refine ax_q (q_load1_ptr rfl rfl rfl) ?_
 refine ax_q (q_fadr_ptr rfl) ?_
 refine ax_e (e_st rfl rfl rfl rfl rfl rfl rfl) ?_
 refine ax_nil ?_
 refine cx_keep rfl rfl ?_
 refine cx_seq ?_
 refine cx_ops ?_
 refine ax_q (q_fadr_ptr rfl) ?_
 refine ax_q (q_load1_ptr rfl rfl rfl) ?_
 refine ax_q (q_fadr_ptr rfl) ?_
 refine ax_e (e_st rfl rfl rfl rfl rfl rfl rfl) ?_
 refine ax_nil ?_
 refine cx_keep rfl rfl ?_
 refine cx_seq ?_
 refine cx_ops ?_
 refine ax_q (q_fadr_ptr rfl) ?_
 refine ax_q (q_load1_ptr rfl rfl rfl) ?_
 refine ax_q (q_fadr_ptr rfl) ?_
 refine ax_e (e_st rfl rfl rfl rfl rfl rfl rfl) ?_
 refine ax_nil ?_
 refine cx_keep rfl rfl ?_
 refine cx_seq ?_
 refine cx_ops ?_
 refine ax_q (q_fadr_ptr rfl) ?_
 refine ax_q (q_load1_ptr rfl rfl rfl) ?_
 refine ax_q (q_fadr_ptr rfl) ?_
 refine ax_e (e_st rfl rfl rfl rfl rfl rfl rfl) ?_
 refine ax_nil ?_
 refine cx_keep rfl rfl ?_
 refine cx_seq ?_
 refine cx_ops ?_
 refine ax_q (q_fadr_ptr rfl) ?_
 refine ax_q (q_ldN rfl rfl rfl) ?_
 first | refine ax_call rfl (vc_pure0 (c_toValue  ) hP rfl rfl ?_) | refine ax_call rfl (vc_lend0 (c_toValue  ) hP (by repeat (first | exact lal_id _ rfl | exact LAL.nil | refine LAL.cons ?_ ?_ | exact la_id _ rfl | exact LA.lend (lend_whole rfl (by first | (simp; done) | (rw [List.length_map]; rfl))) | refine LA.agg ?_ | refine LA.fn ?_ | refine LA.lend ?_ | exact Lend.d _ | exact Lend.zs _ | exact lend_whole rfl (by first | (simp; done) | (rw [List.length_map]; rfl)) | refine Lend.ptr rfl ?_ | refine Lend.fn ?_ | exact LendL.nil | refine LendL.cons ?_ ?_)) rfl rfl ?_)
 refine ax_q (q_fadr_ptr rfl) ?_
 refine ax_e (e_st rfl rfl rfl rfl rfl rfl rfl) ?_
 refine ax_nil ?_
 refine cx_keep rfl rfl ?_
 refine cx_seq ?_
 refine cx_ops ?_
 refine ax_q (q_ldN rfl rfl rfl) ?_
 refine ax_e (e_st rfl rfl rfl rfl rfl rfl rfl) ?_
 refine ax_nil ?_
 refine cx_keep rfl rfl ?_
 refine cx_ret (ret0 rfl rfl ?_)
 exact ⟨rfl, rfl⟩


/- loop.example/g00332/laws.toExprNodeS -/
def k_c_toExprNodeS : XCode :=
 .seq (.ops [.op (some 2) (.mov (.k (.nils 7)))])
 (.keep [0] (.seq (.ops [.op (some 5) (.mov (.t 0)),
   .op (some 6) (.lenS (.t 5)),
   .op (some 7) (.mkslice 7 64 [.int .i64 0, .int .i64 0, .int .i64 0, .int .i64 0, .int .i64 0, .int .i64 0, .str []] (.t 6) (.t 6)),
   .op (some 3) (.mov (.t 7))])
 (.keep [0, 3] (.seq (.seq (.ops [.op (some 4) (.mov (.k (.int .i64 0)))])
  (.keep [0, 3, 4] (.block 0 (.loop (.seq (.seq (.ops [.op (some 8) (.mov (.t 4)),
     .op (some 9) (.mov (.t 0)),
     .op (some 10) (.lenS (.t 9)),
     .op (some 11) (.bin .lss (.t 8) (.t 10))])
   (.keep [0, 3, 4, 11] (.cond (.t 11)
    (.skip)
    (.exit 0))))
   (.keep [0, 3, 4] (.seq (.block 1 (.ops [.op (some 14) (.mov (.t 3)),
     .op (some 15) (.mov (.t 4)),
     .op (some 16) (.mov (.t 0)),
     .op (some 17) (.mov (.t 4)),
     .op (some 18) (.iadr 7 (.t 16) (.t 17)),
     .op (some 19) (.loadN 7 (.t 18)),
     .call (some 20) 35 [.t 19],
     .op (some 21) (.iadr 7 (.t 14) (.t 15)),
     .op none (.store 7 (.t 21) (.t 20))]))
   (.keep [0, 3, 4] (.ops [.op (some 12) (.mov (.t 4)),
    .op (some 13) (.bin .add (.t 12) (.k (.int .i64 1))),
    .op (some 4) (.mov (.t 13))])))))))))
 (.keep [3] (.seq (.ops [.op (some 22) (.mov (.t 3)),
   .op (some 2) (.mov (.t 22))])
 (.keep [2] (.ret))))))))
theorem k_c_toExprNodeS_fits : fitsF Tryd.prog 18 ⟨23, k_c_toExprNodeS, [.t 2]⟩ = true := by kernel_rfl
theorem c_toExprNodeS {xs : List GExprNode} (hw : xs.length ≤ 1048576) : Con Tryd.prog noMv 18 [.d (.sl 7 (xs.map GExprNode.row))] [] (fun r h => r = .osl 0 7 0 xs.length ∧ h = [(0, .rows 7 (xs.map GExprNode.row))]) := by
 refine con_of2 k_c_toExprNodeS_fits rfl fun C hP hmv => ?_
 unfold k_c_toExprNodeS
 refine cx_seq ?_
 refine cx_ops ?_
 refine ax_q (q_mov rfl) ?_
 refine ax_nil ?_
 refine cx_keep rfl rfl ?_
 refine cx_seq ?_
 refine cx_ops ?_
 refine ax_q (q_mov rfl) ?_
 first | refine ax_q (q_lenS_map rfl) ?_ | refine ax_q (q_lenS_osl rfl) ?_ | refine ax_q (q_lenS_zs rfl) ?_ | refine ax_q (q_lenS rfl) ?_
 refine ax_ee (e_mkslice rfl rfl rfl (by omega) (by omega) (by omega) (by decide) rfl rfl) (by rw [Int.toNat_natCast]) ?_
 refine ax_q (q_mov rfl) ?_
 refine ax_nil ?_
 refine cx_keep rfl rfl ?_
 refine cx_seq ?_
 refine cx_seq ?_
 refine cx_ops ?_
 refine ax_q (q_mov rfl) ?_
 refine ax_nil ?_
 refine cx_keep rfl rfl ?_
 refine cx_block ?_
 refine cx_loopU (fun n k => k ≤ xs.length ∧ n = xs.length - k) (fun k : Nat => [(4, int k)]) (fun k => [(7, .rows 7 ((xs.take k).map GExprNode.row ++ List.replicate (xs.length - k) [.int .i64 0, .int .i64 0, .int .i64 0, .int .i64 0, .int .i64 0, .int .i64 0, .str []]))]) ⟨_, 0, ⟨Nat.zero_le _, rfl⟩, by repeat (first | exact trivial | refine ⟨rfl, ?_⟩ | refine ⟨?_, ?_⟩)⟩ ?_
 rintro n k ⟨hk, rfl⟩
 refine cx_seq ?_
 refine cx_seq ?_
 refine cx_ops ?_
 refine ax_q (q_mov rfl) ?_
 refine ax_q (q_mov rfl) ?_
 first | refine ax_q (q_lenS_map rfl) ?_ | refine ax_q (q_lenS_osl rfl) ?_ | refine ax_q (q_lenS_zs rfl) ?_ | refine ax_q (q_lenS rfl) ?_
 refine ax_q (q_ibin rfl rfl rfl) ?_
 refine ax_nil ?_
 refine cx_keep rfl rfl ?_
 refine cx_cond rfl (fun h0 => ?_) (fun h0 => ?_)
 ·
  have h0 := dT h0
  have h1x : k < xs.length := by omega
  refine cx_skip ?_
  refine cx_keep rfl rfl ?_
  refine cx_seq ?_
  refine cx_block ?_
  refine cx_ops ?_
  refine ax_q (q_mov rfl) ?_
  refine ax_q (q_mov rfl) ?_
  refine ax_q (q_mov rfl) ?_
  refine ax_q (q_mov rfl) ?_
  refine ax_q (q_ix rfl rfl (mapAt h1x)) ?_
  first | refine ax_q (q_ldN rfl rfl rfl) ?_ | refine ax_q (q_loadN_ip rfl (Nat.le_refl _)) ?_ | refine ax_q (q_loadN_ip rfl (by decide)) ?_ | refine ax_q (q_loadN_rptr rfl rfl (by assumption) (by decide)) ?_ | refine ax_q (q_loadN_rptr rfl rfl (mapAt (by first | assumption | omega)) (by decide)) ?_
  first | refine ax_call rfl (vc_pure0 (c_toExprNode  ) hP rfl rfl ?_) | refine ax_call rfl (vc_lend0 (c_toExprNode  ) hP (by repeat (first | exact lal_id _ rfl | exact LAL.nil | refine LAL.cons ?_ ?_ | exact la_id _ rfl | exact LA.lend (lend_whole rfl (by first | (simp; done) | (rw [List.length_map]; rfl))) | refine LA.agg ?_ | refine LA.fn ?_ | refine LA.lend ?_ | exact Lend.d _ | exact Lend.zs _ | exact lend_whole rfl (by first | (simp; done) | (rw [List.length_map]; rfl)) | refine Lend.ptr rfl ?_ | refine Lend.fn ?_ | exact LendL.nil | refine LendL.cons ?_ ?_)) rfl rfl ?_)
  refine ax_q (q_ixo rfl rfl h1x) ?_
  refine ax_e (e_str (q := GExprNode.row xs[k]) rfl rfl rfl rfl rfl rfl (fillAtL h1x) rfl rfl (fillSetL h1x)) ?_
  refine ax_nil ?_
  refine cx_keep rfl rfl ?_
  refine cx_ops ?_
  refine ax_q (q_mov rfl) ?_
  refine ax_q (q_add rfl rfl (by omega)) ?_
  refine ax_q (q_mov rfl) ?_
  refine ax_nil ?_
  exact ⟨_, k + 1, by omega, ⟨by omega, rfl⟩, by repeat (first | exact trivial | refine ⟨rfl, ?_⟩ | refine ⟨?_, ?_⟩)⟩
 ·
  have h0 := dF h0
  refine cx_exit rfl ?_
  refine cx_keep rfl rfl ?_
  refine cx_seq ?_
  refine cx_ops ?_
  refine ax_q (q_mov rfl) ?_
  refine ax_q (q_mov rfl) ?_
  refine ax_nil ?_
  refine cx_keep rfl rfl ?_
  refine cx_ret (retN (fun _ => 0) [7] rfl rfl rfl rfl rfl ?_)
  exact ⟨rfl, by rw [show k = xs.length from by omega, List.take_length, Nat.sub_self, List.replicate_zero, List.append_nil]; rfl⟩


/- loop.example/g00332/laws.toExpr -/
def k_c_toExpr : XCode :=
 .seq (.ops [.op (some 1) (.box (.t 0)),
   .op (some 2) (.alloc [.nils 7])])
 (.keep [1, 2] (.seq (.ops [.op (some 3) (.alloc [.nils 7])])
 (.keep [1, 2, 3] (.seq (.ops [.op (some 4) (.fadr (.t 1) 0),
   .op (some 5) (.load1 (.t 4)),
   .call (some 6) 18 [.t 5],
   .op (some 7) (.fadr (.t 3) 0),
   .op none (.store 1 (.t 7) (.t 6))])
 (.keep [2, 3] (.seq (.ops [.op (some 8) (.loadN 1 (.t 3)),
   .op none (.store 1 (.t 2) (.t 8))])
 (.keep [2] (.ret))))))))
theorem k_c_toExpr_fits : fitsF Tryd.prog 7 ⟨9, k_c_toExpr, [.cN 2 1]⟩ = true := by kernel_rfl
theorem c_toExpr {a : GExpr} (hw0 : a.Nodes.length ≤ 1048576) : Con Tryd.prog noMv 7 [a.av] [] (fun r h => r = a.avO 0 ∧ h = a.hO 0) := by
 refine con_of2 k_c_toExpr_fits rfl fun C hP hmv => ?_
 unfold k_c_toExpr
 refine cx_seq ?_
 refine cx_ops ?_
 refine ax_e (e_box rfl rfl (by decide) rfl rfl rfl) ?_
 refine ax_e (e_alloc (by decide) rfl rfl) ?_
 refine ax_nil ?_
 refine cx_keep rfl rfl ?_
 refine cx_seq ?_
 refine cx_ops ?_
 refine ax_e (e_alloc (by decide) rfl rfl) ?_
 refine ax_nil ?_
 refine cx_keep rfl rfl ?_
 refine cx_seq ?_
 refine cx_ops ?_
 refine ax_q (q_fadr_ptr rfl) ?_
 refine ax_q (q_load1_ptr rfl rfl rfl) ?_
 first | refine ax_call rfl (vc_pure (c_toExprNodeS  ?_) hP rfl ?_) | refine ax_call rfl (vc_lend (c_toExprNodeS  ?_) hP (by repeat (first | exact lal_id _ rfl | exact LAL.nil | refine LAL.cons ?_ ?_ | exact la_id _ rfl | exact LA.lend (lend_whole rfl (by first | (simp; done) | (rw [List.length_map]; rfl))) | refine LA.agg ?_ | refine LA.fn ?_ | refine LA.lend ?_ | exact Lend.d _ | exact Lend.zs _ | exact lend_whole rfl (by first | (simp; done) | (rw [List.length_map]; rfl)) | refine Lend.ptr rfl ?_ | refine Lend.fn ?_ | exact LendL.nil | refine LendL.cons ?_ ?_)) ?_)
 ·
  first | assumption | omega | (simp; done) | (simp; omega)
 rintro r h ⟨rfl, rfl⟩
 refine ⟨fun i => 6 + 200 * i, [0], ⟨rfl, rfl, rfl, rfl, rfl, (by first | exact (fun h => absurd h Bool.false_ne_true) | exact (fun _ => ⟨rfl, (noisl_of (by repeat (first | exact trivial | refine ⟨noisl_map (fun _ => rfl), ?_⟩ | refine ⟨?_, ?_⟩)))⟩))⟩, ?_⟩
 skip
 refine ax_q (q_fadr_ptr rfl) ?_
 refine ax_e (e_st rfl rfl rfl rfl rfl rfl rfl) ?_
 refine ax_nil ?_
 refine cx_keep rfl rfl ?_
 refine cx_seq ?_
 refine cx_ops ?_
 refine ax_q (q_ldN rfl rfl rfl) ?_
 refine ax_e (e_st rfl rfl rfl rfl rfl rfl rfl) ?_
 refine ax_nil ?_
 refine cx_keep rfl rfl ?_
 refine cx_ret (retN (fun e => 0) [6] rfl rfl rfl rfl rfl ?_)
 exact ⟨rfl, rfl⟩


/- loop.example/g00332/laws.toRow -/
def k_c_toRow : XCode :=
 .seq (.ops [.op (some 1) (.box (.t 0)),
   .op (some 2) (.alloc [.int .i64 0, .int .i64 0, .int .i64 0, .str [], .int .i64 0, .int .i64 0, .str []])])
 (.keep [1, 2] (.seq (.ops [.op (some 3) (.alloc [.int .i64 0, .int .i64 0, .int .i64 0, .str [], .int .i64 0, .int .i64 0, .str []])])
 (.keep [1, 2, 3] (.seq (.ops [.op (some 4) (.fadr (.t 1) 0),
   .op (some 5) (.load1 (.t 4)),
   .op (some 6) (.fadr (.t 3) 0),
   .op none (.store 1 (.t 6) (.t 5))])
 (.keep [1, 2, 3] (.seq (.ops [.op (some 7) (.fadr (.t 1) 1),
   .op (some 8) (.loadN 3 (.t 7)),
   .call (some 9) 44 [.t 8],
   .op (some 10) (.fadr (.t 3) 1),
   .op none (.store 3 (.t 10) (.t 9))])
 (.keep [1, 2, 3] (.seq (.ops [.op (some 11) (.fadr (.t 1) 4),
   .op (some 12) (.loadN 3 (.t 11)),
   .call (some 13) 44 [.t 12],
   .op (some 14) (.fadr (.t 3) 4),
   .op none (.store 3 (.t 14) (.t 13))])
 (.keep [2, 3] (.seq (.ops [.op (some 15) (.loadN 7 (.t 3)),
   .op none (.store 7 (.t 2) (.t 15))])
 (.keep [2] (.ret))))))))))))
theorem k_c_toRow_fits : fitsF Tryd.prog 25 ⟨16, k_c_toRow, [.cN 2 7]⟩ = true := by kernel_rfl
theorem c_toRow {a : GRow} : Con Tryd.prog noMv 25 [a.av] [] (fun r h => r = a.av ∧ h = []) := by
 refine con_of2 k_c_toRow_fits rfl fun C hP hmv => ?_
 unfold k_c_toRow
 refine cx_seq ?_
 refine cx_ops ?_
 refine ax_e (e_box rfl rfl (by decide) rfl rfl rfl) ?_
 refine ax_e (e_alloc (by decide) rfl rfl) ?_
 refine ax_nil ?_
 refine cx_keep rfl rfl ?_
 refine cx_seq ?_
 refine cx_ops ?_
 refine ax_e (e_alloc (by decide) rfl rfl) ?_
 refine ax_nil ?_
 refine cx_keep rfl rfl ?_
 refine cx_seq ?_
 refine cx_ops ?_
 refine ax_q (q_fadr_ptr rfl) ?_
 refine ax_q (q_load1_ptr rfl rfl rfl) ?_
 refine ax_q (q_fadr_ptr rfl) ?_
 refine ax_e (e_st rfl rfl rfl rfl rfl rfl rfl) ?_
 refine ax_nil ?_
 refine cx_keep rfl rfl ?_
 refine cx_seq ?_
 refine cx_ops ?_
 refine ax_q (q_fadr_ptr rfl) ?_
 refine ax_q (q_ldN rfl rfl rfl) ?_
 first | refine ax_call rfl (vc_pure0 (c_toValue  ) hP rfl rfl ?_) | refine ax_call rfl (vc_lend0 (c_toValue  ) hP (by repeat (first | exact lal_id _ rfl | exact LAL.nil | refine LAL.cons ?_ ?_ | exact la_id _ rfl | exact LA.lend (lend_whole rfl (by first | (simp; done) | (rw [List.length_map]; rfl))) | refine LA.agg ?_ | refine LA.fn ?_ | refine LA.lend ?_ | exact Lend.d _ | exact Lend.zs _ | exact lend_whole rfl (by first | (simp; done) | (rw [List.length_map]; rfl)) | refine Lend.ptr rfl ?_ | refine Lend.fn ?_ | exact LendL.nil | refine LendL.cons ?_ ?_)) rfl rfl ?_)
 refine ax_q (q_fadr_ptr rfl) ?_
 refine ax_e (e_st rfl rfl rfl rfl rfl rfl rfl) ?_
 refine ax_nil ?_
 refine cx_keep rfl rfl ?_
 refine cx_seq ?_
 refine cx_ops ?_
 refine ax_q (q_fadr_ptr rfl) ?_
 refine ax_q (q_ldN rfl rfl rfl) ?_
 first | refine ax_call rfl (vc_pure0 (c_toValue  ) hP rfl rfl ?_) | refine ax_call rfl (vc_lend0 (c_toValue  ) hP (by repeat (first | exact lal_id _ rfl | exact LAL.nil | refine LAL.cons ?_ ?_ | exact la_id _ rfl | exact LA.lend (lend_whole rfl (by first | (simp; done) | (rw [List.length_map]; rfl))) | refine LA.agg ?_ | refine LA.fn ?_ | refine LA.lend ?_ | exact Lend.d _ | exact Lend.zs _ | exact lend_whole rfl (by first | (simp; done) | (rw [List.length_map]; rfl)) | refine Lend.ptr rfl ?_ | refine Lend.fn ?_ | exact LendL.nil | refine LendL.cons ?_ ?_)) rfl rfl ?_)
 refine ax_q (q_fadr_ptr rfl) ?_
 refine ax_e (e_st rfl rfl rfl rfl rfl rfl rfl) ?_
 refine ax_nil ?_
 refine cx_keep rfl rfl ?_
 refine cx_seq ?_
 refine cx_ops ?_
 refine ax_q (q_ldN rfl rfl rfl) ?_
 refine ax_e (e_st rfl rfl rfl rfl rfl rfl rfl) ?_
 refine ax_nil ?_
 refine cx_keep rfl rfl ?_
 refine cx_ret (ret0 rfl rfl ?_)
 exact ⟨rfl, rfl⟩


/- loop.example/g00332/laws.toStmt -/
def k_c_toStmt : XCode :=
 .seq (.ops [.op (some 1) (.box (.t 0)),
   .op (some 2) (.alloc [.int .i64 0, .int .i64 0, .int .i64 0, .int .i64 0, .int .i64 0, .str [], .int .i64 0, .int .i64 0, .str [], .int .i64 0, .nils 7, .nils 7, .int .i64 0, .bool false])])
 (.keep [1, 2] (.seq (.ops [.op (some 3) (.alloc [.int .i64 0, .int .i64 0, .int .i64 0, .int .i64 0, .int .i64 0, .str [], .int .i64 0, .int .i64 0, .str [], .int .i64 0, .nils 7, .nils 7, .int .i64 0, .bool false])])
 (.keep [1, 2, 3] (.seq (.ops [.op (some 4) (.fadr (.t 1) 0),
   .op (some 5) (.load1 (.t 4)),
   .op (some 6) (.fadr (.t 3) 0),
   .op none (.store 1 (.t 6) (.t 5))])
 (.keep [1, 2, 3] (.seq (.ops [.op (some 7) (.fadr (.t 1) 1),
   .op (some 8) (.load1 (.t 7)),
   .op (some 9) (.fadr (.t 3) 1),
   .op none (.store 1 (.t 9) (.t 8))])
 (.keep [1, 2, 3] (.seq (.ops [.op (some 10) (.fadr (.t 1) 2),
   .op (some 11) (.loadN 7 (.t 10)),
   .call (some 12) 25 [.t 11],
   .op (some 13) (.fadr (.t 3) 2),
   .op none (.store 7 (.t 13) (.t 12))])
 (.keep [1, 2, 3] (.seq (.ops [.op (some 14) (.fadr (.t 1) 9),
   .op (some 15) (.load1 (.t 14)),
   .op (some 16) (.fadr (.t 3) 9),
   .op none (.store 1 (.t 16) (.t 15))])
 (.keep [1, 2, 3] (.seq (.ops [.op (some 17) (.fadr (.t 1) 10),
   .op (some 18) (.loadN 1 (.t 17)),
   .call (some 19) 7 [.t 18],
   .op (some 20) (.fadr (.t 3) 10),
   .op none (.store 1 (.t 20) (.t 19))])
 (.keep [1, 2, 3] (.seq (.ops [.op (some 21) (.fadr (.t 1) 11),
   .op (some 22) (.loadN 1 (.t 21)),
   .call (some 23) 7 [.t 22],
   .op (some 24) (.fadr (.t 3) 11),
   .op none (.store 1 (.t 24) (.t 23))])
 (.keep [1, 2, 3] (.seq (.ops [.op (some 25) (.fadr (.t 1) 12),
   .op (some 26) (.load1 (.t 25)),
   .op (some 27) (.fadr (.t 3) 12),
   .op none (.store 1 (.t 27) (.t 26))])
 (.keep [1, 2, 3] (.seq (.ops [.op (some 28) (.fadr (.t 1) 13),
   .op (some 29) (.load1 (.t 28)),
   .op (some 30) (.fadr (.t 3) 13),
   .op none (.store 1 (.t 30) (.t 29))])
 (.keep [2, 3] (.seq (.ops [.op (some 31) (.loadN 14 (.t 3)),
   .op none (.store 14 (.t 2) (.t 31))])
 (.keep [2] (.ret))))))))))))))))))))))
theorem k_c_toStmt_fits : fitsF Tryd.prog 12 ⟨32, k_c_toStmt, [.cN 2 14]⟩ = true := by kernel_rfl
theorem c_toStmt {a : GStmt} (hw0 : a.Set.Nodes.length ≤ 1048576) (hw1 : a.Where.Nodes.length ≤ 1048576) : Con Tryd.prog noMv 12 [a.av] [] (fun r h => r = a.avO 0 1 ∧ h = a.hO 0 1) := by
 refine con_of2 k_c_toStmt_fits rfl fun C hP hmv => ?_
 unfold k_c_toStmt
 refine cx_seq ?_
 refine cx_ops ?_
 refine ax_e (e_box rfl rfl (by decide) rfl rfl rfl) ?_
 refine ax_e (e_alloc (by decide) rfl rfl) ?_
 refine ax_nil ?_
 refine cx_keep rfl rfl ?_
 refine cx_seq ?_
 refine cx_ops ?_
 refine ax_e (e_alloc (by decide) rfl rfl) ?_
 refine ax_nil ?_
 refine cx_keep rfl rfl ?_
 refine cx_seq ?_
 refine cx_ops ?_
 refine ax_q (q_fadr_ptr rfl) ?_
 refine ax_q (q_load1_ptr rfl rfl rfl) ?_
 refine ax_q (q_fadr_ptr rfl) ?_
 refine ax_e (e_st rfl rfl rfl rfl rfl rfl rfl) ?_
 refine ax_nil ?_
 refine cx_keep rfl rfl ?_
 refine cx_seq ?_
 refine cx_ops ?_
 refine ax_q (q_fadr_ptr rfl) ?_
 refine ax_q (q_load1_ptr rfl rfl rfl) ?_
 refine ax_q (q_fadr_ptr rfl) ?_
 refine ax_e (e_st rfl rfl rfl rfl rfl rfl rfl) ?_
 refine ax_nil ?_
 refine cx_keep rfl rfl ?_
 refine cx_seq ?_
 refine cx_ops ?_
 refine ax_q (q_fadr_ptr rfl) ?_
 refine ax_q (q_ldN rfl rfl rfl) ?_
 first | refine ax_call rfl (vc_pure0 (c_toRow  ) hP rfl rfl ?_) | refine ax_call rfl (vc_lend0 (c_toRow  ) hP (by repeat (first | exact lal_id _ rfl | exact LAL.nil | refine LAL.cons ?_ ?_ | exact la_id _ rfl | exact LA.lend (lend_whole rfl (by first | (simp; done) | (rw [List.length_map]; rfl))) | refine LA.agg ?_ | refine LA.fn ?_ | refine LA.lend ?_ | exact Lend.d _ | exact Lend.zs _ | exact lend_whole rfl (by first | (simp; done) | (rw [List.length_map]; rfl)) | refine Lend.ptr rfl ?_ | refine Lend.fn ?_ | exact LendL.nil | refine LendL.cons ?_ ?_)) rfl rfl ?_)
 refine ax_q (q_fadr_ptr rfl) ?_
 refine ax_e (e_st rfl rfl rfl rfl rfl rfl rfl) ?_
 refine ax_nil ?_
 refine cx_keep rfl rfl ?_
 refine cx_seq ?_
 refine cx_ops ?_
 refine ax_q (q_fadr_ptr rfl) ?_
 refine ax_q (q_load1_ptr rfl rfl rfl) ?_
 refine ax_q (q_fadr_ptr rfl) ?_
 refine ax_e (e_st rfl rfl rfl rfl rfl rfl rfl) ?_
 refine ax_nil ?_
 refine cx_keep rfl rfl ?_
 refine cx_seq ?_
 refine cx_ops ?_
 refine ax_q (q_fadr_ptr rfl) ?_
 refine ax_q (q_ldN rfl rfl rfl) ?_
 first | refine ax_call rfl (vc_pure (c_toExpr  ?_) hP rfl ?_) | refine ax_call rfl (vc_lend (c_toExpr  ?_) hP (by repeat (first | exact lal_id _ rfl | exact LAL.nil | refine LAL.cons ?_ ?_ | exact la_id _ rfl | exact LA.lend (lend_whole rfl (by first | (simp; done) | (rw [List.length_map]; rfl))) | refine LA.agg ?_ | refine LA.fn ?_ | refine LA.lend ?_ | exact Lend.d _ | exact Lend.zs _ | exact lend_whole rfl (by first | (simp; done) | (rw [List.length_map]; rfl)) | refine Lend.ptr rfl ?_ | refine Lend.fn ?_ | exact LendL.nil | refine LendL.cons ?_ ?_)) ?_)
 ·
  first | assumption | omega | (simp; done) | (simp; omega)
 rintro r h ⟨rfl, rfl⟩
 refine ⟨fun i => 19 + 200 * i, [0], ⟨rfl, rfl, rfl, rfl, rfl, (by first | exact (fun h => absurd h Bool.false_ne_true) | exact (fun _ => ⟨rfl, (noisl_of (by repeat (first | exact trivial | refine ⟨noisl_map (fun _ => rfl), ?_⟩ | refine ⟨?_, ?_⟩)))⟩))⟩, ?_⟩
 skip
 refine ax_q (q_fadr_ptr rfl) ?_
 refine ax_e (e_st rfl rfl rfl rfl rfl rfl rfl) ?_
 refine ax_nil ?_
 refine cx_keep rfl rfl ?_
 refine cx_seq ?_
 refine cx_ops ?_
 refine ax_q (q_fadr_ptr rfl) ?_
 refine ax_q (q_ldN rfl rfl rfl) ?_
 first | refine ax_call rfl (vc_pure (c_toExpr  ?_) hP rfl ?_) | refine ax_call rfl (vc_lend (c_toExpr  ?_) hP (by repeat (first | exact lal_id _ rfl | exact LAL.nil | refine LAL.cons ?_ ?_ | exact la_id _ rfl | exact LA.lend (lend_whole rfl (by first | (simp; done) | (rw [List.length_map]; rfl))) | refine LA.agg ?_ | refine LA.fn ?_ | refine LA.lend ?_ | exact Lend.d _ | exact Lend.zs _ | exact lend_whole rfl (by first | (simp; done) | (rw [List.length_map]; rfl)) | refine Lend.ptr rfl ?_ | refine Lend.fn ?_ | exact LendL.nil | refine LendL.cons ?_ ?_)) ?_)
 ·
  first | assumption | omega | (simp; done) | (simp; omega)
 rintro r h ⟨rfl, rfl⟩
 refine ⟨fun i => 23 + 200 * i, [0], ⟨rfl, rfl, rfl, rfl, rfl, (by first | exact (fun h => absurd h Bool.false_ne_true) | exact (fun _ => ⟨rfl, (noisl_of (by repeat (first | exact trivial | refine ⟨noisl_map (fun _ => rfl), ?_⟩ | refine ⟨?_, ?_⟩)))⟩))⟩, ?_⟩
 skip
 refine ax_q (q_fadr_ptr rfl) ?_
 refine ax_e (e_st rfl rfl rfl rfl rfl rfl rfl) ?_
 refine ax_nil ?_
 refine cx_keep rfl rfl ?_
 refine cx_seq ?_
 refine cx_ops ?_
 refine ax_q (q_fadr_ptr rfl) ?_
 refine ax_q (q_load1_ptr rfl rfl rfl) ?_
 refine ax_q (q_fadr_ptr rfl) ?_
 refine ax_e (e_st rfl rfl rfl rfl rfl rfl rfl) ?_
 refine ax_nil ?_
 refine cx_keep rfl rfl ?_
 refine cx_seq ?_
 refine cx_ops ?_
 refine ax_q (q_fadr_ptr rfl) ?_
 refine ax_q (q_load1_ptr rfl rfl rfl) ?_
 refine ax_q (q_fadr_ptr rfl) ?_
 refine ax_e (e_st rfl rfl rfl rfl rfl rfl rfl) ?_
 refine ax_nil ?_
 refine cx_keep rfl rfl ?_
 refine cx_seq ?_
 refine cx_ops ?_
 refine ax_q (q_ldN rfl rfl rfl) ?_
 refine ax_e (e_st rfl rfl rfl rfl rfl rfl rfl) ?_
 refine ax_nil ?_
 refine cx_keep rfl rfl ?_
 refine cx_ret (retN (fun e => bif Nat.beq e 23 then 1 else 0) [19, 23] rfl rfl rfl rfl rfl ?_)
 exact ⟨rfl, rfl⟩


/- loop.example/g00332/impl.inRange -/
def k_c_inRange : XCode :=
 .seq (.ops [.op (some 6) (.mov (.k (.bool false)))])
 (.keep [0, 1, 2] (.seq (.ops [.op (some 7) (.mov (.t 1)),
   .op (some 8) (.mov (.t 0)),
   .op (some 9) (.bin .leq (.t 7) (.t 8)),
   .op (some 10) (.mov (.t 9)),
   .andor 14 true 3 10 [.op (some 11) (.mov (.t 0)), .op (some 12) (.mov (.t 2)), .op (some 13) (.bin .leq (.t 11) (.t 12))] (.t 13),
   .op (some 6) (.mov (.t 14))])
 (.keep [6] (.ret))))
theorem k_c_inRange_fits : fitsF Tryd.prog 36 ⟨15, k_c_inRange, [.t 6]⟩ = true := by kernel_rfl
theorem c_inRange {n lo hi : Int} : Con Tryd.prog noMv 36 [int n, int lo, int hi] [] (fun r h => r = bool (inR n lo hi) ∧ h = []) := by
 refine con_of2 k_c_inRange_fits rfl fun C hP hmv => ?_
 unfold k_c_inRange
 refine cx_seq ?_
 refine cx_ops ?_
 refine ax_q (q_mov rfl) ?_
 refine ax_nil ?_
 refine cx_keep rfl rfl ?_
 refine cx_seq ?_
 refine cx_ops ?_
 refine ax_q (q_mov rfl) ?_
 refine ax_q (q_mov rfl) ?_
 refine ax_q (q_ibin rfl rfl rfl) ?_
 refine ax_q (q_mov rfl) ?_
 apply ax_and rfl rfl
 ·
  intro g
  have g := dT g
  refine ax_q (q_mov rfl) ?_
  refine ax_q (q_mov rfl) ?_
  refine ax_q (q_ibin rfl rfl rfl) ?_
  exact ax_nil ⟨rfl, by repeat (first | exact trivial | refine ⟨rfl, ?_⟩ | refine ⟨?_, ?_⟩)⟩
 refine ax_q (q_mov rfl) ?_
 refine ax_nil ?_
 refine cx_keep rfl rfl ?_
 refine cx_ret (ret0 rfl rfl ?_)
 exact ⟨rfl, rfl⟩


/- loop.example/g00332/impl.isPlace -/
def k_c_isPlace : XCode :=
 .seq (.ops [.op (some 4) (.mov (.k (.bool false)))])
 (.keep [0, 1] (.seq (.ops [.op (some 5) (.mov (.t 0)),
   .op (some 6) (.mov (.t 1)),
   .op (some 7) (.bin .sub (.t 6) (.k (.int .i64 1))),
   .call (some 8) 36 [.t 5, .k (.int .i64 0), .t 7],
   .op (some 4) (.mov (.t 8))])
 (.keep [4] (.ret))))
theorem k_c_isPlace_fits : fitsF Tryd.prog 47 ⟨9, k_c_isPlace, [.t 4]⟩ = true := by kernel_rfl
theorem c_isPlace {n k : Int} (hk : 0 ≤ k ∧ k ≤ 1048576) : Con Tryd.prog noMv 47 [int n, int k] [] (fun r h => r = bool (inR n 0 (k - 1)) ∧ h = []) := by
 refine con_of2 k_c_isPlace_fits rfl fun C hP hmv => ?_
 unfold k_c_isPlace
 refine cx_seq ?_
 refine cx_ops ?_
 refine ax_q (q_mov rfl) ?_
 refine ax_nil ?_
 refine cx_keep rfl rfl ?_
 refine cx_seq ?_
 refine cx_ops ?_
 refine ax_q (q_mov rfl) ?_
 refine ax_q (q_mov rfl) ?_
 refine ax_q (q_sub rfl rfl (by omega)) ?_
 first | refine ax_call rfl (vc_pure0 (c_inRange  ) hP rfl rfl ?_) | refine ax_call rfl (vc_lend0 (c_inRange  ) hP (by repeat (first | exact lal_id _ rfl | exact LAL.nil | refine LAL.cons ?_ ?_ | exact la_id _ rfl | exact LA.lend (lend_whole rfl (by first | (simp; done) | (rw [List.length_map]; rfl))) | refine LA.agg ?_ | refine LA.fn ?_ | refine LA.lend ?_ | exact Lend.d _ | exact Lend.zs _ | exact lend_whole rfl (by first | (simp; done) | (rw [List.length_map]; rfl)) | refine Lend.ptr rfl ?_ | refine Lend.fn ?_ | exact LendL.nil | refine LendL.cons ?_ ?_)) rfl rfl ?_)
 refine ax_q (q_mov rfl) ?_
 refine ax_nil ?_
 refine cx_keep rfl rfl ?_
 refine cx_ret (ret0 rfl rfl ?_)
 exact ⟨rfl, rfl⟩


/- loop.example/g00332/impl.depthOf$1 -/
def k_c_depthOf1 : XCode :=
 .seq (.ops [.op (some 3) (.mov (.k (.int .i64 0))),
   .op (some 4) (.mov (.k (.bool false)))])
 (.keep [0, 1] (.seq (.ops [.op (some 7) (.load1 (.t 1)),
   .op (some 8) (.lenS (.t 7)),
   .op (some 9) (.bin .sub (.t 8) (.k (.int .i64 1))),
   .op (some 5) (.mov (.t 9))])
 (.keep [0, 1, 5] (.seq (.seq (.ops [.op (some 10) (.mov (.t 5)),
   .op (some 11) (.bin .lss (.t 10) (.k (.int .i64 0))),
   .op (some 12) (.mov (.t 11)),
   .andor 20 false 2 12 [.op (some 13) (.load1 (.t 1)), .op (some 14) (.mov (.t 5)), .op (some 15) (.iadr 2 (.t 13) (.t 14)), .op (some 16) (.fadr (.t 15) 0), .op (some 17) (.load1 (.t 16)), .op (some 18) (.mov (.t 0)), .op (some 19) (.bin .neq (.t 17) (.t 18))] (.t 19)])
  (.keep [1, 5, 20] (.cond (.t 20)
  (.seq (.ops [.op (some 3) (.mov (.k (.int .i64 0))),
    .op (some 4) (.mov (.k (.bool false)))])
   (.keep [3, 4] (.ret)))
  (.skip))))
 (.keep [1, 5] (.seq (.ops [.op (some 21) (.load1 (.t 1)),
   .op (some 22) (.mov (.t 5)),
   .op (some 23) (.iadr 2 (.t 21) (.t 22)),
   .op (some 24) (.fadr (.t 23) 1),
   .op (some 25) (.load1 (.t 24)),
   .op (some 6) (.mov (.t 25))])
 (.keep [1, 5, 6] (.seq (.ops [.op (some 26) (.load1 (.t 1)),
   .op (some 27) (.mov (.t 5)),
   .op (some 28) (.slc 2 (.t 26) none (some (.t 27)) none),
   .op none (.store 1 (.t 1) (.t 28))])
 (.keep [6] (.seq (.ops [.op (some 29) (.mov (.t 6)),
   .op (some 3) (.mov (.t 29)),
   .op (some 4) (.mov (.k (.bool true)))])
 (.keep [3, 4] (.ret))))))))))))
theorem k_c_depthOf1_fits : fitsF Tryd.prog 54 ⟨30, k_c_depthOf1, [.t 3, .t 4]⟩ = true := by kernel_rfl
theorem c_depthOf1 {S : List IDp} {rs : List (List D)} {a : Int} (hS : S.length ≤ 1048576) (hrs : rs.take S.length = S.map prow) : Con Tryd.prog noMv 54 [int a, .ptr 1000 0] [(1000, .box [.osl 1001 2 0 S.length]), (1001, .rows 2 rs)] (fun r h => r = .tup [int (popF S a).1, bool (popF S a).2.1] ∧ h = [(1000, .box [.osl 1001 2 0 (popF S a).2.2.length]), (1001, .rows 2 rs)]) := by
 refine con_of2 k_c_depthOf1_fits rfl fun C hP hmv => ?_
 unfold k_c_depthOf1
 refine cx_seq ?_
 refine cx_ops ?_
 refine ax_q (q_mov rfl) ?_
 refine ax_q (q_mov rfl) ?_
 refine ax_nil ?_
 refine cx_keep rfl rfl ?_
 refine cx_seq ?_
 refine cx_ops ?_
 first | refine ax_q (q_load1_ptr rfl rfl rfl) ?_ | refine ax_q (q_load1_ip rfl) ?_ | refine ax_q (q_load1_rptr rfl rfl rfl rfl) ?_ | refine ax_q (q_load1_rptr rfl rfl (by assumption) rfl) ?_ | refine ax_q (q_load1_rptr rfl rfl (mapAt (by first | assumption | omega)) rfl) ?_
 first | refine ax_q (q_lenS_map rfl) ?_ | refine ax_q (q_lenS_osl rfl) ?_ | refine ax_q (q_lenS_zs rfl) ?_ | refine ax_q (q_lenS rfl) ?_
 refine ax_q (q_sub rfl rfl (by omega)) ?_
 refine ax_q (q_mov rfl) ?_
 refine ax_nil ?_
 refine cx_keep rfl rfl ?_
 refine cx_seq ?_
 refine cx_seq ?_
 refine cx_ops ?_
 refine ax_q (q_mov rfl) ?_
 refine ax_q (q_ibin rfl rfl rfl) ?_
 refine ax_q (q_mov rfl) ?_
 apply ax_or rfl rfl
 ·
  intro g
  have g := dF g
  have hrow := top_row hrs g
  first | refine ax_q (q_load1_ptr rfl rfl rfl) ?_ | refine ax_q (q_load1_ip rfl) ?_ | refine ax_q (q_load1_rptr rfl rfl rfl rfl) ?_ | refine ax_q (q_load1_rptr rfl rfl (by assumption) rfl) ?_ | refine ax_q (q_load1_rptr rfl rfl (mapAt (by first | assumption | omega)) rfl) ?_
  refine ax_q (q_mov rfl) ?_
  refine ax_q (q_ixoI rfl rfl (by omega) (by omega)) ?_
  first | refine ax_q (q_fadr_ptr rfl) ?_ | refine ax_q (q_fadr_rptr rfl) ?_ | refine ax_q (q_fadr_ip rfl) ?_
  refine ax_q (q_load1_rptr (r := prow (S.getD (S.length - 1) (0, 0))) rfl rfl hrow rfl) ?_
  refine ax_q (q_mov rfl) ?_
  refine ax_q (q_ibin rfl rfl rfl) ?_
  exact ax_nil ⟨rfl, by repeat (first | exact trivial | refine ⟨rfl, ?_⟩ | refine ⟨?_, ?_⟩)⟩
 refine ax_nil ?_
 refine cx_keep rfl rfl ?_
 refine cx_cond rfl (fun h0 => ?_) (fun h0 => ?_)
 ·
  have h0 := (fun h => (or_T h).imp dT nT) h0
  refine cx_seq ?_
  refine cx_ops ?_
  refine ax_q (q_mov rfl) ?_
  refine ax_q (q_mov rfl) ?_
  refine ax_nil ?_
  refine cx_keep rfl rfl ?_
  refine cx_ret (retN id [1000, 1001] rfl rfl rfl rfl rfl ?_)
  rw [popF_no h0]; exact ⟨rfl, rfl⟩
 ·
  have h0 := (fun h => And.intro (dF (or_F h).1) (nF (or_F h).2)) h0
  refine cx_skip ?_
  refine cx_keep rfl rfl ?_
  refine cx_seq ?_
  refine cx_ops ?_
  first | refine ax_q (q_load1_ptr rfl rfl rfl) ?_ | refine ax_q (q_load1_ip rfl) ?_ | refine ax_q (q_load1_rptr rfl rfl rfl rfl) ?_ | refine ax_q (q_load1_rptr rfl rfl (by assumption) rfl) ?_ | refine ax_q (q_load1_rptr rfl rfl (mapAt (by first | assumption | omega)) rfl) ?_
  refine ax_q (q_mov rfl) ?_
  refine ax_q (q_ixoI rfl rfl (by omega) (by omega)) ?_
  first | refine ax_q (q_fadr_ptr rfl) ?_ | refine ax_q (q_fadr_rptr rfl) ?_ | refine ax_q (q_fadr_ip rfl) ?_
  refine ax_q (q_load1_rptr (r := prow (S.getD (S.length - 1) (0, 0))) rfl rfl (top_row hrs h0.1) rfl) ?_
  refine ax_q (q_mov rfl) ?_
  refine ax_nil ?_
  refine cx_keep rfl rfl ?_
  refine cx_seq ?_
  refine cx_ops ?_
  first | refine ax_q (q_load1_ptr rfl rfl rfl) ?_ | refine ax_q (q_load1_ip rfl) ?_ | refine ax_q (q_load1_rptr rfl rfl rfl rfl) ?_ | refine ax_q (q_load1_rptr rfl rfl (by assumption) rfl) ?_ | refine ax_q (q_load1_rptr rfl rfl (mapAt (by first | assumption | omega)) rfl) ?_
  refine ax_q (q_mov rfl) ?_
  refine ax_qe (r' := .osl 1001 2 0 (S.length - 1)) (q_slc_osl rfl rfl rfl (by omega) (by omega) (by omega)) (by rw [show ((S.length : Int) - 1).toNat - (0 : Int).toNat = S.length - 1 from by omega]; rfl) ?_
  refine ax_e (e_st rfl rfl rfl rfl rfl rfl rfl) ?_
  refine ax_nil ?_
  refine cx_keep rfl rfl ?_
  refine cx_seq ?_
  refine cx_ops ?_
  refine ax_q (q_mov rfl) ?_
  refine ax_q (q_mov rfl) ?_
  refine ax_q (q_mov rfl) ?_
  refine ax_nil ?_
  refine cx_keep rfl rfl ?_
  refine cx_ret (retN id [1000, 1001] rfl rfl rfl rfl rfl ?_)
  rw [popF_yes h0.1 h0.2]; exact ⟨rfl, by dsimp only; rw [List.length_dropLast]; rfl⟩


/- loop.example/g00332/impl.isNumber -/
def k_c_isNumber : XCode :=
 .seq (.ops [.op (some 2) (.mov (.k (.bool false)))])
 (.keep [0] (.seq (.ops [.op (some 3) (.mov (.t 0)),
   .call (some 4) 36 [.t 3, .k (.int .i64 (-1000000000)), .k (.int .i64 1000000000)],
   .op (some 2) (.mov (.t 4))])
 (.keep [2] (.ret))))
theorem k_c_isNumber_fits : fitsF Tryd.prog 60 ⟨5, k_c_isNumber, [.t 2]⟩ = true := by kernel_rfl
theorem c_isNumber {n : Int} : Con Tryd.prog noMv 60 [int n] [] (fun r h => r = bool (inR n (-1000000000) 1000000000) ∧ h = []) := by
 refine con_of2 k_c_isNumber_fits rfl fun C hP hmv => ?_
 unfold k_c_isNumber
 refine cx_seq ?_
 refine cx_ops ?_
 refine ax_q (q_mov rfl) ?_
 refine ax_nil ?_
 refine cx_keep rfl rfl ?_
 refine cx_seq ?_
 refine cx_ops ?_
 refine ax_q (q_mov rfl) ?_
 first | refine ax_call rfl (vc_pure0 (c_inRange  ) hP rfl rfl ?_) | refine ax_call rfl (vc_lend0 (c_inRange  ) hP (by repeat (first | exact lal_id _ rfl | exact LAL.nil | refine LAL.cons ?_ ?_ | exact la_id _ rfl | exact LA.lend (lend_whole rfl (by first | (simp; done) | (rw [List.length_map]; rfl))) | refine LA.agg ?_ | refine LA.fn ?_ | refine LA.lend ?_ | exact Lend.d _ | exact Lend.zs _ | exact lend_whole rfl (by first | (simp; done) | (rw [List.length_map]; rfl)) | refine Lend.ptr rfl ?_ | refine Lend.fn ?_ | exact LendL.nil | refine LendL.cons ?_ ?_)) rfl rfl ?_)
 refine ax_q (q_mov rfl) ?_
 refine ax_nil ?_
 refine cx_keep rfl rfl ?_
 refine cx_ret (ret0 rfl rfl ?_)
 exact ⟨rfl, rfl⟩


/- loop.example/g00332/impl.isLetter -/
def k_c_isLetter : XCode :=
 .seq (.ops [.op (some 2) (.mov (.k (.bool false)))])
 (.keep [0] (.seq (.ops [.op (some 3) (.mov (.t 0)),
   .op (some 4) (.bin .geq (.t 3) (.k (.int .u8 97))),
   .op (some 5) (.mov (.t 4)),
   .andor 8 true 2 5 [.op (some 6) (.mov (.t 0)), .op (some 7) (.bin .leq (.t 6) (.k (.int .u8 122)))] (.t 7),
   .op (some 2) (.mov (.t 8))])
 (.keep [2] (.ret))))
theorem k_c_isLetter_fits : fitsF Tryd.prog 63 ⟨9, k_c_isLetter, [.t 2]⟩ = true := by kernel_rfl
theorem c_isLetter {b : UInt8} : Con Tryd.prog noMv 63 [.d (.int .u8 b.toNat)] [] (fun r h => r = bool (inR (b.toNat : Int) 97 122) ∧ h = []) := by
 refine con_of2 k_c_isLetter_fits rfl fun C hP hmv => ?_
 unfold k_c_isLetter
 refine cx_seq ?_
 refine cx_ops ?_
 refine ax_q (q_mov rfl) ?_
 refine ax_nil ?_
 refine cx_keep rfl rfl ?_
 refine cx_seq ?_
 refine cx_ops ?_
 refine ax_q (q_mov rfl) ?_
 refine ax_q (q_ibin rfl rfl rfl) ?_
 refine ax_q (q_mov rfl) ?_
 apply ax_and rfl rfl
 ·
  intro g
  have g := dT g
  refine ax_q (q_mov rfl) ?_
  refine ax_q (q_ibin rfl rfl rfl) ?_
  exact ax_nil ⟨rfl, by repeat (first | exact trivial | refine ⟨rfl, ?_⟩ | refine ⟨?_, ?_⟩)⟩
 refine ax_q (q_mov rfl) ?_
 refine ax_nil ?_
 refine cx_keep rfl rfl ?_
 refine cx_ret (ret0 rfl rfl ?_)
 exact ⟨rfl, rfl⟩


/- loop.example/g00332/impl.isWord -/
def k_c_isWord : XCode :=
 .seq (.ops [.op (some 2) (.mov (.k (.bool false)))])
 (.keep [0] (.seq (.seq (.ops [.op (some 4) (.mov (.t 0)),
   .op (some 5) (.lenT (.t 4)),
   .op (some 6) (.mov (.k (.int .i64 0)))])
  (.keep [0, 5, 6] (.block 0 (.loop (.seq (.ops [.op (some 7) (.bin .lss (.t 6) (.t 5))])
   (.keep [0, 5, 6, 7] (.seq (.cond (.t 7)
    (.skip)
    (.exit 0))
   (.keep [0, 5, 6] (.seq (.block 1 (.seq (.ops [.op (some 8) (.mov (.t 6)),
     .op (some 3) (.mov (.t 8))])
    (.keep [0, 3, 5, 6] (.seq (.ops [.op (some 9) (.mov (.t 0)),
     .op (some 10) (.mov (.t 3)),
     .op (some 11) (.idxS (.t 9) (.t 10)),
     .call (some 12) 63 [.t 11],
     .op (some 13) (.not (.t 12))])
    (.keep [0, 5, 6, 13] (.cond (.t 13)
    (.seq (.ops [.op (some 2) (.mov (.k (.bool false)))])
     (.keep [2] (.ret)))
    (.skip)))))))
   (.keep [0, 5, 6] (.ops [.op (some 14) (.bin .add (.t 6) (.k (.int .i64 1))),
    .op (some 6) (.mov (.t 14))])))))))))))
 (.keep [0] (.seq (.ops [.op (some 15) (.mov (.t 0)),
   .op (some 16) (.lenT (.t 15)),
   .op (some 17) (.bin .leq (.t 16) (.k (.int .i64 10))),
   .op (some 2) (.mov (.t 17))])
 (.keep [2] (.ret))))))
theorem k_c_isWord_fits : fitsF Tryd.prog 61 ⟨18, k_c_isWord, [.t 2]⟩ = true := by kernel_rfl
theorem c_isWord {s : Str} (hs : s.length ≤ 1048576) : Con Tryd.prog noMv 61 [str s] [] (fun r h => r = bool (isWord s) ∧ h = []) := by
 refine con_of2 k_c_isWord_fits rfl fun C hP hmv => ?_
 unfold k_c_isWord
 refine cx_seq ?_
 refine cx_ops ?_
 refine ax_q (q_mov rfl) ?_
 refine ax_nil ?_
 refine cx_keep rfl rfl ?_
 refine cx_seq ?_
 refine cx_seq ?_
 refine cx_ops ?_
 refine ax_q (q_mov rfl) ?_
 refine ax_q (q_lenT rfl) ?_
 refine ax_q (q_mov rfl) ?_
 refine ax_nil ?_
 refine cx_keep rfl rfl ?_
 refine cx_block ?_
 refine cx_loopU (fun n k => k ≤ s.length ∧ n = s.length - k ∧ ∀ j, j < k → ∀ x, s[j]? = some x → badCh x = false) (fun k : Nat => [(6, int k)]) (fun _ => []) ⟨_, 0, ⟨Nat.zero_le _, rfl, fun j hj => by omega⟩, by repeat (first | exact trivial | refine ⟨rfl, ?_⟩ | refine ⟨?_, ?_⟩)⟩ ?_
 rintro n k ⟨hk, rfl, hb⟩
 refine cx_seq ?_
 refine cx_ops ?_
 refine ax_q (q_ibin rfl rfl rfl) ?_
 refine ax_nil ?_
 refine cx_keep rfl rfl ?_
 refine cx_seq ?_
 refine cx_cond rfl (fun h0 => ?_) (fun h0 => ?_)
 ·
  have h0 := dT h0
  have h0x : k < s.length := by omega
  refine cx_skip ?_
  refine cx_keep rfl rfl ?_
  refine cx_seq ?_
  refine cx_block ?_
  refine cx_seq ?_
  refine cx_ops ?_
  refine ax_q (q_mov rfl) ?_
  refine ax_q (q_mov rfl) ?_
  refine ax_nil ?_
  refine cx_keep rfl rfl ?_
  refine cx_seq ?_
  refine cx_ops ?_
  refine ax_q (q_mov rfl) ?_
  refine ax_q (q_mov rfl) ?_
  refine ax_q (q_idxN rfl rfl (by first | assumption | omega)) ?_
  first | refine ax_call rfl (vc_pure0 (c_isLetter  ) hP rfl rfl ?_) | refine ax_call rfl (vc_lend0 (c_isLetter  ) hP (by repeat (first | exact lal_id _ rfl | exact LAL.nil | refine LAL.cons ?_ ?_ | exact la_id _ rfl | exact LA.lend (lend_whole rfl (by first | (simp; done) | (rw [List.length_map]; rfl))) | refine LA.agg ?_ | refine LA.fn ?_ | refine LA.lend ?_ | exact Lend.d _ | exact Lend.zs _ | exact lend_whole rfl (by first | (simp; done) | (rw [List.length_map]; rfl)) | refine Lend.ptr rfl ?_ | refine Lend.fn ?_ | exact LendL.nil | refine LendL.cons ?_ ?_)) rfl rfl ?_)
  refine ax_q (q_not rfl) ?_
  refine ax_nil ?_
  refine cx_keep rfl rfl ?_
  refine cx_cond rfl (fun h1 => ?_) (fun h1 => ?_)
  ·
   have h1 : badCh s[k] = true := h1
   refine cx_seq ?_
   refine cx_ops ?_
   refine ax_q (q_mov rfl) ?_
   refine ax_nil ?_
   refine cx_keep rfl rfl ?_
   refine cx_ret (ret0 rfl rfl ?_)
   exact ⟨by unfold isWord; rw [any_hit h0x h1] <;> rfl, rfl⟩
  ·
   have h1 : badCh s[k] = false := h1
   refine cx_skip ?_
   refine cx_keep rfl rfl ?_
   refine cx_ops ?_
   refine ax_qe (r' := int ((k + 1 : Nat) : Int)) (q_ibin rfl rfl rfl) (by rw [wi (by omega) (by omega)]; rfl) ?_
   refine ax_q (q_mov rfl) ?_
   refine ax_nil ?_
   exact ⟨_, k + 1, by omega, ⟨by omega, rfl, before_step h0x hb h1⟩, by repeat (first | exact trivial | refine ⟨rfl, ?_⟩ | refine ⟨?_, ?_⟩)⟩
 ·
  have h0 := dF h0
  have h0x : k = s.length := by omega
  refine cx_exit rfl ?_
  refine cx_keep rfl rfl ?_
  refine cx_seq ?_
  refine cx_ops ?_
  refine ax_q (q_mov rfl) ?_
  refine ax_q (q_lenT rfl) ?_
  refine ax_q (q_ibin rfl rfl rfl) ?_
  refine ax_q (q_mov rfl) ?_
  refine ax_nil ?_
  refine cx_keep rfl rfl ?_
  refine cx_ret (ret0 rfl rfl ?_)
  exact ⟨by unfold isWord; rw [any_all (fun i hi => hb i (by omega))] <;> rfl, rfl⟩


/- loop.example/g00332/impl.ValueOK -/
def k_c_ValueOK : XCode :=
 .seq (.ops [.op (some 1) (.box (.t 0)),
   .op (some 2) (.mov (.k (.bool false)))])
 (.keep [1] (.seq (.seq (.ops [.op (some 3) (.fadr (.t 1) 0),
   .op (some 4) (.load1 (.t 3))])
  (.keep [1, 4] (.block 0 (.seq (.ops [.op (some 6) (.bin .eql (.t 4) (.k (.int .i64 0))),
    .op (some 5) (.mov (.t 6))])
  (.keep [1, 4, 5] (.cond (.t 5)
   (.seq (.ops [.op (some 7) (.loadN 3 (.t 1)),
     .op (some 8) (.build [.int .i64 0, .int .i64 0, .str []] []),
     .op (some 9) (.eqs false [0, 0, 2] (.t 7) (.t 8)),
     .op (some 2) (.mov (.t 9))])
   (.keep [2] (.ret)))
   (.seq (.ops [.op (some 11) (.bin .eql (.t 4) (.k (.int .i64 1))),
     .op (some 10) (.mov (.t 11))])
   (.keep [1, 10] (.cond (.t 10)
    (.seq (.ops [.op (some 12) (.fadr (.t 1) 1),
      .op (some 13) (.load1 (.t 12)),
      .call (some 14) 60 [.t 13],
      .op (some 15) (.mov (.t 14)),
      .andor 19 true 3 15 [.op (some 16) (.fadr (.t 1) 2), .op (some 17) (.load1 (.t 16)), .op (some 18) (.bin .eql (.t 17) (.k (.str [])))] (.t 18),
      .op (some 2) (.mov (.t 19))])
    (.keep [2] (.ret)))
    (.skip))))))))))
 (.keep [1] (.seq (.ops [.op (some 20) (.fadr (.t 1) 0),
   .op (some 21) (.load1 (.t 20)),
   .op (some 22) (.bin .eql (.t 21) (.k (.int .i64 2))),
   .op (some 23) (.mov (.t 22)),
   .andor 27 true 3 23 [.op (some 24) (.fadr (.t 1) 1), .op (some 25) (.load1 (.t 24)), .op (some 26) (.bin .eql (.t 25) (.k (.int .i64 0)))] (.t 26),
   .op (some 28) (.mov (.t 27)),
   .andor 32 true 8 28 [.op (some 29) (.fadr (.t 1) 2), .op (some 30) (.load1 (.t 29)), .call (some 31) 61 [.t 30]] (.t 31),
   .op (some 2) (.mov (.t 32))])
 (.keep [2] (.ret))))))
theorem k_c_ValueOK_fits : fitsF Tryd.prog 55 ⟨33, k_c_ValueOK, [.t 2]⟩ = true := by kernel_rfl
theorem c_ValueOK {v : GValue} (hv : v.T.length ≤ 1048576) : Con Tryd.prog noMv 55 [v.av] [] (fun r h => r = bool (valueOK v) ∧ h = []) := by
 refine con_of2 k_c_ValueOK_fits rfl fun C hP hmv => ?_
 unfold k_c_ValueOK
 refine cx_seq ?_
 refine cx_ops ?_
 refine ax_e (e_box rfl rfl (by decide) rfl rfl rfl) ?_
 refine ax_q (q_mov rfl) ?_
 refine ax_nil ?_
 refine cx_keep rfl rfl ?_
 refine cx_seq ?_
 refine cx_seq ?_
 refine cx_ops ?_
 refine ax_q (q_fadr_ptr rfl) ?_
 refine ax_q (q_load1_ptr rfl rfl rfl) ?_
 refine ax_nil ?_
 refine cx_keep rfl rfl ?_
 refine cx_block ?_
 refine cx_seq ?_
 refine cx_ops ?_
 refine ax_q (q_ibin rfl rfl rfl) ?_
 refine ax_q (q_mov rfl) ?_
 refine ax_nil ?_
 refine cx_keep rfl rfl ?_
 refine cx_cond rfl (fun h0 => ?_) (fun h0 => ?_)
 ·
  have h0 := dT h0
  refine cx_seq ?_
  refine cx_ops ?_
  refine ax_q (q_ldN rfl rfl rfl) ?_
  refine ax_q (q_build rfl) ?_
  first | refine ax_q (GValue.q_eqs rfl rfl) ?_ | refine ax_q (q_eqs rfl rfl rfl) ?_
  refine ax_q (q_mov rfl) ?_
  refine ax_nil ?_
  refine cx_keep rfl rfl ?_
  refine cx_ret (ret0 rfl rfl ?_)
  exact ⟨by rw [valueOK_0 h0, decide_eq_true h0, Bool.and_true, Bool.true_and] <;> rfl, rfl⟩
 ·
  have h0 := dF h0
  refine cx_seq ?_
  refine cx_ops ?_
  refine ax_q (q_ibin rfl rfl rfl) ?_
  refine ax_q (q_mov rfl) ?_
  refine ax_nil ?_
  refine cx_keep rfl rfl ?_
  refine cx_cond rfl (fun h1 => ?_) (fun h1 => ?_)
  ·
   have h1 := dT h1
   refine cx_seq ?_
   refine cx_ops ?_
   refine ax_q (q_fadr_ptr rfl) ?_
   refine ax_q (q_load1_ptr rfl rfl rfl) ?_
   first | refine ax_call rfl (vc_pure0 (c_isNumber  ) hP rfl rfl ?_) | refine ax_call rfl (vc_lend0 (c_isNumber  ) hP (by repeat (first | exact lal_id _ rfl | exact LAL.nil | refine LAL.cons ?_ ?_ | exact la_id _ rfl | exact LA.lend (lend_whole rfl (by first | (simp; done) | (rw [List.length_map]; rfl))) | refine LA.agg ?_ | refine LA.fn ?_ | refine LA.lend ?_ | exact Lend.d _ | exact Lend.zs _ | exact lend_whole rfl (by first | (simp; done) | (rw [List.length_map]; rfl)) | refine Lend.ptr rfl ?_ | refine Lend.fn ?_ | exact LendL.nil | refine LendL.cons ?_ ?_)) rfl rfl ?_)
   refine ax_q (q_mov rfl) ?_
   apply ax_and rfl rfl
   ·
    intro g
    refine ax_q (q_fadr_ptr rfl) ?_
    refine ax_q (q_load1_ptr rfl rfl rfl) ?_
    refine ax_q (q_sbin rfl rfl rfl) ?_
    exact ax_nil ⟨rfl, by repeat (first | exact trivial | refine ⟨rfl, ?_⟩ | refine ⟨?_, ?_⟩)⟩
   refine ax_q (q_mov rfl) ?_
   refine ax_nil ?_
   refine cx_keep rfl rfl ?_
   refine cx_ret (ret0 rfl rfl ?_)
   exact ⟨by rw [valueOK_1 h1] <;> rfl, rfl⟩
  ·
   have h1 := dF h1
   refine cx_skip ?_
   refine cx_keep rfl rfl ?_
   refine cx_seq ?_
   refine cx_ops ?_
   refine ax_q (q_fadr_ptr rfl) ?_
   refine ax_q (q_load1_ptr rfl rfl rfl) ?_
   refine ax_q (q_ibin rfl rfl rfl) ?_
   refine ax_q (q_mov rfl) ?_
   apply ax_and rfl rfl
   ·
    intro g
    have g := dT g
    refine ax_q (q_fadr_ptr rfl) ?_
    refine ax_q (q_load1_ptr rfl rfl rfl) ?_
    refine ax_q (q_ibin rfl rfl rfl) ?_
    exact ax_nil ⟨rfl, by repeat (first | exact trivial | refine ⟨rfl, ?_⟩ | refine ⟨?_, ?_⟩)⟩
   refine ax_q (q_mov rfl) ?_
   apply ax_and rfl rfl
   ·
    intro g
    have g := (fun h => And.intro (dT (and_T h).1) (dT (and_T h).2)) g
    refine ax_q (q_fadr_ptr rfl) ?_
    refine ax_q (q_load1_ptr rfl rfl rfl) ?_
    first | refine ax_call rfl (vc_pure0 (c_isWord  ?_) hP rfl rfl ?_) | refine ax_call rfl (vc_lend0 (c_isWord  ?_) hP (by repeat (first | exact lal_id _ rfl | exact LAL.nil | refine LAL.cons ?_ ?_ | exact la_id _ rfl | exact LA.lend (lend_whole rfl (by first | (simp; done) | (rw [List.length_map]; rfl))) | refine LA.agg ?_ | refine LA.fn ?_ | refine LA.lend ?_ | exact Lend.d _ | exact Lend.zs _ | exact lend_whole rfl (by first | (simp; done) | (rw [List.length_map]; rfl)) | refine Lend.ptr rfl ?_ | refine Lend.fn ?_ | exact LendL.nil | refine LendL.cons ?_ ?_)) rfl rfl ?_)
    ·
     first | assumption | omega | (simp; done) | (simp; omega)
    exact ax_nil ⟨rfl, by repeat (first | exact trivial | refine ⟨rfl, ?_⟩ | refine ⟨?_, ?_⟩)⟩
   refine ax_q (q_mov rfl) ?_
   refine ax_nil ?_
   refine cx_keep rfl rfl ?_
   refine cx_ret (ret0 rfl rfl ?_)
   exact ⟨by rw [valueOK_2 h0 h1] <;> rfl, rfl⟩


/- loop.example/g00332/impl.isUnary -/
def k_c_isUnary : XCode :=
 .seq (.ops [.op (some 2) (.mov (.k (.bool false)))])
 (.keep [0] (.seq (.ops [.op (some 3) (.mov (.t 0)),
   .call (some 4) 36 [.t 3, .k (.int .i64 3), .k (.int .i64 5)],
   .op (some 2) (.mov (.t 4))])
 (.keep [2] (.ret))))
theorem k_c_isUnary_fits : fitsF Tryd.prog 56 ⟨5, k_c_isUnary, [.t 2]⟩ = true := by kernel_rfl
theorem c_isUnary {n : Int} : Con Tryd.prog noMv 56 [int n] [] (fun r h => r = bool (inR n 3 5) ∧ h = []) := by
 refine con_of2 k_c_isUnary_fits rfl fun C hP hmv => ?_
 unfold k_c_isUnary
 refine cx_seq ?_
 refine cx_ops ?_
 refine ax_q (q_mov rfl) ?_
 refine ax_nil ?_
 refine cx_keep rfl rfl ?_
 refine cx_seq ?_
 refine cx_ops ?_
 refine ax_q (q_mov rfl) ?_
 first | refine ax_call rfl (vc_pure0 (c_inRange  ) hP rfl rfl ?_) | refine ax_call rfl (vc_lend0 (c_inRange  ) hP (by repeat (first | exact lal_id _ rfl | exact LAL.nil | refine LAL.cons ?_ ?_ | exact la_id _ rfl | exact LA.lend (lend_whole rfl (by first | (simp; done) | (rw [List.length_map]; rfl))) | refine LA.agg ?_ | refine LA.fn ?_ | refine LA.lend ?_ | exact Lend.d _ | exact Lend.zs _ | exact lend_whole rfl (by first | (simp; done) | (rw [List.length_map]; rfl)) | refine Lend.ptr rfl ?_ | refine Lend.fn ?_ | exact LendL.nil | refine LendL.cons ?_ ?_)) rfl rfl ?_)
 refine ax_q (q_mov rfl) ?_
 refine ax_nil ?_
 refine cx_keep rfl rfl ?_
 refine cx_ret (ret0 rfl rfl ?_)
 exact ⟨rfl, rfl⟩

end Go.Proofs.YtglpaaehiibfpaaDoor
