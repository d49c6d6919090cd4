/- The walks: what each function computes, as a contract without a world (part 0). -/
import Derived.Test.YtenfhamolacdaaaProg
import Derived.Test.YtenfhamolacdaaaA2
namespace Go.Proofs.Ytenfhamolacdaaa
open Go Go.AM
set_option maxRecDepth 10000
set_option linter.unusedVariables false
set_option linter.unusedSimpArgs false
/- loop.example/g00332/laws.szStringS -/
def k_c_szStringS : XCode :=
 .seq (.ops [.op (some 4) (.mov (.k (.int .i64 0)))])
 (.keep [0, 1] (.seq (.ops [.op (some 6) (.mov (.t 1)),
   .op (some 7) (.mov (.t 0)),
   .op (some 8) (.lenS (.t 7)),
   .op (some 9) (.bin .sub (.t 6) (.t 8)),
   .op (some 1) (.mov (.t 9))])
 (.keep [0, 1] (.seq (.seq (.ops [.op (some 10) (.mov (.t 1)),
   .op (some 11) (.bin .lss (.t 10) (.k (.int .i64 0)))])
  (.keep [0, 1, 11] (.cond (.t 11)
  (.seq (.ops [.op (some 4) (.mov (.k (.int .i64 (-1))))])
   (.keep [4] (.ret)))
  (.skip))))
 (.keep [0, 1] (.seq (.seq (.ops [.op (some 5) (.mov (.k (.int .i64 0)))])
  (.keep [0, 1, 5] (.block 0 (.loop (.seq (.seq (.ops [.op (some 12) (.mov (.t 5)),
     .op (some 13) (.mov (.t 0)),
     .op (some 14) (.lenS (.t 13)),
     .op (some 15) (.bin .lss (.t 12) (.t 14))])
   (.keep [0, 1, 5, 15] (.cond (.t 15)
    (.skip)
    (.exit 0))))
   (.keep [0, 1, 5] (.seq (.block 1 (.seq (.ops [.op (some 18) (.mov (.t 1)),
     .op (some 19) (.mov (.t 0)),
     .op (some 20) (.mov (.t 5)),
     .op (some 21) (.iadr 1 (.t 19) (.t 20)),
     .op (some 22) (.load1 (.t 21)),
     .op (some 23) (.lenT (.t 22)),
     .op (some 24) (.bin .sub (.t 18) (.t 23)),
     .op (some 1) (.mov (.t 24))])
    (.keep [0, 1, 5] (.seq (.ops [.op (some 25) (.mov (.t 1)),
     .op (some 26) (.bin .lss (.t 25) (.k (.int .i64 0)))])
    (.keep [0, 1, 5, 26] (.cond (.t 26)
    (.seq (.ops [.op (some 4) (.mov (.k (.int .i64 (-1))))])
     (.keep [4] (.ret)))
    (.skip)))))))
   (.keep [0, 1, 5] (.ops [.op (some 16) (.mov (.t 5)),
    .op (some 17) (.bin .add (.t 16) (.k (.int .i64 1))),
    .op (some 5) (.mov (.t 17))])))))))))
 (.keep [1] (.seq (.ops [.op (some 27) (.mov (.t 1)),
   .op (some 4) (.mov (.t 27))])
 (.keep [4] (.ret))))))))))
theorem k_c_szStringS_fits : fitsF Try.prog 48 ⟨28, k_c_szStringS, [.t 4]⟩ = true := by kernel_rfl
theorem c_szStringS {xs : List Str} {left : Int} (h0 : 0 ≤ left) (hl : left ≤ 1048576) (hw : wfL wfStr xs) : Con Try.prog noMv 48 [.d (.sl 1 (xs.map strRow)), int left] [] (fun r h => r = int (szF left (szL List.length xs)) ∧ h = []) := by
 refine con_of2 k_c_szStringS_fits rfl fun C hP hmv => ?_
 unfold k_c_szStringS
 have hw1 := hw.1; have hw2 := hw.2
 have sp := szF_spec left (szL List.length xs)
 refine cx_seq (cx_ops ?_)
 refine ax_q (q_mov rfl) ?_
 refine ax_nil (cx_keep rfl rfl (cx_seq (cx_ops ?_)))
 refine ax_q (q_mov rfl) ?_
 refine ax_q (q_mov rfl) ?_
 refine ax_q (q_lenS_map rfl) ?_
 refine ax_q (q_sub rfl rfl (by omega)) ?_
 refine ax_q (q_mov rfl) ?_
 refine ax_nil (cx_keep rfl rfl (cx_seq (cx_seq (cx_ops ?_))))
 refine ax_q (q_mov rfl) ?_
 refine ax_q (q_ibin rfl rfl rfl) ?_
 refine ax_nil (cx_keep rfl rfl ?_)
 refine cx_cond rfl (fun h0 => ?_) (fun h0 => ?_)
 ·
  have h0 := dT h0
  refine cx_seq (cx_ops ?_)
  refine ax_q (q_mov rfl) ?_
  refine ax_nil (cx_keep rfl rfl ?_)
  refine cx_ret (ret0 rfl rfl ?_)
  exact ⟨congrArg int (by unfold szL at sp ⊢; omega), rfl⟩
 ·
  have h0 := dF h0
  refine cx_skip ?_
  refine cx_keep rfl rfl (cx_seq (cx_seq (cx_ops ?_)))
  refine ax_q (q_mov rfl) ?_
  refine ax_nil (cx_keep rfl rfl (cx_block ?_))
  refine cx_loopU (fun n k => k ≤ xs.length ∧ n = xs.length - k ∧ 0 ≤ left - xs.length - sumBy List.length (xs.take k)) (fun k : Nat => [(1, int (left - xs.length - sumBy List.length (xs.take k))), (5, int k)]) (fun _ => [])
   ⟨_, 0, ⟨Nat.zero_le _, rfl, by simp [sumBy]; omega⟩, ⟨⟨rfl, congrArg (fun n => some (int n)) (by simp only [List.take_zero, sumBy]; omega), rfl, trivial⟩, trivial⟩⟩ ?_
  rintro n k ⟨hk, rfl, hs⟩
  refine cx_seq (cx_seq (cx_ops ?_))
  refine ax_q (q_mov rfl) ?_
  refine ax_q (q_mov rfl) ?_
  refine ax_q (q_lenS_map rfl) ?_
  refine ax_q (q_ibin rfl rfl rfl) ?_
  refine ax_nil (cx_keep rfl rfl ?_)
  refine cx_cond rfl (fun h1 => ?_) (fun h1 => ?_)
  ·
   have h1 := dT h1
   have h1x : k < xs.length := by omega
   have hst := sumBy_take (f := List.length) h1x
   have hsl := sumBy_le (f := List.length) xs (k + 1)
   have hwk := hw2 _ (List.getElem_mem h1x)
   refine cx_skip ?_
   refine cx_keep rfl rfl (cx_seq (cx_block (cx_seq (cx_ops ?_))))
   refine ax_q (q_mov rfl) ?_
   refine ax_q (q_mov rfl) ?_
   refine ax_q (q_mov rfl) ?_
   refine ax_q (q_ix rfl rfl (mapAt h1x)) ?_
   first | refine ax_q (q_load1_ptr rfl rfl rfl) ?_ | refine ax_q (q_load1_ip rfl) ?_
   refine ax_q (q_lenT rfl) ?_
   refine ax_qe (r' := int (left - xs.length - sumBy List.length (xs.take (k + 1)))) (q_ibin rfl rfl rfl) (by unfold wfStr at hwk; rw [wi (by omega) (by omega)]; congr 2; omega) ?_
   refine ax_q (q_mov rfl) ?_
   refine ax_nil (cx_keep rfl rfl (cx_seq (cx_ops ?_)))
   refine ax_q (q_mov rfl) ?_
   refine ax_q (q_ibin rfl rfl rfl) ?_
   refine ax_nil (cx_keep rfl rfl ?_)
   refine cx_cond rfl (fun h2 => ?_) (fun h2 => ?_)
   ·
    have h2 := dT h2
    refine cx_seq (cx_ops ?_)
    refine ax_q (q_mov rfl) ?_
    refine ax_nil (cx_keep rfl rfl ?_)
    refine cx_ret (ret0 rfl rfl ?_)
    exact ⟨congrArg int (by unfold szL at sp ⊢; omega), rfl⟩
   ·
    have h2 := dF h2
    refine cx_skip ?_
    refine cx_keep rfl rfl (cx_ops ?_)
    refine ax_q (q_mov rfl) ?_
    refine ax_q (q_add rfl rfl (by omega)) ?_
    refine ax_q (q_mov rfl) ?_
    refine ax_nil ?_
    exact ⟨_, k + 1, by omega, ⟨by omega, rfl, by omega⟩, by repeat constructor⟩
  ·
   have h1 := dF h1
   refine cx_exit rfl ?_
   refine cx_keep rfl rfl (cx_seq (cx_ops ?_))
   refine ax_q (q_mov rfl) ?_
   refine ax_q (q_mov rfl) ?_
   refine ax_nil (cx_keep rfl rfl ?_)
   refine cx_ret (ret0 rfl rfl ?_)
   have hk2 : k = xs.length := by omega
   subst hk2; rw [List.take_length] at hs ⊢
   exact ⟨congrArg int (by unfold szL at sp ⊢; omega), rfl⟩


/- loop.example/g00332/laws.szIntS -/
def k_c_szIntS : XCode :=
 .seq (.ops [.op (some 4) (.mov (.k (.int .i64 0)))])
 (.keep [0, 1] (.seq (.ops [.op (some 5) (.mov (.t 1)),
   .op (some 6) (.mov (.t 0)),
   .op (some 7) (.lenS (.t 6)),
   .op (some 8) (.bin .sub (.t 5) (.t 7)),
   .op (some 1) (.mov (.t 8))])
 (.keep [1] (.seq (.seq (.ops [.op (some 9) (.mov (.t 1)),
   .op (some 10) (.bin .lss (.t 9) (.k (.int .i64 0)))])
  (.keep [1, 10] (.cond (.t 10)
  (.seq (.ops [.op (some 4) (.mov (.k (.int .i64 (-1))))])
   (.keep [4] (.ret)))
  (.skip))))
 (.keep [1] (.seq (.ops [.op (some 11) (.mov (.t 1)),
   .op (some 4) (.mov (.t 11))])
 (.keep [4] (.ret))))))))
theorem k_c_szIntS_fits : fitsF Try.prog 49 ⟨12, k_c_szIntS, [.t 4]⟩ = true := by kernel_rfl
theorem c_szIntS {xs : List Int} {left : Int} (h0 : 0 ≤ left) (hl : left ≤ 1048576) (hw : wfL wfInt xs) : Con Try.prog noMv 49 [.d (.sl 1 (xs.map intRow)), int left] [] (fun r h => r = int (szF left (szL (fun _ => 0) xs)) ∧ h = []) := by
 refine con_of2 k_c_szIntS_fits rfl fun C hP hmv => ?_
 unfold k_c_szIntS
 have hw1 := hw.1
 have sp := szF_spec left (szL (fun _ => 0) xs)
 have e0 : szL (fun _ => 0) xs = xs.length := by unfold szL; rw [sumBy_zero]; rfl
 rw [e0] at sp ⊢
 refine cx_seq (cx_ops ?_)
 refine ax_q (q_mov rfl) ?_
 refine ax_nil (cx_keep rfl rfl (cx_seq (cx_ops ?_)))
 refine ax_q (q_mov rfl) ?_
 refine ax_q (q_mov rfl) ?_
 refine ax_q (q_lenS_map rfl) ?_
 refine ax_q (q_sub rfl rfl (by omega)) ?_
 refine ax_q (q_mov rfl) ?_
 refine ax_nil (cx_keep rfl rfl (cx_seq (cx_seq (cx_ops ?_))))
 refine ax_q (q_mov rfl) ?_
 refine ax_q (q_ibin rfl rfl rfl) ?_
 refine ax_nil (cx_keep rfl rfl ?_)
 refine cx_cond rfl (fun h0 => ?_) (fun h0 => ?_)
 ·
  have h0 := dT h0
  refine cx_seq (cx_ops ?_)
  refine ax_q (q_mov rfl) ?_
  refine ax_nil (cx_keep rfl rfl ?_)
  refine cx_ret (ret0 rfl rfl ?_)
  exact ⟨congrArg int (by omega), rfl⟩
 ·
  have h0 := dF h0
  refine cx_skip ?_
  refine cx_keep rfl rfl (cx_seq (cx_ops ?_))
  refine ax_q (q_mov rfl) ?_
  refine ax_q (q_mov rfl) ?_
  refine ax_nil (cx_keep rfl rfl ?_)
  refine cx_ret (ret0 rfl rfl ?_)
  exact ⟨congrArg int (by omega), rfl⟩


/- loop.example/g00332/laws.szTreeNode -/
def k_c_szTreeNode : XCode :=
 .seq (.ops [.op (some 2) (.box (.t 0)),
   .op (some 4) (.mov (.k (.int .i64 0)))])
 (.keep [1, 2] (.seq (.ops [.op (some 5) (.fadr (.t 2) 1),
   .op (some 6) (.load1 (.t 5)),
   .op (some 7) (.mov (.t 1)),
   .call (some 8) 48 [.t 6, .t 7],
   .op (some 1) (.mov (.t 8))])
 (.keep [1, 2] (.seq (.seq (.ops [.op (some 9) (.mov (.t 1)),
   .op (some 10) (.bin .lss (.t 9) (.k (.int .i64 0)))])
  (.keep [1, 2, 10] (.cond (.t 10)
  (.seq (.ops [.op (some 4) (.mov (.k (.int .i64 (-1))))])
   (.keep [4] (.ret)))
  (.skip))))
 (.keep [1, 2] (.seq (.ops [.op (some 11) (.fadr (.t 2) 2),
   .op (some 12) (.load1 (.t 11)),
   .op (some 13) (.mov (.t 1)),
   .call (some 14) 49 [.t 12, .t 13],
   .op (some 1) (.mov (.t 14))])
 (.keep [1] (.seq (.seq (.ops [.op (some 15) (.mov (.t 1)),
   .op (some 16) (.bin .lss (.t 15) (.k (.int .i64 0)))])
  (.keep [1, 16] (.cond (.t 16)
  (.seq (.ops [.op (some 4) (.mov (.k (.int .i64 (-1))))])
   (.keep [4] (.ret)))
  (.skip))))
 (.keep [1] (.seq (.ops [.op (some 17) (.mov (.t 1)),
   .op (some 4) (.mov (.t 17))])
 (.keep [4] (.ret))))))))))))
theorem k_c_szTreeNode_fits : fitsF Try.prog 27 ⟨18, k_c_szTreeNode, [.t 4]⟩ = true := by kernel_rfl
theorem c_szTreeNode {a : INode} {left : Int} (h0 : 0 ≤ left) (hl : left ≤ 1048576) (hw : a.wf) : Con Try.prog noMv 27 [a.av, int left] [] (fun r h => r = int (szF left (INode.sz a)) ∧ h = []) := by
 refine con_of2 k_c_szTreeNode_fits rfl fun C hP hmv => ?_
 unfold k_c_szTreeNode
 have sp := szF_spec left (INode.sz a)
 have e0 : INode.sz a = szL List.length a.Keys + szL (fun _ => 0) a.Kids := rfl
 rw [e0] at sp ⊢
 obtain ⟨w0, w1, w2⟩ := hw
 refine cx_seq (cx_ops ?_)
 refine ax_e (e_box rfl rfl (by decide) rfl rfl rfl) ?_
 refine ax_q (q_mov rfl) ?_
 refine ax_nil (cx_keep rfl rfl (cx_seq (cx_ops ?_)))
 refine ax_q (q_fadr_ptr rfl) ?_
 refine ax_q (q_load1_ptr rfl rfl rfl) ?_
 refine ax_q (q_mov rfl) ?_
 have q0 := szF_spec left (szL List.length a.Keys)
 refine ax_call rfl (vc_pure0 (c_szStringS  ?_ ?_ ?_) hP rfl rfl ?_)
 ·
  assumption
 ·
  assumption
 ·
  assumption
 refine ax_q (q_mov rfl) ?_
 refine ax_nil (cx_keep rfl rfl (cx_seq (cx_seq (cx_ops ?_))))
 refine ax_q (q_mov rfl) ?_
 refine ax_q (q_ibin rfl rfl rfl) ?_
 refine ax_nil (cx_keep rfl rfl ?_)
 refine cx_cond rfl (fun h0 => ?_) (fun h0 => ?_)
 ·
  have h0 := dT h0
  refine cx_seq (cx_ops ?_)
  refine ax_q (q_mov rfl) ?_
  refine ax_nil (cx_keep rfl rfl ?_)
  refine cx_ret (ret0 rfl rfl ?_)
  exact ⟨congrArg int (by omega), rfl⟩
 ·
  have h0 := dF h0
  refine cx_skip ?_
  refine cx_keep rfl rfl (cx_seq (cx_ops ?_))
  refine ax_q (q_fadr_ptr rfl) ?_
  refine ax_q (q_load1_ptr rfl rfl rfl) ?_
  refine ax_q (q_mov rfl) ?_
  have q1 := szF_spec (szF left (szL List.length a.Keys)) (szL (fun _ => 0) a.Kids)
  refine ax_call rfl (vc_pure0 (c_szIntS  ?_ ?_ ?_) hP rfl rfl ?_)
  ·
   first | assumption | omega
  ·
   first | assumption | omega
  ·
   assumption
  refine ax_q (q_mov rfl) ?_
  refine ax_nil (cx_keep rfl rfl (cx_seq (cx_seq (cx_ops ?_))))
  refine ax_q (q_mov rfl) ?_
  refine ax_q (q_ibin rfl rfl rfl) ?_
  refine ax_nil (cx_keep rfl rfl ?_)
  refine cx_cond rfl (fun h1 => ?_) (fun h1 => ?_)
  ·
   have h1 := dT h1
   refine cx_seq (cx_ops ?_)
   refine ax_q (q_mov rfl) ?_
   refine ax_nil (cx_keep rfl rfl ?_)
   refine cx_ret (ret0 rfl rfl ?_)
   exact ⟨congrArg int (by omega), rfl⟩
  ·
   have h1 := dF h1
   refine cx_skip ?_
   refine cx_keep rfl rfl (cx_seq (cx_ops ?_))
   refine ax_q (q_mov rfl) ?_
   refine ax_q (q_mov rfl) ?_
   refine ax_nil (cx_keep rfl rfl ?_)
   refine cx_ret (ret0 rfl rfl ?_)
   exact ⟨congrArg int (by omega), rfl⟩


/- loop.example/g00332/laws.szTreeNodeS -/
def k_c_szTreeNodeS : XCode :=
 .seq (.ops [.op (some 4) (.mov (.k (.int .i64 0)))])
 (.keep [0, 1] (.seq (.ops [.op (some 6) (.mov (.t 1)),
   .op (some 7) (.mov (.t 0)),
   .op (some 8) (.lenS (.t 7)),
   .op (some 9) (.bin .sub (.t 6) (.t 8)),
   .op (some 1) (.mov (.t 9))])
 (.keep [0, 1] (.seq (.seq (.ops [.op (some 10) (.mov (.t 1)),
   .op (some 11) (.bin .lss (.t 10) (.k (.int .i64 0)))])
  (.keep [0, 1, 11] (.cond (.t 11)
  (.seq (.ops [.op (some 4) (.mov (.k (.int .i64 (-1))))])
   (.keep [4] (.ret)))
  (.skip))))
 (.keep [0, 1] (.seq (.seq (.ops [.op (some 5) (.mov (.k (.int .i64 0)))])
  (.keep [0, 1, 5] (.block 0 (.loop (.seq (.seq (.ops [.op (some 12) (.mov (.t 5)),
     .op (some 13) (.mov (.t 0)),
     .op (some 14) (.lenS (.t 13)),
     .op (some 15) (.bin .lss (.t 12) (.t 14))])
   (.keep [0, 1, 5, 15] (.cond (.t 15)
    (.skip)
    (.exit 0))))
   (.keep [0, 1, 5] (.seq (.block 1 (.seq (.ops [.op (some 18) (.mov (.t 0)),
     .op (some 19) (.mov (.t 5)),
     .op (some 20) (.iadr 3 (.t 18) (.t 19)),
     .op (some 21) (.loadN 3 (.t 20)),
     .op (some 22) (.mov (.t 1)),
     .call (some 23) 27 [.t 21, .t 22],
     .op (some 1) (.mov (.t 23))])
    (.keep [0, 1, 5] (.seq (.ops [.op (some 24) (.mov (.t 1)),
     .op (some 25) (.bin .lss (.t 24) (.k (.int .i64 0)))])
    (.keep [0, 1, 5, 25] (.cond (.t 25)
    (.seq (.ops [.op (some 4) (.mov (.k (.int .i64 (-1))))])
     (.keep [4] (.ret)))
    (.skip)))))))
   (.keep [0, 1, 5] (.ops [.op (some 16) (.mov (.t 5)),
    .op (some 17) (.bin .add (.t 16) (.k (.int .i64 1))),
    .op (some 5) (.mov (.t 17))])))))))))
 (.keep [1] (.seq (.ops [.op (some 26) (.mov (.t 1)),
   .op (some 4) (.mov (.t 26))])
 (.keep [4] (.ret))))))))))
theorem k_c_szTreeNodeS_fits : fitsF Try.prog 14 ⟨27, k_c_szTreeNodeS, [.t 4]⟩ = true := by kernel_rfl
theorem c_szTreeNodeS {xs : List INode} {left : Int} (h0 : 0 ≤ left) (hl : left ≤ 1048576) (hw : wfL INode.wf xs) : Con Try.prog noMv 14 [.d (.sl 3 (xs.map INode.row)), int left] [] (fun r h => r = int (szF left (szL INode.sz xs)) ∧ h = []) := by
 refine con_of2 k_c_szTreeNodeS_fits rfl fun C hP hmv => ?_
 unfold k_c_szTreeNodeS
 have hw1 := hw.1; have hw2 := hw.2
 have sp := szF_spec left (szL INode.sz xs)
 refine cx_seq (cx_ops ?_)
 refine ax_q (q_mov rfl) ?_
 refine ax_nil (cx_keep rfl rfl (cx_seq (cx_ops ?_)))
 refine ax_q (q_mov rfl) ?_
 refine ax_q (q_mov rfl) ?_
 refine ax_q (q_lenS_map rfl) ?_
 refine ax_q (q_sub rfl rfl (by omega)) ?_
 refine ax_q (q_mov rfl) ?_
 refine ax_nil (cx_keep rfl rfl (cx_seq (cx_seq (cx_ops ?_))))
 refine ax_q (q_mov rfl) ?_
 refine ax_q (q_ibin rfl rfl rfl) ?_
 refine ax_nil (cx_keep rfl rfl ?_)
 refine cx_cond rfl (fun h0 => ?_) (fun h0 => ?_)
 ·
  have h0 := dT h0
  refine cx_seq (cx_ops ?_)
  refine ax_q (q_mov rfl) ?_
  refine ax_nil (cx_keep rfl rfl ?_)
  refine cx_ret (ret0 rfl rfl ?_)
  exact ⟨congrArg int (by unfold szL at sp ⊢; omega), rfl⟩
 ·
  have h0 := dF h0
  refine cx_skip ?_
  refine cx_keep rfl rfl (cx_seq (cx_seq (cx_ops ?_)))
  refine ax_q (q_mov rfl) ?_
  refine ax_nil (cx_keep rfl rfl (cx_block ?_))
  refine cx_loopU (fun n k => k ≤ xs.length ∧ n = xs.length - k ∧ 0 ≤ left - xs.length - sumBy INode.sz (xs.take k)) (fun k : Nat => [(1, int (left - xs.length - sumBy INode.sz (xs.take k))), (5, int k)]) (fun _ => [])
   ⟨_, 0, ⟨Nat.zero_le _, rfl, by simp [sumBy]; omega⟩, ⟨⟨rfl, congrArg (fun n => some (int n)) (by simp only [List.take_zero, sumBy]; omega), rfl, trivial⟩, trivial⟩⟩ ?_
  rintro n k ⟨hk, rfl, hs⟩
  refine cx_seq (cx_seq (cx_ops ?_))
  refine ax_q (q_mov rfl) ?_
  refine ax_q (q_mov rfl) ?_
  refine ax_q (q_lenS_map rfl) ?_
  refine ax_q (q_ibin rfl rfl rfl) ?_
  refine ax_nil (cx_keep rfl rfl ?_)
  refine cx_cond rfl (fun h1 => ?_) (fun h1 => ?_)
  ·
   have h1 := dT h1
   have h1x : k < xs.length := by omega
   have hst := sumBy_take (f := INode.sz) h1x
   have hsl := sumBy_le (f := INode.sz) xs (k + 1)
   have hwk := hw2 _ (List.getElem_mem h1x)
   refine cx_skip ?_
   refine cx_keep rfl rfl (cx_seq (cx_block (cx_seq (cx_ops ?_))))
   refine ax_q (q_mov rfl) ?_
   refine ax_q (q_mov rfl) ?_
   refine ax_q (q_ix rfl rfl (mapAt h1x)) ?_
   first | refine ax_q (q_ldN rfl rfl rfl) ?_ | refine ax_q (q_loadN_ip rfl (Nat.le_refl _)) ?_
   refine ax_q (q_mov rfl) ?_
   have spk := szF_spec (left - xs.length - sumBy INode.sz (xs.take k)) (INode.sz xs[k])
   refine ax_call rfl (vc_pure0 (c_szTreeNode  ?_ ?_ ?_) hP rfl rfl ?_)
   ·
    assumption
   ·
    first | assumption | omega
   ·
    assumption
   refine ax_q (q_mov rfl) ?_
   refine ax_nil (cx_keep rfl rfl (cx_seq (cx_ops ?_)))
   refine ax_q (q_mov rfl) ?_
   refine ax_q (q_ibin rfl rfl rfl) ?_
   refine ax_nil (cx_keep rfl rfl ?_)
   refine cx_cond rfl (fun h2 => ?_) (fun h2 => ?_)
   ·
    have h2 := dT h2
    refine cx_seq (cx_ops ?_)
    refine ax_q (q_mov rfl) ?_
    refine ax_nil (cx_keep rfl rfl ?_)
    refine cx_ret (ret0 rfl rfl ?_)
    exact ⟨congrArg int (by unfold szL at sp ⊢; omega), rfl⟩
   ·
    have h2 := dF h2
    have e9 : szF (left - xs.length - sumBy INode.sz (xs.take k)) (INode.sz xs[k]) = left - xs.length - sumBy INode.sz (xs.take (k + 1)) := by omega
    refine cx_skip ?_
    refine cx_keep rfl rfl (cx_ops ?_)
    refine ax_q (q_mov rfl) ?_
    refine ax_q (q_add rfl rfl (by omega)) ?_
    refine ax_q (q_mov rfl) ?_
    refine ax_nil ?_
    refine ⟨_, k + 1, by omega, ⟨by omega, rfl, by omega⟩, ?_⟩
    rw [e9]
    exact by repeat constructor
  ·
   have h1 := dF h1
   refine cx_exit rfl ?_
   refine cx_keep rfl rfl (cx_seq (cx_ops ?_))
   refine ax_q (q_mov rfl) ?_
   refine ax_q (q_mov rfl) ?_
   refine ax_nil (cx_keep rfl rfl ?_)
   refine cx_ret (ret0 rfl rfl ?_)
   have hk2 : k = xs.length := by omega
   subst hk2; rw [List.take_length] at hs ⊢
   exact ⟨congrArg int (by unfold szL at sp ⊢; omega), rfl⟩


/- loop.example/g00332/laws.szTree -/
def k_c_szTree : XCode :=
 .seq (.ops [.op (some 2) (.box (.t 0)),
   .op (some 4) (.mov (.k (.int .i64 0)))])
 (.keep [1, 2] (.seq (.ops [.op (some 5) (.fadr (.t 2) 1),
   .op (some 6) (.load1 (.t 5)),
   .op (some 7) (.mov (.t 1)),
   .call (some 8) 14 [.t 6, .t 7],
   .op (some 1) (.mov (.t 8))])
 (.keep [1] (.seq (.seq (.ops [.op (some 9) (.mov (.t 1)),
   .op (some 10) (.bin .lss (.t 9) (.k (.int .i64 0)))])
  (.keep [1, 10] (.cond (.t 10)
  (.seq (.ops [.op (some 4) (.mov (.k (.int .i64 (-1))))])
   (.keep [4] (.ret)))
  (.skip))))
 (.keep [1] (.seq (.ops [.op (some 11) (.mov (.t 1)),
   .op (some 4) (.mov (.t 11))])
 (.keep [4] (.ret))))))))
theorem k_c_szTree_fits : fitsF Try.prog 5 ⟨12, k_c_szTree, [.t 4]⟩ = true := by kernel_rfl
theorem c_szTree {a : ITree} {left : Int} (h0 : 0 ≤ left) (hl : left ≤ 1048576) (hw : a.wf) : Con Try.prog noMv 5 [a.av, int left] [] (fun r h => r = int (szF left (ITree.sz a)) ∧ h = []) := by
 refine con_of2 k_c_szTree_fits rfl fun C hP hmv => ?_
 unfold k_c_szTree
 have sp := szF_spec left (ITree.sz a)
 have e0 : ITree.sz a = szL INode.sz a.Nodes := rfl
 rw [e0] at sp ⊢
 obtain ⟨w0, w1⟩ := hw
 refine cx_seq (cx_ops ?_)
 refine ax_e (e_box rfl rfl (by decide) rfl rfl rfl) ?_
 refine ax_q (q_mov rfl) ?_
 refine ax_nil (cx_keep rfl rfl (cx_seq (cx_ops ?_)))
 refine ax_q (q_fadr_ptr rfl) ?_
 refine ax_q (q_load1_ptr rfl rfl rfl) ?_
 refine ax_q (q_mov rfl) ?_
 have q0 := szF_spec left (szL INode.sz a.Nodes)
 refine ax_call rfl (vc_pure0 (c_szTreeNodeS  ?_ ?_ ?_) hP rfl rfl ?_)
 ·
  assumption
 ·
  assumption
 ·
  assumption
 refine ax_q (q_mov rfl) ?_
 refine ax_nil (cx_keep rfl rfl (cx_seq (cx_seq (cx_ops ?_))))
 refine ax_q (q_mov rfl) ?_
 refine ax_q (q_ibin rfl rfl rfl) ?_
 refine ax_nil (cx_keep rfl rfl ?_)
 refine cx_cond rfl (fun h0 => ?_) (fun h0 => ?_)
 ·
  have h0 := dT h0
  refine cx_seq (cx_ops ?_)
  refine ax_q (q_mov rfl) ?_
  refine ax_nil (cx_keep rfl rfl ?_)
  refine cx_ret (ret0 rfl rfl ?_)
  exact ⟨congrArg int (by omega), rfl⟩
 ·
  have h0 := dF h0
  refine cx_skip ?_
  refine cx_keep rfl rfl (cx_seq (cx_ops ?_))
  refine ax_q (q_mov rfl) ?_
  refine ax_q (q_mov rfl) ?_
  refine ax_nil (cx_keep rfl rfl ?_)
  refine cx_ret (ret0 rfl rfl ?_)
  exact ⟨congrArg int (by omega), rfl⟩


/- loop.example/g00332/laws.toStringS -/
def k_c_toStringS : XCode :=
 .seq (.ops [.op (some 2) (.mov (.k (.nils 1)))])
 (.keep [0] (.seq (.ops [.op (some 5) (.mov (.t 0)),
   .op (some 6) (.lenS (.t 5)),
   .op (some 7) (.mkslice 1 16 [.str []] (.t 6) (.t 6)),
   .op (some 3) (.mov (.t 7))])
 (.keep [0, 3] (.seq (.seq (.ops [.op (some 4) (.mov (.k (.int .i64 0)))])
  (.keep [0, 3, 4] (.block 0 (.loop (.seq (.seq (.ops [.op (some 8) (.mov (.t 4)),
     .op (some 9) (.mov (.t 0)),
     .op (some 10) (.lenS (.t 9)),
     .op (some 11) (.bin .lss (.t 8) (.t 10))])
   (.keep [0, 3, 4, 11] (.cond (.t 11)
    (.skip)
    (.exit 0))))
   (.keep [0, 3, 4] (.seq (.block 1 (.ops [.op (some 14) (.mov (.t 3)),
     .op (some 15) (.mov (.t 4)),
     .op (some 16) (.mov (.t 0)),
     .op (some 17) (.mov (.t 4)),
     .op (some 18) (.iadr 1 (.t 16) (.t 17)),
     .op (some 19) (.load1 (.t 18)),
     .op (some 20) (.iadr 1 (.t 14) (.t 15)),
     .op none (.store 1 (.t 20) (.t 19))]))
   (.keep [0, 3, 4] (.ops [.op (some 12) (.mov (.t 4)),
    .op (some 13) (.bin .add (.t 12) (.k (.int .i64 1))),
    .op (some 4) (.mov (.t 13))])))))))))
 (.keep [3] (.seq (.ops [.op (some 21) (.mov (.t 3)),
   .op (some 2) (.mov (.t 21))])
 (.keep [2] (.ret))))))))
theorem k_c_toStringS_fits : fitsF Try.prog 52 ⟨22, k_c_toStringS, [.t 2]⟩ = true := by kernel_rfl
theorem c_toStringS {xs : List Str} (hw : xs.length ≤ 1048576) : Con Try.prog noMv 52 [.d (.sl 1 (xs.map strRow))] [] (fun r h => r = .osl 0 1 0 xs.length ∧ h = [(0, .rows 1 (xs.map strRow))]) := by
 refine con_of2 k_c_toStringS_fits rfl fun C hP hmv => ?_
 unfold k_c_toStringS
 refine cx_seq (cx_ops ?_)
 refine ax_q (q_mov rfl) ?_
 refine ax_nil (cx_keep rfl rfl (cx_seq (cx_ops ?_)))
 refine ax_q (q_mov rfl) ?_
 refine ax_q (q_lenS_map rfl) ?_
 refine ax_ee (e_mkslice rfl rfl rfl (by omega) (by omega) (by omega) (by decide) rfl rfl) (by rw [Int.toNat_natCast]) ?_
 refine ax_q (q_mov rfl) ?_
 refine ax_nil (cx_keep rfl rfl (cx_seq (cx_seq (cx_ops ?_))))
 refine ax_q (q_mov rfl) ?_
 refine ax_nil (cx_keep rfl rfl (cx_block ?_))
 refine cx_loopU (fun n k => k ≤ xs.length ∧ n = xs.length - k) (fun k : Nat => [(4, int k)]) (fun k => [(7, .rows 1 ((xs.take k).map strRow ++ List.replicate (xs.length - k) [.str []]))]) ⟨_, 0, ⟨Nat.zero_le _, rfl⟩, by repeat constructor⟩ ?_
 rintro n k ⟨hk, rfl⟩
 refine cx_seq (cx_seq (cx_ops ?_))
 refine ax_q (q_mov rfl) ?_
 refine ax_q (q_mov rfl) ?_
 refine ax_q (q_lenS_map rfl) ?_
 refine ax_q (q_ibin rfl rfl rfl) ?_
 refine ax_nil (cx_keep rfl rfl ?_)
 refine cx_cond rfl (fun h0 => ?_) (fun h0 => ?_)
 ·
  have h0 := dT h0
  have h1x : k < xs.length := by omega
  refine cx_skip ?_
  refine cx_keep rfl rfl (cx_seq (cx_block (cx_ops ?_)))
  refine ax_q (q_mov rfl) ?_
  refine ax_q (q_mov rfl) ?_
  refine ax_q (q_mov rfl) ?_
  refine ax_q (q_mov rfl) ?_
  refine ax_q (q_ix rfl rfl (mapAt h1x)) ?_
  first | refine ax_q (q_load1_ptr rfl rfl rfl) ?_ | refine ax_q (q_load1_ip rfl) ?_
  refine ax_q (q_ixo rfl rfl h1x) ?_
  refine ax_e (e_str (q := strRow xs[k]) rfl rfl rfl rfl rfl rfl (fillAtL h1x) rfl rfl (fillSetL h1x)) ?_
  refine ax_nil (cx_keep rfl rfl (cx_ops ?_))
  refine ax_q (q_mov rfl) ?_
  refine ax_q (q_add rfl rfl (by omega)) ?_
  refine ax_q (q_mov rfl) ?_
  refine ax_nil ?_
  exact ⟨_, k + 1, by omega, ⟨by omega, rfl⟩, by repeat constructor⟩
 ·
  have h0 := dF h0
  refine cx_exit rfl ?_
  refine cx_keep rfl rfl (cx_seq (cx_ops ?_))
  refine ax_q (q_mov rfl) ?_
  refine ax_q (q_mov rfl) ?_
  refine ax_nil (cx_keep rfl rfl ?_)
  refine cx_ret (retN (fun _ => 0) [7] rfl rfl rfl rfl rfl ?_)
  exact ⟨rfl, by rw [show k = xs.length from by omega, List.take_length, Nat.sub_self, List.replicate_zero, List.append_nil]; rfl⟩


/- loop.example/g00332/laws.toIntS -/
def k_c_toIntS : XCode :=
 .seq (.ops [.op (some 2) (.mov (.k (.nils 1)))])
 (.keep [0] (.seq (.ops [.op (some 5) (.mov (.t 0)),
   .op (some 6) (.lenS (.t 5)),
   .op (some 7) (.mkslice 1 8 [.int .i64 0] (.t 6) (.t 6)),
   .op (some 3) (.mov (.t 7))])
 (.keep [0, 3] (.seq (.seq (.ops [.op (some 4) (.mov (.k (.int .i64 0)))])
  (.keep [0, 3, 4] (.block 0 (.loop (.seq (.seq (.ops [.op (some 8) (.mov (.t 4)),
     .op (some 9) (.mov (.t 0)),
     .op (some 10) (.lenS (.t 9)),
     .op (some 11) (.bin .lss (.t 8) (.t 10))])
   (.keep [0, 3, 4, 11] (.cond (.t 11)
    (.skip)
    (.exit 0))))
   (.keep [0, 3, 4] (.seq (.block 1 (.ops [.op (some 14) (.mov (.t 3)),
     .op (some 15) (.mov (.t 4)),
     .op (some 16) (.mov (.t 0)),
     .op (some 17) (.mov (.t 4)),
     .op (some 18) (.iadr 1 (.t 16) (.t 17)),
     .op (some 19) (.load1 (.t 18)),
     .op (some 20) (.iadr 1 (.t 14) (.t 15)),
     .op none (.store 1 (.t 20) (.t 19))]))
   (.keep [0, 3, 4] (.ops [.op (some 12) (.mov (.t 4)),
    .op (some 13) (.bin .add (.t 12) (.k (.int .i64 1))),
    .op (some 4) (.mov (.t 13))])))))))))
 (.keep [3] (.seq (.ops [.op (some 21) (.mov (.t 3)),
   .op (some 2) (.mov (.t 21))])
 (.keep [2] (.ret))))))))
theorem k_c_toIntS_fits : fitsF Try.prog 53 ⟨22, k_c_toIntS, [.t 2]⟩ = true := by kernel_rfl
theorem c_toIntS {xs : List Int} (hw : xs.length ≤ 1048576) : Con Try.prog noMv 53 [.d (.sl 1 (xs.map intRow))] [] (fun r h => r = .osl 0 1 0 xs.length ∧ h = [(0, .rows 1 (xs.map intRow))]) := by
 refine con_of2 k_c_toIntS_fits rfl fun C hP hmv => ?_
 unfold k_c_toIntS
 refine cx_seq (cx_ops ?_)
 refine ax_q (q_mov rfl) ?_
 refine ax_nil (cx_keep rfl rfl (cx_seq (cx_ops ?_)))
 refine ax_q (q_mov rfl) ?_
 refine ax_q (q_lenS_map rfl) ?_
 refine ax_ee (e_mkslice rfl rfl rfl (by omega) (by omega) (by omega) (by decide) rfl rfl) (by rw [Int.toNat_natCast]) ?_
 refine ax_q (q_mov rfl) ?_
 refine ax_nil (cx_keep rfl rfl (cx_seq (cx_seq (cx_ops ?_))))
 refine ax_q (q_mov rfl) ?_
 refine ax_nil (cx_keep rfl rfl (cx_block ?_))
 refine cx_loopU (fun n k => k ≤ xs.length ∧ n = xs.length - k) (fun k : Nat => [(4, int k)]) (fun k => [(7, .rows 1 ((xs.take k).map intRow ++ List.replicate (xs.length - k) [.int .i64 0]))]) ⟨_, 0, ⟨Nat.zero_le _, rfl⟩, by repeat constructor⟩ ?_
 rintro n k ⟨hk, rfl⟩
 refine cx_seq (cx_seq (cx_ops ?_))
 refine ax_q (q_mov rfl) ?_
 refine ax_q (q_mov rfl) ?_
 refine ax_q (q_lenS_map rfl) ?_
 refine ax_q (q_ibin rfl rfl rfl) ?_
 refine ax_nil (cx_keep rfl rfl ?_)
 refine cx_cond rfl (fun h0 => ?_) (fun h0 => ?_)
 ·
  have h0 := dT h0
  have h1x : k < xs.length := by omega
  refine cx_skip ?_
  refine cx_keep rfl rfl (cx_seq (cx_block (cx_ops ?_)))
  refine ax_q (q_mov rfl) ?_
  refine ax_q (q_mov rfl) ?_
  refine ax_q (q_mov rfl) ?_
  refine ax_q (q_mov rfl) ?_
  refine ax_q (q_ix rfl rfl (mapAt h1x)) ?_
  first | refine ax_q (q_load1_ptr rfl rfl rfl) ?_ | refine ax_q (q_load1_ip rfl) ?_
  refine ax_q (q_ixo rfl rfl h1x) ?_
  refine ax_e (e_str (q := intRow xs[k]) rfl rfl rfl rfl rfl rfl (fillAtL h1x) rfl rfl (fillSetL h1x)) ?_
  refine ax_nil (cx_keep rfl rfl (cx_ops ?_))
  refine ax_q (q_mov rfl) ?_
  refine ax_q (q_add rfl rfl (by omega)) ?_
  refine ax_q (q_mov rfl) ?_
  refine ax_nil ?_
  exact ⟨_, k + 1, by omega, ⟨by omega, rfl⟩, by repeat constructor⟩
 ·
  have h0 := dF h0
  refine cx_exit rfl ?_
  refine cx_keep rfl rfl (cx_seq (cx_ops ?_))
  refine ax_q (q_mov rfl) ?_
  refine ax_q (q_mov rfl) ?_
  refine ax_nil (cx_keep rfl rfl ?_)
  refine cx_ret (retN (fun _ => 0) [7] rfl rfl rfl rfl rfl ?_)
  exact ⟨rfl, by rw [show k = xs.length from by omega, List.take_length, Nat.sub_self, List.replicate_zero, List.append_nil]; rfl⟩


/- loop.example/g00332/laws.toTreeNode -/
def k_c_toTreeNode : XCode :=
 .seq (.ops [.op (some 1) (.box (.t 0)),
   .op (some 2) (.alloc [.bool false, .nils 1, .nils 1])])
 (.keep [1, 2] (.seq (.ops [.op (some 3) (.alloc [.bool false, .nils 1, .nils 1])])
 (.keep [1, 2, 3] (.seq (.ops [.op (some 4) (.fadr (.t 1) 0),
   .op (some 5) (.load1 (.t 4)),
   .op (some 6) (.fadr (.t 3) 0),
   .op none (.store 1 (.t 6) (.t 5))])
 (.keep [1, 2, 3] (.seq (.ops [.op (some 7) (.fadr (.t 1) 1),
   .op (some 8) (.load1 (.t 7)),
   .call (some 9) 52 [.t 8],
   .op (some 10) (.fadr (.t 3) 1),
   .op none (.store 1 (.t 10) (.t 9))])
 (.keep [1, 2, 3] (.seq (.ops [.op (some 11) (.fadr (.t 1) 2),
   .op (some 12) (.load1 (.t 11)),
   .call (some 13) 53 [.t 12],
   .op (some 14) (.fadr (.t 3) 2),
   .op none (.store 1 (.t 14) (.t 13))])
 (.keep [2, 3] (.seq (.ops [.op (some 15) (.loadN 3 (.t 3)),
   .op none (.store 3 (.t 2) (.t 15))])
 (.keep [2] (.ret))))))))))))
theorem k_c_toTreeNode_fits : fitsF Try.prog 31 ⟨16, k_c_toTreeNode, [.cN 2 3]⟩ = true := by kernel_rfl
theorem c_toTreeNode {a : INode} (hw0 : a.Keys.length ≤ 1048576) (hw1 : a.Kids.length ≤ 1048576) : Con Try.prog noMv 31 [a.av] [] (fun r h => r = a.avO 0 1 ∧ h = a.hO 0 1) := by
 refine con_of2 k_c_toTreeNode_fits rfl fun C hP hmv => ?_
 unfold k_c_toTreeNode
 refine cx_seq (cx_ops ?_)
 refine ax_e (e_box rfl rfl (by decide) rfl rfl rfl) ?_
 refine ax_e (e_alloc (by decide) rfl rfl) ?_
 refine ax_nil (cx_keep rfl rfl (cx_seq (cx_ops ?_)))
 refine ax_e (e_alloc (by decide) rfl rfl) ?_
 refine ax_nil (cx_keep rfl rfl (cx_seq (cx_ops ?_)))
 refine ax_q (q_fadr_ptr rfl) ?_
 refine ax_q (q_load1_ptr rfl rfl rfl) ?_
 refine ax_q (q_fadr_ptr rfl) ?_
 refine ax_e (e_st rfl rfl rfl rfl rfl rfl rfl) ?_
 refine ax_nil (cx_keep rfl rfl (cx_seq (cx_ops ?_)))
 refine ax_q (q_fadr_ptr rfl) ?_
 refine ax_q (q_load1_ptr rfl rfl rfl) ?_
 refine ax_call rfl (vc_pure (c_toStringS  ?_) hP rfl ?_)
 ·
  assumption
 rintro r h ⟨rfl, rfl⟩
 refine ⟨fun i => 9 + 200 * i, [0], ⟨rfl, rfl, rfl, rfl, rfl, (by first | exact (fun h => absurd h Bool.false_ne_true) | exact (fun _ => ⟨rfl, (noisl_of (by repeat (first | exact trivial | refine ⟨noisl_map (fun _ => rfl), ?_⟩ | refine ⟨?_, ?_⟩)))⟩))⟩, ?_⟩
 skip
 refine ax_q (q_fadr_ptr rfl) ?_
 refine ax_e (e_st rfl rfl rfl rfl rfl rfl rfl) ?_
 refine ax_nil (cx_keep rfl rfl (cx_seq (cx_ops ?_)))
 refine ax_q (q_fadr_ptr rfl) ?_
 refine ax_q (q_load1_ptr rfl rfl rfl) ?_
 refine ax_call rfl (vc_pure (c_toIntS  ?_) hP rfl ?_)
 ·
  assumption
 rintro r h ⟨rfl, rfl⟩
 refine ⟨fun i => 13 + 200 * i, [0], ⟨rfl, rfl, rfl, rfl, rfl, (by first | exact (fun h => absurd h Bool.false_ne_true) | exact (fun _ => ⟨rfl, (noisl_of (by repeat (first | exact trivial | refine ⟨noisl_map (fun _ => rfl), ?_⟩ | refine ⟨?_, ?_⟩)))⟩))⟩, ?_⟩
 skip
 refine ax_q (q_fadr_ptr rfl) ?_
 refine ax_e (e_st rfl rfl rfl rfl rfl rfl rfl) ?_
 refine ax_nil (cx_keep rfl rfl (cx_seq (cx_ops ?_)))
 refine ax_q (q_ldN rfl rfl rfl) ?_
 refine ax_e (e_st rfl rfl rfl rfl rfl rfl rfl) ?_
 refine ax_nil (cx_keep rfl rfl ?_)
 refine cx_ret (retN (fun e => bif Nat.beq e 13 then 1 else 0) [9, 13] rfl rfl rfl rfl rfl ?_)
 exact ⟨rfl, rfl⟩


/- loop.example/g00332/laws.toTreeNodeS -/
def k_c_toTreeNodeS : XCode :=
 .seq (.ops [.op (some 2) (.mov (.k (.nils 3)))])
 (.keep [0] (.seq (.ops [.op (some 5) (.mov (.t 0)),
   .op (some 6) (.lenS (.t 5)),
   .op (some 7) (.mkslice 3 56 [.bool false, .nils 1, .nils 1] (.t 6) (.t 6)),
   .op (some 3) (.mov (.t 7))])
 (.keep [0, 3] (.seq (.seq (.ops [.op (some 4) (.mov (.k (.int .i64 0)))])
  (.keep [0, 3, 4] (.block 0 (.loop (.seq (.seq (.ops [.op (some 8) (.mov (.t 4)),
     .op (some 9) (.mov (.t 0)),
     .op (some 10) (.lenS (.t 9)),
     .op (some 11) (.bin .lss (.t 8) (.t 10))])
   (.keep [0, 3, 4, 11] (.cond (.t 11)
    (.skip)
    (.exit 0))))
   (.keep [0, 3, 4] (.seq (.block 1 (.ops [.op (some 14) (.mov (.t 3)),
     .op (some 15) (.mov (.t 4)),
     .op (some 16) (.mov (.t 0)),
     .op (some 17) (.mov (.t 4)),
     .op (some 18) (.iadr 3 (.t 16) (.t 17)),
     .op (some 19) (.loadN 3 (.t 18)),
     .call (some 20) 31 [.t 19],
     .op (some 21) (.iadr 3 (.t 14) (.t 15)),
     .op none (.store 3 (.t 21) (.t 20))]))
   (.keep [0, 3, 4] (.ops [.op (some 12) (.mov (.t 4)),
    .op (some 13) (.bin .add (.t 12) (.k (.int .i64 1))),
    .op (some 4) (.mov (.t 13))])))))))))
 (.keep [3] (.seq (.ops [.op (some 22) (.mov (.t 3)),
   .op (some 2) (.mov (.t 22))])
 (.keep [2] (.ret))))))))
theorem k_c_toTreeNodeS_fits : fitsF Try.prog 18 ⟨23, k_c_toTreeNodeS, [.t 2]⟩ = true := by kernel_rfl
theorem c_toTreeNodeS {xs : List INode} (hw : xs.length ≤ 1048576) (hs : ∀ n ∈ xs, n.Keys.length ≤ 1048576 ∧ n.Kids.length ≤ 1048576) : Con Try.prog noMv 18 [.d (.sl 3 (xs.map INode.row))] [] (fun r h => r = .osl 0 3 0 xs.length ∧ h = [(0, .deep 3 (xs.map INode.row) [])]) := by
 refine con_of2 k_c_toTreeNodeS_fits rfl fun C hP hmv => ?_
 unfold k_c_toTreeNodeS
 refine cx_seq (cx_ops ?_)
 refine ax_q (q_mov rfl) ?_
 refine ax_nil (cx_keep rfl rfl (cx_seq (cx_ops ?_)))
 refine ax_q (q_mov rfl) ?_
 refine ax_q (q_lenS_map rfl) ?_
 refine ax_ee (e_mkslice rfl rfl rfl (by omega) (by omega) (by omega) (by decide) rfl rfl) (by rw [Int.toNat_natCast]) ?_
 refine ax_wk (wk_deepz 7 (rs' := List.replicate xs.length [.bool false, .nilp, .nilp]) rfl (by rw [List.map_replicate]; rfl)) ?_
 refine ax_q (q_mov rfl) ?_
 refine ax_nil (cx_keep rfl rfl (cx_seq (cx_seq (cx_ops ?_))))
 refine ax_q (q_mov rfl) ?_
 refine ax_nil (cx_keep rfl rfl (cx_block ?_))
 refine cx_loopU (fun n k => k ≤ xs.length ∧ n = xs.length - k) (fun k : Nat => [(4, int k)]) (fun k => [(7, .deep 3 ((xs.take k).map INode.row ++ List.replicate (xs.length - k) [.bool false, .nilp, .nilp]) [])]) ⟨_, 0, ⟨Nat.zero_le _, rfl⟩, by repeat constructor⟩ ?_
 rintro n k ⟨hk, rfl⟩
 refine cx_seq (cx_seq (cx_ops ?_))
 refine ax_q (q_mov rfl) ?_
 refine ax_q (q_mov rfl) ?_
 refine ax_q (q_lenS_map rfl) ?_
 refine ax_q (q_ibin rfl rfl rfl) ?_
 refine ax_nil (cx_keep rfl rfl ?_)
 refine cx_cond rfl (fun h0 => ?_) (fun h0 => ?_)
 ·
  have h0 := dT h0
  have h1x : k < xs.length := by omega
  have e9 := fillSetL (row := INode.row) (z := [.bool false, .nilp, .nilp]) h1x
  obtain ⟨hs1, hs2⟩ := hs _ (List.getElem_mem h1x)
  refine cx_skip ?_
  refine cx_keep rfl rfl (cx_seq (cx_block (cx_ops ?_)))
  refine ax_q (q_mov rfl) ?_
  refine ax_q (q_mov rfl) ?_
  refine ax_q (q_mov rfl) ?_
  refine ax_q (q_mov rfl) ?_
  refine ax_q (q_ix rfl rfl (mapAt h1x)) ?_
  first | refine ax_q (q_ldN rfl rfl rfl) ?_ | refine ax_q (q_loadN_ip rfl (Nat.le_refl _)) ?_
  refine ax_call rfl (vc_pure (c_toTreeNode (a := xs[k]) ?_ ?_) hP rfl ?_)
  ·
   assumption
  ·
   assumption
  rintro r h ⟨rfl, rfl⟩
  refine ⟨fun i => 20 + 200 * i, [0, 1], ⟨rfl, rfl, rfl, rfl, rfl, (by first | exact (fun h => absurd h Bool.false_ne_true) | exact (fun _ => ⟨rfl, (noisl_of (by repeat (first | exact trivial | refine ⟨noisl_map (fun _ => rfl), ?_⟩ | refine ⟨?_, ?_⟩)))⟩))⟩, ?_⟩
  skip
  refine ax_q (q_ixo rfl rfl h1x) ?_
  refine ax_e (e_strDr (ds := INode.row xs[k]) (ks := [(1, 20), (2, 220)]) rfl rfl rfl rfl (.flat (.flat rfl) (.own (.own rfl (by rw [List.length_map])) (.own (.own rfl (by rw [List.length_map])) .nil))) (by decide) rfl (fillAtL h1x) rfl e9) ?_
  refine ax_wk (wk_closeE 7 20 k 1 (row := INode.row xs[k]) (xs := xs[k].Keys.map strRow) (ys := xs[k].Keys.map strRow) (hs := [(k, 2, 220)]) rfl rfl (fillAt2 h1x) rfl rfl (flat_map (fun _ => rfl)) hole_21 rfl rfl (set_same (fillAt2 h1x))) ?_
  refine ax_wk (wk_closeE 7 220 k 2 (row := INode.row xs[k]) (xs := xs[k].Kids.map intRow) (ys := xs[k].Kids.map intRow) (hs := []) rfl rfl (fillAt2 h1x) rfl rfl (flat_map (fun _ => rfl)) rfl rfl rfl (set_same (fillAt2 h1x))) ?_
  refine ax_nil (cx_keep rfl rfl (cx_ops ?_))
  refine ax_q (q_mov rfl) ?_
  refine ax_qe (r' := int ((k + 1 : Nat) : Int)) (q_ibin rfl rfl rfl) (by rw [wi (by omega) (by omega)]; rfl) ?_
  refine ax_q (q_mov rfl) ?_
  refine ax_nil ?_
  exact ⟨_, k + 1, by omega, ⟨by omega, rfl⟩, by repeat constructor⟩
 ·
  have h0 := dF h0
  refine cx_exit rfl ?_
  refine cx_keep rfl rfl (cx_seq (cx_ops ?_))
  refine ax_q (q_mov rfl) ?_
  refine ax_q (q_mov rfl) ?_
  refine ax_nil (cx_keep rfl rfl ?_)
  rw [show k = xs.length from by omega, List.take_length, Nat.sub_self, List.replicate_zero, List.append_nil]
  refine cx_ret (retN (fun _ => 0) [7] rfl rfl rfl rfl rfl ?_)
  exact ⟨rfl, rfl⟩


/- loop.example/g00332/laws.toTree -/
def k_c_toTree : XCode :=
 .seq (.ops [.op (some 1) (.box (.t 0)),
   .op (some 2) (.alloc [.int .i64 0, .nils 3])])
 (.keep [1, 2] (.seq (.ops [.op (some 3) (.alloc [.int .i64 0, .nils 3])])
 (.keep [1, 2, 3] (.seq (.ops [.op (some 4) (.fadr (.t 1) 0),
   .op (some 5) (.load1 (.t 4)),
   .op (some 6) (.fadr (.t 3) 0),
   .op none (.store 1 (.t 6) (.t 5))])
 (.keep [1, 2, 3] (.seq (.ops [.op (some 7) (.fadr (.t 1) 1),
   .op (some 8) (.load1 (.t 7)),
   .call (some 9) 18 [.t 8],
   .op (some 10) (.fadr (.t 3) 1),
   .op none (.store 1 (.t 10) (.t 9))])
 (.keep [2, 3] (.seq (.ops [.op (some 11) (.loadN 2 (.t 3)),
   .op none (.store 2 (.t 2) (.t 11))])
 (.keep [2] (.ret))))))))))
theorem k_c_toTree_fits : fitsF Try.prog 7 ⟨12, k_c_toTree, [.cN 2 2]⟩ = true := by kernel_rfl
theorem c_toTree {a : ITree} (hw : a.Nodes.length ≤ 1048576) (hs : ∀ n ∈ a.Nodes, n.Keys.length ≤ 1048576 ∧ n.Kids.length ≤ 1048576) : Con Try.prog noMv 7 [a.av] [] (fun r h => r = .agg [.d (.int .i64 a.Root), .osl 0 3 0 a.Nodes.length] ∧ h = [(0, .deep 3 (a.Nodes.map INode.row) [])]) := by
 refine con_of2 k_c_toTree_fits rfl fun C hP hmv => ?_
 unfold k_c_toTree
 refine cx_seq (cx_ops ?_)
 refine ax_e (e_box rfl rfl (by decide) rfl rfl rfl) ?_
 refine ax_e (e_alloc (by decide) rfl rfl) ?_
 refine ax_nil (cx_keep rfl rfl (cx_seq (cx_ops ?_)))
 refine ax_e (e_alloc (by decide) rfl rfl) ?_
 refine ax_nil (cx_keep rfl rfl (cx_seq (cx_ops ?_)))
 refine ax_q (q_fadr_ptr rfl) ?_
 refine ax_q (q_load1_ptr rfl rfl rfl) ?_
 refine ax_q (q_fadr_ptr rfl) ?_
 refine ax_e (e_st rfl rfl rfl rfl rfl rfl rfl) ?_
 refine ax_nil (cx_keep rfl rfl (cx_seq (cx_ops ?_)))
 refine ax_q (q_fadr_ptr rfl) ?_
 refine ax_q (q_load1_ptr rfl rfl rfl) ?_
 refine ax_call rfl (vc_pure (c_toTreeNodeS  ?_ ?_) hP rfl ?_)
 ·
  assumption
 ·
  assumption
 rintro r h ⟨rfl, rfl⟩
 refine ⟨fun i => 9 + 200 * i, [0], ⟨rfl, rfl, rfl, rfl, rfl, (by first | exact (fun h => absurd h Bool.false_ne_true) | exact (fun _ => ⟨rfl, (noisl_of (by repeat (first | exact trivial | refine ⟨noisl_map (fun _ => rfl), ?_⟩ | refine ⟨?_, ?_⟩)))⟩))⟩, ?_⟩
 skip
 refine ax_q (q_fadr_ptr rfl) ?_
 refine ax_e (e_st rfl rfl rfl rfl rfl rfl rfl) ?_
 refine ax_nil (cx_keep rfl rfl (cx_seq (cx_ops ?_)))
 refine ax_q (q_ldN rfl rfl rfl) ?_
 refine ax_e (e_st rfl rfl rfl rfl rfl rfl rfl) ?_
 refine ax_nil (cx_keep rfl rfl ?_)
 refine cx_ret (retN (fun _ => 0) [9] rfl rfl rfl rfl rfl ?_)
 exact ⟨rfl, rfl⟩


/- loop.example/g00332/laws.eqStringS -/
def k_c_eqStringS : XCode :=
 .seq (.ops [.op (some 4) (.mov (.k (.bool false)))])
 (.keep [0, 1] (.seq (.seq (.ops [.op (some 6) (.mov (.t 0)),
   .op (some 7) (.lenS (.t 6)),
   .op (some 8) (.mov (.t 1)),
   .op (some 9) (.lenS (.t 8)),
   .op (some 10) (.bin .neq (.t 7) (.t 9))])
  (.keep [0, 1, 10] (.cond (.t 10)
  (.seq (.ops [.op (some 4) (.mov (.k (.bool false)))])
   (.keep [4] (.ret)))
  (.skip))))
 (.keep [0, 1] (.seq (.seq (.ops [.op (some 5) (.mov (.k (.int .i64 0)))])
  (.keep [0, 1, 5] (.block 0 (.loop (.seq (.seq (.ops [.op (some 11) (.mov (.t 5)),
     .op (some 12) (.mov (.t 0)),
     .op (some 13) (.lenS (.t 12)),
     .op (some 14) (.bin .lss (.t 11) (.t 13))])
   (.keep [0, 1, 5, 14] (.cond (.t 14)
    (.skip)
    (.exit 0))))
   (.keep [0, 1, 5] (.seq (.block 1 (.seq (.draw [.op (some 17) (.mov (.t 0)),
     .op (some 18) (.mov (.t 5)),
     .op (some 19) (.iadr 1 (.t 17) (.t 18)),
     .op (some 20) (.load1 (.t 19)),
     .op (some 21) (.mov (.t 1)),
     .op (some 22) (.mov (.t 5)),
     .op (some 23) (.iadr 1 (.t 21) (.t 22)),
     .op (some 24) (.load1 (.t 23)),
     .op (some 25) (.bin .neq (.t 20) (.t 24))])
    (.keep [0, 1, 5, 25] (.cond (.t 25)
    (.seq (.ops [.op (some 4) (.mov (.k (.bool false)))])
     (.keep [4] (.ret)))
    (.skip)))))
   (.keep [0, 1, 5] (.ops [.op (some 15) (.mov (.t 5)),
    .op (some 16) (.bin .add (.t 15) (.k (.int .i64 1))),
    .op (some 5) (.mov (.t 16))])))))))))
 (.keep [] (.seq (.ops [.op (some 4) (.mov (.k (.bool true)))])
 (.keep [4] (.ret))))))))
theorem k_c_eqStringS_fits : fitsF Try.prog 61 ⟨26, k_c_eqStringS, [.t 4]⟩ = true := by kernel_rfl
theorem c_eqStringS {xs ys : List Str} (hw : xs.length ≤ 9223372036854775807) : Con Try.prog noMv 61 [.d (.sl 1 (xs.map strRow)), .d (.sl 1 (ys.map strRow))] [] (fun r h => r = bool (eqb xs ys) ∧ h = []) := by
 refine con_of2 k_c_eqStringS_fits rfl fun C hP hmv => ?_
 unfold k_c_eqStringS
 refine cx_seq (cx_ops ?_)
 refine ax_q (q_mov rfl) ?_
 refine ax_nil (cx_keep rfl rfl (cx_seq (cx_seq (cx_ops ?_))))
 refine ax_q (q_mov rfl) ?_
 refine ax_q (q_lenS_map rfl) ?_
 refine ax_q (q_mov rfl) ?_
 refine ax_q (q_lenS_map rfl) ?_
 refine ax_q (q_ibin rfl rfl rfl) ?_
 refine ax_nil (cx_keep rfl rfl ?_)
 refine cx_cond rfl (fun h0 => ?_) (fun h0 => ?_)
 ·
  have h0 := nT h0
  refine cx_seq (cx_ops ?_)
  refine ax_q (q_mov rfl) ?_
  refine ax_nil (cx_keep rfl rfl ?_)
  refine cx_ret (ret0 rfl rfl ?_)
  exact ⟨congrArg AM.bool (eqb_f (fun h => h0 (by rw [h]))).symm, rfl⟩
 ·
  have h0 := nF h0
  refine cx_skip ?_
  refine cx_keep rfl rfl (cx_seq (cx_seq (cx_ops ?_)))
  refine ax_q (q_mov rfl) ?_
  refine ax_nil (cx_keep rfl rfl (cx_block ?_))
  have hl : xs.length = ys.length := by omega
  refine cx_loopU (fun n k => k ≤ xs.length ∧ n = xs.length - k ∧ xs.take k = ys.take k) (fun k : Nat => [(5, int k)]) (fun _ => []) ⟨_, 0, ⟨Nat.zero_le _, rfl, rfl⟩, by repeat constructor⟩ ?_
  rintro n k ⟨hk, rfl, ht⟩
  refine cx_seq (cx_seq (cx_ops ?_))
  refine ax_q (q_mov rfl) ?_
  refine ax_q (q_mov rfl) ?_
  refine ax_q (q_lenS_map rfl) ?_
  refine ax_q (q_ibin rfl rfl rfl) ?_
  refine ax_nil (cx_keep rfl rfl ?_)
  refine cx_cond rfl (fun h1 => ?_) (fun h1 => ?_)
  ·
   have h1 := dT h1
   have h1x : k < xs.length := by omega
   have h1y : k < ys.length := by omega
   refine cx_skip ?_
   refine cx_keep rfl rfl (cx_seq (cx_block (cx_seq (cx_draw ?_))))
   refine ax_q (q_mov rfl) ?_
   refine ax_q (q_mov rfl) ?_
   refine ax_q (q_ix rfl rfl (mapAt h1x)) ?_
   first | refine ax_q (q_load1_ptr rfl rfl rfl) ?_ | refine ax_q (q_load1_ip rfl) ?_
   refine ax_q (q_mov rfl) ?_
   refine ax_q (q_mov rfl) ?_
   refine ax_q (q_ix rfl rfl (mapAt h1y)) ?_
   first | refine ax_q (q_load1_ptr rfl rfl rfl) ?_ | refine ax_q (q_load1_ip rfl) ?_
   refine ax_q (q_sbin rfl rfl rfl) ?_
   refine ax_nil (cx_keep rfl rfl ?_)
   refine cx_cond rfl (fun h2 => ?_) (fun h2 => ?_)
   ·
    have h2 := nT h2
    have h2 : xs[k] ≠ ys[k] := h2
    refine cx_seq (cx_ops ?_)
    refine ax_q (q_mov rfl) ?_
    refine ax_nil (cx_keep rfl rfl ?_)
    refine cx_ret (ret0 rfl rfl ?_)
    exact ⟨congrArg AM.bool (eqbL_no h1x h1y (eqb_f h2)).symm, rfl⟩
   ·
    have h2 := nF h2
    have h2 : xs[k] = ys[k] := h2
    refine cx_skip ?_
    refine cx_keep rfl rfl (cx_ops ?_)
    refine ax_q (q_mov rfl) ?_
    refine ax_q (q_add rfl rfl (by omega)) ?_
    refine ax_q (q_mov rfl) ?_
    refine ax_nil ?_
    exact ⟨_, k + 1, by omega, ⟨by omega, rfl, take_step h1x h1y ht h2⟩, by repeat constructor⟩
  ·
   have h1 := dF h1
   refine cx_exit rfl ?_
   refine cx_keep rfl rfl (cx_seq (cx_ops ?_))
   refine ax_q (q_mov rfl) ?_
   refine ax_nil (cx_keep rfl rfl ?_)
   refine cx_ret (ret0 rfl rfl ?_)
   exact ⟨congrArg AM.bool (eqb_t (eq_of_take hl (by rwa [show k = xs.length from by omega] at ht))).symm, rfl⟩


/- loop.example/g00332/laws.eqIntS -/
def k_c_eqIntS : XCode :=
 .seq (.ops [.op (some 4) (.mov (.k (.bool false)))])
 (.keep [0, 1] (.seq (.seq (.ops [.op (some 6) (.mov (.t 0)),
   .op (some 7) (.lenS (.t 6)),
   .op (some 8) (.mov (.t 1)),
   .op (some 9) (.lenS (.t 8)),
   .op (some 10) (.bin .neq (.t 7) (.t 9))])
  (.keep [0, 1, 10] (.cond (.t 10)
  (.seq (.ops [.op (some 4) (.mov (.k (.bool false)))])
   (.keep [4] (.ret)))
  (.skip))))
 (.keep [0, 1] (.seq (.seq (.ops [.op (some 5) (.mov (.k (.int .i64 0)))])
  (.keep [0, 1, 5] (.block 0 (.loop (.seq (.seq (.ops [.op (some 11) (.mov (.t 5)),
     .op (some 12) (.mov (.t 0)),
     .op (some 13) (.lenS (.t 12)),
     .op (some 14) (.bin .lss (.t 11) (.t 13))])
   (.keep [0, 1, 5, 14] (.cond (.t 14)
    (.skip)
    (.exit 0))))
   (.keep [0, 1, 5] (.seq (.block 1 (.seq (.draw [.op (some 17) (.mov (.t 0)),
     .op (some 18) (.mov (.t 5)),
     .op (some 19) (.iadr 1 (.t 17) (.t 18)),
     .op (some 20) (.load1 (.t 19)),
     .op (some 21) (.mov (.t 1)),
     .op (some 22) (.mov (.t 5)),
     .op (some 23) (.iadr 1 (.t 21) (.t 22)),
     .op (some 24) (.load1 (.t 23)),
     .op (some 25) (.bin .neq (.t 20) (.t 24))])
    (.keep [0, 1, 5, 25] (.cond (.t 25)
    (.seq (.ops [.op (some 4) (.mov (.k (.bool false)))])
     (.keep [4] (.ret)))
    (.skip)))))
   (.keep [0, 1, 5] (.ops [.op (some 15) (.mov (.t 5)),
    .op (some 16) (.bin .add (.t 15) (.k (.int .i64 1))),
    .op (some 5) (.mov (.t 16))])))))))))
 (.keep [] (.seq (.ops [.op (some 4) (.mov (.k (.bool true)))])
 (.keep [4] (.ret))))))))
theorem k_c_eqIntS_fits : fitsF Try.prog 62 ⟨26, k_c_eqIntS, [.t 4]⟩ = true := by kernel_rfl
theorem c_eqIntS {xs ys : List Int} (hw : xs.length ≤ 9223372036854775807) : Con Try.prog noMv 62 [.d (.sl 1 (xs.map intRow)), .d (.sl 1 (ys.map intRow))] [] (fun r h => r = bool (eqb xs ys) ∧ h = []) := by
 refine con_of2 k_c_eqIntS_fits rfl fun C hP hmv => ?_
 unfold k_c_eqIntS
 refine cx_seq (cx_ops ?_)
 refine ax_q (q_mov rfl) ?_
 refine ax_nil (cx_keep rfl rfl (cx_seq (cx_seq (cx_ops ?_))))
 refine ax_q (q_mov rfl) ?_
 refine ax_q (q_lenS_map rfl) ?_
 refine ax_q (q_mov rfl) ?_
 refine ax_q (q_lenS_map rfl) ?_
 refine ax_q (q_ibin rfl rfl rfl) ?_
 refine ax_nil (cx_keep rfl rfl ?_)
 refine cx_cond rfl (fun h0 => ?_) (fun h0 => ?_)
 ·
  have h0 := nT h0
  refine cx_seq (cx_ops ?_)
  refine ax_q (q_mov rfl) ?_
  refine ax_nil (cx_keep rfl rfl ?_)
  refine cx_ret (ret0 rfl rfl ?_)
  exact ⟨congrArg AM.bool (eqb_f (fun h => h0 (by rw [h]))).symm, rfl⟩
 ·
  have h0 := nF h0
  refine cx_skip ?_
  refine cx_keep rfl rfl (cx_seq (cx_seq (cx_ops ?_)))
  refine ax_q (q_mov rfl) ?_
  refine ax_nil (cx_keep rfl rfl (cx_block ?_))
  have hl : xs.length = ys.length := by omega
  refine cx_loopU (fun n k => k ≤ xs.length ∧ n = xs.length - k ∧ xs.take k = ys.take k) (fun k : Nat => [(5, int k)]) (fun _ => []) ⟨_, 0, ⟨Nat.zero_le _, rfl, rfl⟩, by repeat constructor⟩ ?_
  rintro n k ⟨hk, rfl, ht⟩
  refine cx_seq (cx_seq (cx_ops ?_))
  refine ax_q (q_mov rfl) ?_
  refine ax_q (q_mov rfl) ?_
  refine ax_q (q_lenS_map rfl) ?_
  refine ax_q (q_ibin rfl rfl rfl) ?_
  refine ax_nil (cx_keep rfl rfl ?_)
  refine cx_cond rfl (fun h1 => ?_) (fun h1 => ?_)
  ·
   have h1 := dT h1
   have h1x : k < xs.length := by omega
   have h1y : k < ys.length := by omega
   refine cx_skip ?_
   refine cx_keep rfl rfl (cx_seq (cx_block (cx_seq (cx_draw ?_))))
   refine ax_q (q_mov rfl) ?_
   refine ax_q (q_mov rfl) ?_
   refine ax_q (q_ix rfl rfl (mapAt h1x)) ?_
   first | refine ax_q (q_load1_ptr rfl rfl rfl) ?_ | refine ax_q (q_load1_ip rfl) ?_
   refine ax_q (q_mov rfl) ?_
   refine ax_q (q_mov rfl) ?_
   refine ax_q (q_ix rfl rfl (mapAt h1y)) ?_
   first | refine ax_q (q_load1_ptr rfl rfl rfl) ?_ | refine ax_q (q_load1_ip rfl) ?_
   refine ax_q (q_ibin rfl rfl rfl) ?_
   refine ax_nil (cx_keep rfl rfl ?_)
   refine cx_cond rfl (fun h2 => ?_) (fun h2 => ?_)
   ·
    have h2 := nT h2
    have h2 : xs[k] ≠ ys[k] := h2
    refine cx_seq (cx_ops ?_)
    refine ax_q (q_mov rfl) ?_
    refine ax_nil (cx_keep rfl rfl ?_)
    refine cx_ret (ret0 rfl rfl ?_)
    exact ⟨congrArg AM.bool (eqbL_no h1x h1y (eqb_f h2)).symm, rfl⟩
   ·
    have h2 := nF h2
    have h2 : xs[k] = ys[k] := h2
    refine cx_skip ?_
    refine cx_keep rfl rfl (cx_ops ?_)
    refine ax_q (q_mov rfl) ?_
    refine ax_q (q_add rfl rfl (by omega)) ?_
    refine ax_q (q_mov rfl) ?_
    refine ax_nil ?_
    exact ⟨_, k + 1, by omega, ⟨by omega, rfl, take_step h1x h1y ht h2⟩, by repeat constructor⟩
  ·
   have h1 := dF h1
   refine cx_exit rfl ?_
   refine cx_keep rfl rfl (cx_seq (cx_ops ?_))
   refine ax_q (q_mov rfl) ?_
   refine ax_nil (cx_keep rfl rfl ?_)
   refine cx_ret (ret0 rfl rfl ?_)
   exact ⟨congrArg AM.bool (eqb_t (eq_of_take hl (by rwa [show k = xs.length from by omega] at ht))).symm, rfl⟩


/- loop.example/g00332/laws.eqTreeNode -/
def k_c_eqTreeNode : XCode :=
 .seq (.ops [.op (some 2) (.box (.t 0)),
   .op (some 3) (.box (.t 1)),
   .op (some 4) (.mov (.k (.bool false)))])
 (.keep [2, 3] (.seq (.seq (.ops [.op (some 5) (.fadr (.t 2) 0),
   .op (some 6) (.load1 (.t 5)),
   .op (some 7) (.fadr (.t 3) 0),
   .op (some 8) (.load1 (.t 7)),
   .op (some 9) (.eqb true (.t 6) (.t 8))])
  (.keep [2, 3, 9] (.cond (.t 9)
  (.seq (.ops [.op (some 4) (.mov (.k (.bool false)))])
   (.keep [4] (.ret)))
  (.skip))))
 (.keep [2, 3] (.seq (.seq (.ops [.op (some 10) (.fadr (.t 2) 1),
   .op (some 11) (.load1 (.t 10)),
   .op (some 12) (.fadr (.t 3) 1),
   .op (some 13) (.load1 (.t 12)),
   .call (some 14) 61 [.t 11, .t 13],
   .op (some 15) (.not (.t 14))])
  (.keep [2, 3, 15] (.cond (.t 15)
  (.seq (.ops [.op (some 4) (.mov (.k (.bool false)))])
   (.keep [4] (.ret)))
  (.skip))))
 (.keep [2, 3] (.seq (.seq (.ops [.op (some 16) (.fadr (.t 2) 2),
   .op (some 17) (.load1 (.t 16)),
   .op (some 18) (.fadr (.t 3) 2),
   .op (some 19) (.load1 (.t 18)),
   .call (some 20) 62 [.t 17, .t 19],
   .op (some 21) (.not (.t 20))])
  (.keep [21] (.cond (.t 21)
  (.seq (.ops [.op (some 4) (.mov (.k (.bool false)))])
   (.keep [4] (.ret)))
  (.skip))))
 (.keep [] (.seq (.ops [.op (some 4) (.mov (.k (.bool true)))])
 (.keep [4] (.ret))))))))))
theorem k_c_eqTreeNode_fits : fitsF Try.prog 43 ⟨22, k_c_eqTreeNode, [.t 4]⟩ = true := by kernel_rfl
theorem c_eqTreeNode {a b : INode} (hw0 : a.Keys.length ≤ 9223372036854775807) (hw1 : a.Kids.length ≤ 9223372036854775807) : Con Try.prog noMv 43 [a.av, b.av] [] (fun r h => r = bool (eqb a b) ∧ h = []) := by
 refine con_of2 k_c_eqTreeNode_fits rfl fun C hP hmv => ?_
 unfold k_c_eqTreeNode
 refine cx_seq (cx_ops ?_)
 refine ax_e (e_box rfl rfl (by decide) rfl rfl rfl) ?_
 refine ax_e (e_box rfl rfl (by decide) rfl rfl rfl) ?_
 refine ax_q (q_mov rfl) ?_
 refine ax_nil (cx_keep rfl rfl (cx_seq (cx_seq (cx_ops ?_))))
 refine ax_q (q_fadr_ptr rfl) ?_
 refine ax_q (q_load1_ptr rfl rfl rfl) ?_
 refine ax_q (q_fadr_ptr rfl) ?_
 refine ax_q (q_load1_ptr rfl rfl rfl) ?_
 refine ax_q (q_eqb rfl rfl) ?_
 refine ax_nil (cx_keep rfl rfl ?_)
 refine cx_cond rfl (fun h0 => ?_) (fun h0 => ?_)
 ·
  have h0 := bneT h0
  refine cx_seq (cx_ops ?_)
  refine ax_q (q_mov rfl) ?_
  refine ax_nil (cx_keep rfl rfl ?_)
  refine cx_ret (ret0 rfl rfl ?_)
  exact ⟨congrArg AM.bool (eqb_f (fun h => h0 (by rw [h]))).symm, rfl⟩
 ·
  have h0 := bneF h0
  refine cx_skip ?_
  refine cx_keep rfl rfl (cx_seq (cx_seq (cx_ops ?_)))
  refine ax_q (q_fadr_ptr rfl) ?_
  refine ax_q (q_load1_ptr rfl rfl rfl) ?_
  refine ax_q (q_fadr_ptr rfl) ?_
  refine ax_q (q_load1_ptr rfl rfl rfl) ?_
  refine ax_call rfl (vc_pure0 (c_eqStringS  ?_) hP rfl rfl ?_)
  ·
   assumption
  refine ax_q (q_not rfl) ?_
  refine ax_nil (cx_keep rfl rfl ?_)
  refine cx_cond rfl (fun h1 => ?_) (fun h1 => ?_)
  ·
   have h1 := bT h1
   refine cx_seq (cx_ops ?_)
   refine ax_q (q_mov rfl) ?_
   refine ax_nil (cx_keep rfl rfl ?_)
   refine cx_ret (ret0 rfl rfl ?_)
   exact ⟨congrArg AM.bool (eqb_f (fun h => by rw [h, eqb_rfl] at h1; cases h1)).symm, rfl⟩
  ·
   have h1 := bF h1
   refine cx_skip ?_
   refine cx_keep rfl rfl (cx_seq (cx_seq (cx_ops ?_)))
   refine ax_q (q_fadr_ptr rfl) ?_
   refine ax_q (q_load1_ptr rfl rfl rfl) ?_
   refine ax_q (q_fadr_ptr rfl) ?_
   refine ax_q (q_load1_ptr rfl rfl rfl) ?_
   refine ax_call rfl (vc_pure0 (c_eqIntS  ?_) hP rfl rfl ?_)
   ·
    assumption
   refine ax_q (q_not rfl) ?_
   refine ax_nil (cx_keep rfl rfl ?_)
   refine cx_cond rfl (fun h2 => ?_) (fun h2 => ?_)
   ·
    have h2 := bT h2
    refine cx_seq (cx_ops ?_)
    refine ax_q (q_mov rfl) ?_
    refine ax_nil (cx_keep rfl rfl ?_)
    refine cx_ret (ret0 rfl rfl ?_)
    exact ⟨congrArg AM.bool (eqb_f (fun h => by rw [h, eqb_rfl] at h2; cases h2)).symm, rfl⟩
   ·
    have h2 := bF h2
    refine cx_skip ?_
    refine cx_keep rfl rfl (cx_seq (cx_ops ?_))
    refine ax_q (q_mov rfl) ?_
    refine ax_nil (cx_keep rfl rfl ?_)
    refine cx_ret (ret0 rfl rfl ?_)
    exact ⟨congrArg AM.bool (eqb_t (INode.ext1 h0 (eqb_iff.1 h1) (eqb_iff.1 h2))).symm, rfl⟩


/- loop.example/g00332/laws.eqTreeNodeS -/
def k_c_eqTreeNodeS : XCode :=
 .seq (.ops [.op (some 4) (.mov (.k (.bool false)))])
 (.keep [0, 1] (.seq (.seq (.ops [.op (some 6) (.mov (.t 0)),
   .op (some 7) (.lenS (.t 6)),
   .op (some 8) (.mov (.t 1)),
   .op (some 9) (.lenS (.t 8)),
   .op (some 10) (.bin .neq (.t 7) (.t 9))])
  (.keep [0, 1, 10] (.cond (.t 10)
  (.seq (.ops [.op (some 4) (.mov (.k (.bool false)))])
   (.keep [4] (.ret)))
  (.skip))))
 (.keep [0, 1] (.seq (.seq (.ops [.op (some 5) (.mov (.k (.int .i64 0)))])
  (.keep [0, 1, 5] (.block 0 (.loop (.seq (.seq (.ops [.op (some 11) (.mov (.t 5)),
     .op (some 12) (.mov (.t 0)),
     .op (some 13) (.lenS (.t 12)),
     .op (some 14) (.bin .lss (.t 11) (.t 13))])
   (.keep [0, 1, 5, 14] (.cond (.t 14)
    (.skip)
    (.exit 0))))
   (.keep [0, 1, 5] (.seq (.block 1 (.seq (.draw [.op (some 17) (.mov (.t 0)),
     .op (some 18) (.mov (.t 5)),
     .op (some 19) (.iadr 3 (.t 17) (.t 18)),
     .op (some 20) (.loadN 3 (.t 19)),
     .op (some 21) (.mov (.t 1)),
     .op (some 22) (.mov (.t 5)),
     .op (some 23) (.iadr 3 (.t 21) (.t 22)),
     .op (some 24) (.loadN 3 (.t 23)),
     .call (some 25) 43 [.t 20, .t 24],
     .op (some 26) (.not (.t 25))])
    (.keep [0, 1, 5, 26] (.cond (.t 26)
    (.seq (.ops [.op (some 4) (.mov (.k (.bool false)))])
     (.keep [4] (.ret)))
    (.skip)))))
   (.keep [0, 1, 5] (.ops [.op (some 15) (.mov (.t 5)),
    .op (some 16) (.bin .add (.t 15) (.k (.int .i64 1))),
    .op (some 5) (.mov (.t 16))])))))))))
 (.keep [] (.seq (.ops [.op (some 4) (.mov (.k (.bool true)))])
 (.keep [4] (.ret))))))))
theorem k_c_eqTreeNodeS_fits : fitsF Try.prog 23 ⟨27, k_c_eqTreeNodeS, [.t 4]⟩ = true := by kernel_rfl
theorem c_eqTreeNodeS {xs ys : List INode} (hw : xs.length ≤ 9223372036854775807) (hs : ∀ n ∈ xs, n.Keys.length ≤ 1048576 ∧ n.Kids.length ≤ 1048576) : Con Try.prog noMv 23 [.d (.sl 3 (xs.map INode.row)), .d (.sl 3 (ys.map INode.row))] [] (fun r h => r = bool (eqb xs ys) ∧ h = []) := by
 refine con_of2 k_c_eqTreeNodeS_fits rfl fun C hP hmv => ?_
 unfold k_c_eqTreeNodeS
 refine cx_seq (cx_ops ?_)
 refine ax_q (q_mov rfl) ?_
 refine ax_nil (cx_keep rfl rfl (cx_seq (cx_seq (cx_ops ?_))))
 refine ax_q (q_mov rfl) ?_
 refine ax_q (q_lenS_map rfl) ?_
 refine ax_q (q_mov rfl) ?_
 refine ax_q (q_lenS_map rfl) ?_
 refine ax_q (q_ibin rfl rfl rfl) ?_
 refine ax_nil (cx_keep rfl rfl ?_)
 refine cx_cond rfl (fun h0 => ?_) (fun h0 => ?_)
 ·
  have h0 := nT h0
  refine cx_seq (cx_ops ?_)
  refine ax_q (q_mov rfl) ?_
  refine ax_nil (cx_keep rfl rfl ?_)
  refine cx_ret (ret0 rfl rfl ?_)
  exact ⟨congrArg AM.bool (eqb_f (fun h => h0 (by rw [h]))).symm, rfl⟩
 ·
  have h0 := nF h0
  refine cx_skip ?_
  refine cx_keep rfl rfl (cx_seq (cx_seq (cx_ops ?_)))
  refine ax_q (q_mov rfl) ?_
  refine ax_nil (cx_keep rfl rfl (cx_block ?_))
  have hl : xs.length = ys.length := by omega
  refine cx_loopU (fun n k => k ≤ xs.length ∧ n = xs.length - k ∧ xs.take k = ys.take k) (fun k : Nat => [(5, int k)]) (fun _ => []) ⟨_, 0, ⟨Nat.zero_le _, rfl, rfl⟩, by repeat constructor⟩ ?_
  rintro n k ⟨hk, rfl, ht⟩
  refine cx_seq (cx_seq (cx_ops ?_))
  refine ax_q (q_mov rfl) ?_
  refine ax_q (q_mov rfl) ?_
  refine ax_q (q_lenS_map rfl) ?_
  refine ax_q (q_ibin rfl rfl rfl) ?_
  refine ax_nil (cx_keep rfl rfl ?_)
  refine cx_cond rfl (fun h1 => ?_) (fun h1 => ?_)
  ·
   have h1 := dT h1
   have h1x : k < xs.length := by omega
   have h1y : k < ys.length := by omega
   obtain ⟨hsk1, hsk2⟩ := hs _ (List.getElem_mem h1x)
   refine cx_skip ?_
   refine cx_keep rfl rfl (cx_seq (cx_block (cx_seq (cx_draw ?_))))
   refine ax_q (q_mov rfl) ?_
   refine ax_q (q_mov rfl) ?_
   refine ax_q (q_ix rfl rfl (mapAt h1x)) ?_
   first | refine ax_q (q_ldN rfl rfl rfl) ?_ | refine ax_q (q_loadN_ip rfl (Nat.le_refl _)) ?_
   refine ax_q (q_mov rfl) ?_
   refine ax_q (q_mov rfl) ?_
   refine ax_q (q_ix rfl rfl (mapAt h1y)) ?_
   first | refine ax_q (q_ldN rfl rfl rfl) ?_ | refine ax_q (q_loadN_ip rfl (Nat.le_refl _)) ?_
   refine ax_callq rfl (c_eqTreeNode (a := xs[k]) (b := ys[k]) ?_ ?_) hP (lal_id _ rfl) rfl ?_
   ·
    first | assumption | omega
   ·
    first | assumption | omega
   refine ax_q (q_not rfl) ?_
   refine ax_nil (cx_keep rfl rfl ?_)
   refine cx_cond rfl (fun h2 => ?_) (fun h2 => ?_)
   ·
    have h2 := bT h2
    refine cx_seq (cx_ops ?_)
    refine ax_q (q_mov rfl) ?_
    refine ax_nil (cx_keep rfl rfl ?_)
    refine cx_ret (ret0 rfl rfl ?_)
    exact ⟨congrArg AM.bool (eqbL_no h1x h1y h2).symm, rfl⟩
   ·
    have h2 := bF h2
    refine cx_skip ?_
    refine cx_keep rfl rfl (cx_ops ?_)
    refine ax_q (q_mov rfl) ?_
    refine ax_q (q_add rfl rfl (by omega)) ?_
    refine ax_q (q_mov rfl) ?_
    refine ax_nil ?_
    exact ⟨_, k + 1, by omega, ⟨by omega, rfl, eqbL_step h1x h1y ht h2⟩, by repeat constructor⟩
  ·
   have h1 := dF h1
   refine cx_exit rfl ?_
   refine cx_keep rfl rfl (cx_seq (cx_ops ?_))
   refine ax_q (q_mov rfl) ?_
   refine ax_nil (cx_keep rfl rfl ?_)
   refine cx_ret (ret0 rfl rfl ?_)
   exact ⟨congrArg AM.bool (eqb_t (eq_of_take hl (by rwa [show k = xs.length from by omega] at ht))).symm, rfl⟩


/- loop.example/g00332/laws.eqTree -/
def k_c_eqTree : XCode :=
 .seq (.ops [.op (some 2) (.box (.t 0)),
   .op (some 3) (.box (.t 1)),
   .op (some 4) (.mov (.k (.bool false)))])
 (.keep [2, 3] (.seq (.seq (.ops [.op (some 5) (.fadr (.t 2) 0),
   .op (some 6) (.load1 (.t 5)),
   .op (some 7) (.fadr (.t 3) 0),
   .op (some 8) (.load1 (.t 7)),
   .op (some 9) (.bin .neq (.t 6) (.t 8))])
  (.keep [2, 3, 9] (.cond (.t 9)
  (.seq (.ops [.op (some 4) (.mov (.k (.bool false)))])
   (.keep [4] (.ret)))
  (.skip))))
 (.keep [2, 3] (.seq (.seq (.ops [.op (some 10) (.fadr (.t 2) 1),
   .op (some 11) (.load1 (.t 10)),
   .op (some 12) (.fadr (.t 3) 1),
   .op (some 13) (.load1 (.t 12)),
   .call (some 14) 23 [.t 11, .t 13],
   .op (some 15) (.not (.t 14))])
  (.keep [15] (.cond (.t 15)
  (.seq (.ops [.op (some 4) (.mov (.k (.bool false)))])
   (.keep [4] (.ret)))
  (.skip))))
 (.keep [] (.seq (.ops [.op (some 4) (.mov (.k (.bool true)))])
 (.keep [4] (.ret))))))))
theorem k_c_eqTree_fits : fitsF Try.prog 9 ⟨16, k_c_eqTree, [.t 4]⟩ = true := by kernel_rfl
theorem c_eqTree {a b : ITree} (hw : a.Nodes.length ≤ 1048576) (hs : ∀ n ∈ a.Nodes, n.Keys.length ≤ 1048576 ∧ n.Kids.length ≤ 1048576) : Con Try.prog noMv 9 [a.av, b.av] [] (fun r h => r = bool (eqb a b) ∧ h = []) := by
 refine con_of2 k_c_eqTree_fits rfl fun C hP hmv => ?_
 unfold k_c_eqTree
 refine cx_seq (cx_ops ?_)
 refine ax_e (e_box rfl rfl (by decide) rfl rfl rfl) ?_
 refine ax_e (e_box rfl rfl (by decide) rfl rfl rfl) ?_
 refine ax_q (q_mov rfl) ?_
 refine ax_nil (cx_keep rfl rfl (cx_seq (cx_seq (cx_ops ?_))))
 refine ax_q (q_fadr_ptr rfl) ?_
 refine ax_q (q_load1_ptr rfl rfl rfl) ?_
 refine ax_q (q_fadr_ptr rfl) ?_
 refine ax_q (q_load1_ptr rfl rfl rfl) ?_
 refine ax_q (q_ibin rfl rfl rfl) ?_
 refine ax_nil (cx_keep rfl rfl ?_)
 refine cx_cond rfl (fun h0 => ?_) (fun h0 => ?_)
 ·
  have h0 := nT h0
  refine cx_seq (cx_ops ?_)
  refine ax_q (q_mov rfl) ?_
  refine ax_nil (cx_keep rfl rfl ?_)
  refine cx_ret (ret0 rfl rfl ?_)
  exact ⟨congrArg AM.bool (eqb_f (fun h => h0 (by rw [h]))).symm, rfl⟩
 ·
  have h0 := nF h0
  refine cx_skip ?_
  refine cx_keep rfl rfl (cx_seq (cx_seq (cx_ops ?_)))
  refine ax_q (q_fadr_ptr rfl) ?_
  refine ax_q (q_load1_ptr rfl rfl rfl) ?_
  refine ax_q (q_fadr_ptr rfl) ?_
  refine ax_q (q_load1_ptr rfl rfl rfl) ?_
  refine ax_call rfl (vc_pure0 (c_eqTreeNodeS  ?_ ?_) hP rfl rfl ?_)
  ·
   first | assumption | omega
  ·
   assumption
  refine ax_q (q_not rfl) ?_
  refine ax_nil (cx_keep rfl rfl ?_)
  refine cx_cond rfl (fun h1 => ?_) (fun h1 => ?_)
  ·
   have h1 := bT h1
   refine cx_seq (cx_ops ?_)
   refine ax_q (q_mov rfl) ?_
   refine ax_nil (cx_keep rfl rfl ?_)
   refine cx_ret (ret0 rfl rfl ?_)
   exact ⟨congrArg AM.bool (eqb_f (fun h => by rw [h, eqb_rfl] at h1; cases h1)).symm, rfl⟩
  ·
   have h1 := bF h1
   refine cx_skip ?_
   refine cx_keep rfl rfl (cx_seq (cx_ops ?_))
   refine ax_q (q_mov rfl) ?_
   refine ax_nil (cx_keep rfl rfl ?_)
   refine cx_ret (ret0 rfl rfl ?_)
   exact ⟨congrArg AM.bool (eqb_t (ITree.ext1 h0 (eqb_iff.1 h1))).symm, rfl⟩


/- loop.example/g00332/laws.markText -/
def k_c_markText : XCode :=
 .seq (.ops [.op (some 2) (.mov (.k (.str [])))])
 (.keep [0] (.seq (.seq (.ops [.op (some 4) (.mov (.t 0)),
   .op (some 5) (.bin .leq (.t 4) (.k (.int .i64 0)))])
  (.keep [0, 5] (.cond (.t 5)
  (.seq (.ops [.op (some 2) (.mov (.k (.str [109, 48])))])
   (.keep [2] (.ret)))
  (.skip))))
 (.keep [0] (.seq (.ops [.op (some 3) (.mov (.k (.str [])))])
 (.keep [0, 3] (.seq (.block 0 (.loop (.seq (.seq (.ops [.op (some 6) (.mov (.t 0)),
     .op (some 7) (.bin .gtr (.t 6) (.k (.int .i64 0)))])
   (.keep [0, 3, 7] (.cond (.t 7)
    (.skip)
    (.exit 0))))
   (.keep [0, 3] (.block 1 (.seq (.ops [.op (some 8) (.mov (.t 0)),
     .op (some 9) (.bin .rem (.t 8) (.k (.int .i64 10))),
     .op (some 10) (.bin .add (.k (.int .i64 48)) (.t 9)),
     .op (some 11) (.conv .u8 (.t 10)),
     .op (some 12) (.bslice 1 [.t 11]),
     .op (some 13) (.b2s (.t 12)),
     .op (some 14) (.mov (.t 3)),
     .op (some 15) (.bin .add (.t 13) (.t 14)),
     .op (some 3) (.mov (.t 15))])
   (.keep [0, 3] (.ops [.op (some 16) (.mov (.t 0)),
    .op (some 17) (.bin .quo (.t 16) (.k (.int .i64 10))),
    .op (some 0) (.mov (.t 17))]))))))))
 (.keep [3] (.seq (.ops [.op (some 18) (.mov (.t 3)),
   .op (some 19) (.bin .add (.k (.str [109])) (.t 18)),
   .op (some 2) (.mov (.t 19))])
 (.keep [2] (.ret))))))))))
theorem k_c_markText_fits : fitsF Try.prog 63 ⟨20, k_c_markText, [.t 2]⟩ = true := by kernel_rfl
theorem c_markText {k : Nat} (hk : k ≤ 1000000000000000000) : Con Try.prog noMv 63 [int k] [] (fun r h => r = str (mkT k) ∧ h = []) := by
 refine con_of2 k_c_markText_fits rfl fun C hP hmv => ?_
 unfold k_c_markText
 refine cx_seq (cx_ops ?_)
 refine ax_q (q_mov rfl) ?_
 refine ax_nil (cx_keep rfl rfl (cx_seq (cx_seq (cx_ops ?_))))
 refine ax_q (q_mov rfl) ?_
 refine ax_q (q_ibin rfl rfl rfl) ?_
 refine ax_nil (cx_keep rfl rfl ?_)
 refine cx_cond rfl (fun h1 => ?_) (fun h1 => ?_)
 ·
  have h1 : k = 0 := by have := of_decide_eq_true h1; omega
  refine cx_seq (cx_ops ?_)
  refine ax_q (q_mov rfl) ?_
  refine ax_nil (cx_keep rfl rfl ?_)
  refine cx_ret (ret0 rfl rfl ?_)
  exact ⟨by rw [mkT, if_pos h1]; rfl, rfl⟩
 ·
  have h1 : k ≠ 0 := by have := of_decide_eq_false h1; omega
  refine cx_skip ?_
  refine cx_keep rfl rfl (cx_seq (cx_ops ?_))
  refine ax_q (q_mov rfl) ?_
  refine ax_nil (cx_keep rfl rfl (cx_seq (cx_block ?_)))
  refine cx_loopU (fun n (p : Nat × Str) => n = p.1 ∧ ∃ f, digs f p.1 p.2 = digs 20 k [] ∧ p.1 < 10 ^ f ∧ f + p.2.length ≤ 20 ∧ p.1 ≤ k) (fun p => [(0, int p.1), (3, str p.2)]) (fun _ => []) ⟨_, (k, []), ⟨rfl, 20, rfl, by omega, by simp, Nat.le_refl _⟩, by repeat constructor⟩ ?_
  rintro m ⟨m2, o⟩ ⟨rfl, f, hd, hm, hf, hmk⟩
  simp only at hd hm hf hmk ⊢
  refine cx_seq (cx_seq (cx_ops ?_))
  refine ax_q (q_mov rfl) ?_
  refine ax_q (q_ibin rfl rfl rfl) ?_
  refine ax_nil (cx_keep rfl rfl ?_)
  refine cx_cond rfl (fun h2 => ?_) (fun h2 => ?_)
  ·
   have h2 : 0 < m := by have := of_decide_eq_true h2; omega
   obtain ⟨f, rfl⟩ : ∃ g, f = g + 1 := ⟨f - 1, by cases f with
    | zero => simp at hm; omega
    | succ f => rfl⟩
   have hd2 : ∃ f', digs f' (m / 10) (UInt8.ofNat (48 + m % 10) :: o) = digs 20 k [] ∧ m / 10 < 10 ^ f' ∧ f' + (UInt8.ofNat (48 + m % 10) :: o).length ≤ 20 ∧ m / 10 ≤ k := ⟨f, by rw [← hd, digs, if_neg (by omega)], by rw [Nat.pow_succ] at hm; omega, by simp only [List.length_cons]; omega, by omega⟩
   refine cx_skip ?_
   refine cx_keep rfl rfl (cx_block (cx_seq (cx_ops ?_)))
   refine ax_q (q_mov rfl) ?_
   refine ax_qe (r' := int ((m % 10 : Nat) : Int)) (q_idiv rfl rfl rfl (by decide)) (by rw [Int.tmod_eq_emod_of_nonneg (by omega)]; rfl) ?_
   refine ax_qe (r' := int ((48 + m % 10 : Nat) : Int)) (q_ibin rfl rfl rfl) (by rw [wi (by omega) (by omega)]; rfl) ?_
   refine ax_qe (r' := .d (.int .u8 ((UInt8.ofNat (48 + m % 10)).toNat : Int))) (q_conv rfl) (by rw [byteConv (by omega)]) ?_
   refine ax_e (e_bslice rfl (by decide) rfl rfl) ?_
   refine ax_q (q_b2s (bs := [UInt8.ofNat (48 + m % 10)]) rfl (src_osl rfl (by simp)) (by simp [byteRow]) ⟨_, _, _, _, .inl rfl⟩) ?_
   refine ax_q (q_mov rfl) ?_
   refine ax_qe (r' := str (UInt8.ofNat (48 + m % 10) :: o)) (q_sbin_add rfl rfl (by simp; omega)) (rfl) ?_
   refine ax_q (q_mov rfl) ?_
   refine ax_nil (cx_keep rfl rfl (cx_ops ?_))
   refine ax_q (q_mov rfl) ?_
   refine ax_qe (r' := int ((m / 10 : Nat) : Int)) (q_idiv rfl rfl rfl (by decide)) (by rw [Int.tdiv_eq_ediv_of_nonneg (by omega), wi (by omega) (by omega)]; rfl) ?_
   refine ax_q (q_mov rfl) ?_
   refine ax_nil ?_
   exact ⟨_, (m / 10, UInt8.ofNat (48 + m % 10) :: o), by simp only; omega, ⟨rfl, hd2⟩, by repeat constructor⟩
  ·
   have h2 : m = 0 := by have := of_decide_eq_false h2; omega
   refine cx_exit rfl ?_
   refine cx_keep rfl rfl (cx_seq (cx_ops ?_))
   refine ax_q (q_mov rfl) ?_
   refine ax_q (q_sbin_add rfl rfl (by simp; omega)) ?_
   refine ax_q (q_mov rfl) ?_
   refine ax_nil (cx_keep rfl rfl ?_)
   refine cx_ret (ret0 rfl rfl ?_)
   exact ⟨by subst h2; rw [digs0] at hd; rw [hd, mkT, if_neg h1]; rfl, rfl⟩


/- loop.example/g00332/laws.markStringS -/
def k_c_markStringS : XCode :=
 .seq (.ops [.op (some 4) (.mov (.k (.int .i64 0)))])
 (.keep [0, 1] (.seq (.seq (.ops [.op (some 5) (.mov (.k (.int .i64 0)))])
  (.keep [0, 1, 5] (.block 0 (.loop (.seq (.seq (.ops [.op (some 6) (.mov (.t 5)),
     .op (some 7) (.mov (.t 0)),
     .op (some 8) (.lenS (.t 7)),
     .op (some 9) (.bin .lss (.t 6) (.t 8))])
   (.keep [0, 1, 5, 9] (.cond (.t 9)
    (.skip)
    (.exit 0))))
   (.keep [0, 1, 5] (.seq (.block 1 (.seq (.ops [.op (some 12) (.mov (.t 0)),
     .op (some 13) (.mov (.t 5)),
     .op (some 14) (.mov (.t 1)),
     .call (some 15) 63 [.t 14],
     .op (some 16) (.iadr 1 (.t 12) (.t 13)),
     .op none (.store 1 (.t 16) (.t 15))])
    (.keep [0, 1, 5] (.ops [.op (some 17) (.mov (.t 1)),
     .op (some 18) (.bin .add (.t 17) (.k (.int .i64 1))),
     .op (some 1) (.mov (.t 18))]))))
   (.keep [0, 1, 5] (.ops [.op (some 10) (.mov (.t 5)),
    .op (some 11) (.bin .add (.t 10) (.k (.int .i64 1))),
    .op (some 5) (.mov (.t 11))])))))))))
 (.keep [1] (.seq (.ops [.op (some 19) (.mov (.t 1)),
   .op (some 4) (.mov (.t 19))])
 (.keep [4] (.ret))))))
theorem k_c_markStringS_fits : fitsF Try.prog 44 ⟨20, k_c_markStringS, [.t 4]⟩ = true := by kernel_rfl
theorem c_markStringS {xs : List Str} {k0 : Nat} (hw : k0 + 1 * xs.length ≤ 1000000000000000000) : Con Try.prog noMv 44 [.osl 1000 1 0 xs.length, int k0] [(1000, .rows 1 (xs.map strRow))] (fun r h => r = int ((k0 + 1 * xs.length : Nat) : Int) ∧ h = [(1000, .rows 1 ((markL (fun k _ => mkT k) 1 k0 xs).map strRow))]) := by
 refine con_of2 k_c_markStringS_fits rfl fun C hP hmv => ?_
 unfold k_c_markStringS
 refine cx_seq (cx_ops ?_)
 refine ax_q (q_mov rfl) ?_
 refine ax_nil (cx_keep rfl rfl (cx_seq (cx_seq (cx_ops ?_))))
 refine ax_q (q_mov rfl) ?_
 refine ax_nil (cx_keep rfl rfl (cx_block ?_))
 refine cx_loopU (fun n k => k ≤ xs.length ∧ n = xs.length - k) (fun k : Nat => [(1, int ((k0 + 1 * k : Nat) : Int)), (5, int k)]) (fun k => [(1000, .rows 1 ((markL (fun k _ => mkT k) 1 k0 (xs.take k) ++ xs.drop k).map strRow))]) ⟨_, 0, ⟨Nat.zero_le _, rfl⟩, by repeat constructor⟩ ?_
 rintro n k ⟨hk, rfl⟩
 refine cx_seq (cx_seq (cx_ops ?_))
 refine ax_q (q_mov rfl) ?_
 refine ax_q (q_mov rfl) ?_
 first | refine ax_q (q_lenS_map rfl) ?_ | refine ax_q (q_lenS_osl rfl) ?_
 refine ax_q (q_ibin rfl rfl rfl) ?_
 refine ax_nil (cx_keep rfl rfl ?_)
 refine cx_cond rfl (fun h0 => ?_) (fun h0 => ?_)
 ·
  have h0 := dT h0
  have h1x : k < xs.length := by omega
  have h1l : k < ((markL (fun k _ => mkT k) 1 k0 (xs.take k) ++ xs.drop k).map strRow).length := by rw [markL_mlen]; exact h1x
  refine cx_skip ?_
  refine cx_keep rfl rfl (cx_seq (cx_block (cx_seq (cx_ops ?_))))
  refine ax_q (q_mov rfl) ?_
  refine ax_q (q_mov rfl) ?_
  refine ax_q (q_mov rfl) ?_
  refine ax_call rfl (vc_pure0 (c_markText (by omega)) hP rfl rfl ?_)
  refine ax_q (q_ixo rfl rfl h1x) ?_
  refine ax_e (e_str (q := strRow ((fun k _ => mkT k) (k0 + 1 * k) xs[k])) rfl rfl rfl rfl rfl rfl (markL_at h1x) rfl rfl (markL_set h1x)) ?_
  refine ax_nil (cx_keep rfl rfl (cx_ops ?_))
  refine ax_q (q_mov rfl) ?_
  refine ax_qe (r' := int ((k0 + 1 * k + 1 : Nat) : Int)) (q_ibin rfl rfl rfl) (by rw [wi (by omega) (by omega)]; rfl) ?_
  refine ax_q (q_mov rfl) ?_
  refine ax_nil (cx_keep rfl rfl (cx_ops ?_))
  refine ax_q (q_mov rfl) ?_
  refine ax_qe (r' := int ((k + 1 : Nat) : Int)) (q_ibin rfl rfl rfl) (by rw [wi (by omega) (by omega)]; rfl) ?_
  refine ax_q (q_mov rfl) ?_
  refine ax_nil ?_
  exact ⟨_, k + 1, by omega, ⟨by omega, rfl⟩, by repeat constructor⟩
 ·
  have h0 := dF h0
  refine cx_exit rfl ?_
  refine cx_keep rfl rfl (cx_seq (cx_ops ?_))
  refine ax_q (q_mov rfl) ?_
  refine ax_q (q_mov rfl) ?_
  refine ax_nil (cx_keep rfl rfl ?_)
  have hk2 : k = xs.length := by omega
  subst hk2
  refine cx_ret (retN id [1000] rfl rfl rfl rfl rfl ?_)
  exact ⟨rfl, by rw [markL_full]; rfl⟩


/- loop.example/g00332/laws.markIntS -/
def k_c_markIntS : XCode :=
 .seq (.ops [.op (some 4) (.mov (.k (.int .i64 0)))])
 (.keep [0, 1] (.seq (.seq (.ops [.op (some 5) (.mov (.k (.int .i64 0)))])
  (.keep [0, 1, 5] (.block 0 (.loop (.seq (.seq (.ops [.op (some 6) (.mov (.t 5)),
     .op (some 7) (.mov (.t 0)),
     .op (some 8) (.lenS (.t 7)),
     .op (some 9) (.bin .lss (.t 6) (.t 8))])
   (.keep [0, 1, 5, 9] (.cond (.t 9)
    (.skip)
    (.exit 0))))
   (.keep [0, 1, 5] (.seq (.block 1 (.seq (.ops [.op (some 12) (.mov (.t 0)),
     .op (some 13) (.mov (.t 5)),
     .op (some 14) (.mov (.t 1)),
     .op (some 15) (.iadr 1 (.t 12) (.t 13)),
     .op none (.store 1 (.t 15) (.t 14))])
    (.keep [0, 1, 5] (.ops [.op (some 16) (.mov (.t 1)),
     .op (some 17) (.bin .add (.t 16) (.k (.int .i64 1))),
     .op (some 1) (.mov (.t 17))]))))
   (.keep [0, 1, 5] (.ops [.op (some 10) (.mov (.t 5)),
    .op (some 11) (.bin .add (.t 10) (.k (.int .i64 1))),
    .op (some 5) (.mov (.t 11))])))))))))
 (.keep [1] (.seq (.ops [.op (some 18) (.mov (.t 1)),
   .op (some 4) (.mov (.t 18))])
 (.keep [4] (.ret))))))
theorem k_c_markIntS_fits : fitsF Try.prog 45 ⟨19, k_c_markIntS, [.t 4]⟩ = true := by kernel_rfl
theorem c_markIntS {xs : List Int} {k0 : Nat} (hw : k0 + 1 * xs.length ≤ 1000000000000000000) : Con Try.prog noMv 45 [.osl 1000 1 0 xs.length, int k0] [(1000, .rows 1 (xs.map intRow))] (fun r h => r = int ((k0 + 1 * xs.length : Nat) : Int) ∧ h = [(1000, .rows 1 ((markL (fun k _ => (k : Int)) 1 k0 xs).map intRow))]) := by
 refine con_of2 k_c_markIntS_fits rfl fun C hP hmv => ?_
 unfold k_c_markIntS
 refine cx_seq (cx_ops ?_)
 refine ax_q (q_mov rfl) ?_
 refine ax_nil (cx_keep rfl rfl (cx_seq (cx_seq (cx_ops ?_))))
 refine ax_q (q_mov rfl) ?_
 refine ax_nil (cx_keep rfl rfl (cx_block ?_))
 refine cx_loopU (fun n k => k ≤ xs.length ∧ n = xs.length - k) (fun k : Nat => [(1, int ((k0 + 1 * k : Nat) : Int)), (5, int k)]) (fun k => [(1000, .rows 1 ((markL (fun k _ => (k : Int)) 1 k0 (xs.take k) ++ xs.drop k).map intRow))]) ⟨_, 0, ⟨Nat.zero_le _, rfl⟩, by repeat constructor⟩ ?_
 rintro n k ⟨hk, rfl⟩
 refine cx_seq (cx_seq (cx_ops ?_))
 refine ax_q (q_mov rfl) ?_
 refine ax_q (q_mov rfl) ?_
 first | refine ax_q (q_lenS_map rfl) ?_ | refine ax_q (q_lenS_osl rfl) ?_
 refine ax_q (q_ibin rfl rfl rfl) ?_
 refine ax_nil (cx_keep rfl rfl ?_)
 refine cx_cond rfl (fun h0 => ?_) (fun h0 => ?_)
 ·
  have h0 := dT h0
  have h1x : k < xs.length := by omega
  have h1l : k < ((markL (fun k _ => (k : Int)) 1 k0 (xs.take k) ++ xs.drop k).map intRow).length := by rw [markL_mlen]; exact h1x
  refine cx_skip ?_
  refine cx_keep rfl rfl (cx_seq (cx_block (cx_seq (cx_ops ?_))))
  refine ax_q (q_mov rfl) ?_
  refine ax_q (q_mov rfl) ?_
  refine ax_q (q_mov rfl) ?_
  refine ax_q (q_ixo rfl rfl h1x) ?_
  refine ax_e (e_str (q := intRow ((fun k _ => (k : Int)) (k0 + 1 * k) xs[k])) rfl rfl rfl rfl rfl rfl (markL_at h1x) rfl rfl (markL_set h1x)) ?_
  refine ax_nil (cx_keep rfl rfl (cx_ops ?_))
  refine ax_q (q_mov rfl) ?_
  refine ax_qe (r' := int ((k0 + 1 * k + 1 : Nat) : Int)) (q_ibin rfl rfl rfl) (by rw [wi (by omega) (by omega)]; rfl) ?_
  refine ax_q (q_mov rfl) ?_
  refine ax_nil (cx_keep rfl rfl (cx_ops ?_))
  refine ax_q (q_mov rfl) ?_
  refine ax_qe (r' := int ((k + 1 : Nat) : Int)) (q_ibin rfl rfl rfl) (by rw [wi (by omega) (by omega)]; rfl) ?_
  refine ax_q (q_mov rfl) ?_
  refine ax_nil ?_
  exact ⟨_, k + 1, by omega, ⟨by omega, rfl⟩, by repeat constructor⟩
 ·
  have h0 := dF h0
  refine cx_exit rfl ?_
  refine cx_keep rfl rfl (cx_seq (cx_ops ?_))
  refine ax_q (q_mov rfl) ?_
  refine ax_q (q_mov rfl) ?_
  refine ax_nil (cx_keep rfl rfl ?_)
  have hk2 : k = xs.length := by omega
  subst hk2
  refine cx_ret (retN id [1000] rfl rfl rfl rfl rfl ?_)
  exact ⟨rfl, by rw [markL_full]; rfl⟩


/- loop.example/g00332/laws.markTreeNodeS -/
def k_c_markTreeNodeS : XCode :=
 .seq (.ops [.op (some 4) (.mov (.k (.int .i64 0)))])
 (.keep [0, 1] (.seq (.seq (.ops [.op (some 5) (.mov (.k (.int .i64 0)))])
  (.keep [0, 1, 5] (.block 0 (.loop (.seq (.seq (.ops [.op (some 6) (.mov (.t 5)),
     .op (some 7) (.mov (.t 0)),
     .op (some 8) (.lenS (.t 7)),
     .op (some 9) (.bin .lss (.t 6) (.t 8))])
   (.keep [0, 1, 5, 9] (.cond (.t 9)
    (.skip)
    (.exit 0))))
   (.keep [0, 1, 5] (.seq (.block 1 (.seq (.ops [.op (some 12) (.mov (.t 0)),
     .op (some 13) (.mov (.t 5)),
     .op (some 14) (.mov (.t 1)),
     .op (some 15) (.bin .rem (.t 14) (.k (.int .i64 3))),
     .op (some 16) (.bin .eql (.t 15) (.k (.int .i64 0))),
     .op (some 17) (.iadr 3 (.t 12) (.t 13)),
     .op (some 18) (.fadr (.t 17) 0),
     .op none (.store 1 (.t 18) (.t 16))])
    (.keep [0, 1, 5] (.seq (.ops [.op (some 19) (.mov (.t 1)),
     .op (some 20) (.bin .add (.t 19) (.k (.int .i64 1))),
     .op (some 1) (.mov (.t 20))])
    (.keep [0, 1, 5] (.seq (.ops [.op (some 21) (.mov (.t 0)),
     .op (some 22) (.mov (.t 5)),
     .op (some 23) (.iadr 3 (.t 21) (.t 22)),
     .op (some 24) (.fadr (.t 23) 1),
     .op (some 25) (.load1 (.t 24)),
     .op (some 26) (.mov (.t 1)),
     .call (some 27) 44 [.t 25, .t 26],
     .op (some 1) (.mov (.t 27))])
    (.keep [0, 1, 5] (.ops [.op (some 28) (.mov (.t 0)),
     .op (some 29) (.mov (.t 5)),
     .op (some 30) (.iadr 3 (.t 28) (.t 29)),
     .op (some 31) (.fadr (.t 30) 2),
     .op (some 32) (.load1 (.t 31)),
     .op (some 33) (.mov (.t 1)),
     .call (some 34) 45 [.t 32, .t 33],
     .op (some 1) (.mov (.t 34))]))))))))
   (.keep [0, 1, 5] (.ops [.op (some 10) (.mov (.t 5)),
    .op (some 11) (.bin .add (.t 10) (.k (.int .i64 1))),
    .op (some 5) (.mov (.t 11))])))))))))
 (.keep [1] (.seq (.ops [.op (some 35) (.mov (.t 1)),
   .op (some 4) (.mov (.t 35))])
 (.keep [4] (.ret))))))
theorem k_c_markTreeNodeS_fits : fitsF Try.prog 24 ⟨36, k_c_markTreeNodeS, [.t 4]⟩ = true := by kernel_rfl
set_option maxHeartbeats 4000000 in
theorem c_markTreeNodeS {xs : List INode} {k0 : Nat} (hw : cntN k0 xs ≤ 1000000000000000000) : Con Try.prog noMv 24 [.osl 1000 3 0 xs.length, int k0] [(1000, .deep 3 (xs.map INode.row) [])] (fun r h => r = int ((cntN k0 xs : Nat) : Int) ∧ h = [(1000, .deep 3 ((mkNs k0 xs).map INode.row) [])]) := by
 refine con_of2 k_c_markTreeNodeS_fits rfl fun C hP hmv => ?_
 unfold k_c_markTreeNodeS
 have hge := @cntN_ge k0 xs
 refine cx_seq (cx_ops ?_)
 refine ax_q (q_mov rfl) ?_
 refine ax_nil (cx_keep rfl rfl (cx_seq (cx_seq (cx_ops ?_))))
 refine ax_q (q_mov rfl) ?_
 refine ax_nil (cx_keep rfl rfl (cx_block ?_))
 refine cx_loopU (fun n k => k ≤ xs.length ∧ n = xs.length - k) (fun k : Nat => [(5, int k), (1, int ((cntN k0 (xs.take k) : Nat) : Int))]) (fun k => [(1000, .deep 3 (((mkNs k0 (xs.take k)).map INode.row) ++ (xs.drop k).map INode.row) [])]) ⟨_, 0, ⟨Nat.zero_le _, rfl⟩, by repeat constructor⟩ ?_
 rintro n k ⟨hk, rfl⟩
 have hpl : ((mkNs k0 (xs.take k)).map INode.row).length = k := by rw [List.length_map, mkNs_len, List.length_take]; omega
 refine cx_seq (cx_seq (cx_ops ?_))
 refine ax_q (q_mov rfl) ?_
 refine ax_q (q_mov rfl) ?_
 first | refine ax_q (q_lenS_map rfl) ?_ | refine ax_q (q_lenS_osl rfl) ?_
 refine ax_q (q_ibin rfl rfl rfl) ?_
 refine ax_nil (cx_keep rfl rfl ?_)
 refine cx_cond rfl (fun h0 => ?_) (fun h0 => ?_)
 ·
  have h0 := dT h0
  have h1x : k < xs.length := by omega
  have hle := @cntN_le k0 (k + 1) xs
  have ec9 : cntN k0 (xs.take (k + 1)) = cntN k0 (xs.take k) + 1 + 1 * xs[k].Keys.length + 1 * xs[k].Kids.length := by rw [cntN_s h1x]; omega
  rw [List.drop_eq_getElem_cons h1x, List.map_cons]
  refine cx_skip ?_
  refine cx_keep rfl rfl (cx_seq (cx_block (cx_seq (cx_ops ?_))))
  refine ax_q (q_mov rfl) ?_
  refine ax_q (q_mov rfl) ?_
  refine ax_q (q_mov rfl) ?_
  refine ax_q (q_mod rfl rfl (by omega) (by omega)) ?_
  refine ax_q (q_ibin rfl rfl rfl) ?_
  refine ax_q (q_ixo rfl rfl h1x) ?_
  first | refine ax_q (q_fadr_ptr rfl) ?_ | refine ax_q (q_fadr_rptr rfl) ?_
  refine ax_e (e_strDf (row := [.bool xs[k].Leaf, .sl 1 (xs[k].Keys.map strRow), .sl 1 (xs[k].Kids.map intRow)]) (rs' := ((mkNs k0 (xs.take k)).map INode.row) ++ [.bool (decide (((cntN k0 (xs.take k) : Nat) : Int) % 3 = 0)), .sl 1 (xs[k].Keys.map strRow), .sl 1 (xs[k].Kids.map intRow)] :: ((xs.drop (k + 1)).map INode.row)) rfl rfl rfl rfl rfl (mid_get hpl) rfl (mid_set hpl)) ?_
  refine ax_nil (cx_keep rfl rfl (cx_seq (cx_ops ?_)))
  refine ax_q (q_mov rfl) ?_
  refine ax_qe (r' := int ((cntN k0 (xs.take k) + 1 : Nat) : Int)) (q_ibin rfl rfl rfl) (by rw [wi (by omega) (by omega)]; exact congrArg AM.int (by omega)) ?_
  refine ax_q (q_mov rfl) ?_
  refine ax_nil (cx_keep rfl rfl (cx_seq (cx_ops ?_)))
  refine ax_q (q_mov rfl) ?_
  refine ax_q (q_mov rfl) ?_
  refine ax_q (q_ixo rfl rfl h1x) ?_
  first | refine ax_q (q_fadr_ptr rfl) ?_ | refine ax_q (q_fadr_rptr rfl) ?_
  refine ax_wk (wk_open 1000 900 k 1 (row := [.bool (decide (((cntN k0 (xs.take k) : Nat) : Int) % 3 = 0)), .sl 1 (xs[k].Keys.map strRow), .sl 1 (xs[k].Kids.map intRow)]) (xs := xs[k].Keys.map strRow) rfl (mid_get hpl) rfl rfl rfl rfl rfl rfl) ?_
  refine ax_qe (r' := .osl 900 1 0 xs[k].Keys.length) (q_load1_hole (r := [.bool (decide (((cntN k0 (xs.take k) : Nat) : Int) % 3 = 0)), .sl 1 (xs[k].Keys.map strRow), .sl 1 (xs[k].Kids.map intRow)]) rfl rfl (mid_get hpl) rfl (by rw [hole_cons, if_pos ⟨rfl, rfl⟩])) (by rw [List.length_map]) ?_
  refine ax_q (q_mov rfl) ?_
  refine ax_call rfl (vcall_own (c_markStringS (xs := xs[k].Keys) (k0 := cntN k0 (xs.take k) + 1) (by omega)) hP hmv false (fun _ => 900) [1000] ⟨rfl, rfl, rfl, rfl, ⟨rfl, trivial⟩, rfl, rfl, rfl⟩ (.pass rfl rfl (.pass rfl rfl .nil)) ?_)
  rintro r h ⟨rfl, rfl⟩
  refine ⟨fun _ => 900, [], ⟨rfl, rfl, rfl, rfl, mem1 rfl, rfl, rfl, fun h => by cases h⟩, ?_⟩
  refine ax_wk (wk_closeE 1000 900 k 1 (row := [.bool (decide (((cntN k0 (xs.take k) : Nat) : Int) % 3 = 0)), .sl 1 (xs[k].Keys.map strRow), .sl 1 (xs[k].Kids.map intRow)]) (xs := xs[k].Keys.map strRow) (ys := (markL (fun k _ => mkT k) 1 (cntN k0 (xs.take k) + 1) xs[k].Keys).map strRow) (hs := []) (rs' := ((mkNs k0 (xs.take k)).map INode.row) ++ [.bool (decide (((cntN k0 (xs.take k) : Nat) : Int) % 3 = 0)), .sl 1 ((markL (fun k _ => mkT k) 1 (cntN k0 (xs.take k) + 1) xs[k].Keys).map strRow), .sl 1 (xs[k].Kids.map intRow)] :: ((xs.drop (k + 1)).map INode.row)) rfl rfl (mid_get hpl) rfl (by rw [List.length_map, List.length_map, markL_len]) (flat_map (fun _ => rfl)) rfl rfl rfl (mid_set hpl)) ?_
  refine ax_q (q_mov rfl) ?_
  refine ax_nil (cx_keep rfl rfl (cx_ops ?_))
  refine ax_q (q_mov rfl) ?_
  refine ax_q (q_mov rfl) ?_
  refine ax_q (q_ixo rfl rfl h1x) ?_
  first | refine ax_q (q_fadr_ptr rfl) ?_ | refine ax_q (q_fadr_rptr rfl) ?_
  refine ax_wk (wk_open 1000 901 k 2 (row := [.bool (decide (((cntN k0 (xs.take k) : Nat) : Int) % 3 = 0)), .sl 1 ((markL (fun k _ => mkT k) 1 (cntN k0 (xs.take k) + 1) xs[k].Keys).map strRow), .sl 1 (xs[k].Kids.map intRow)]) (xs := xs[k].Kids.map intRow) rfl (mid_get hpl) rfl rfl rfl rfl rfl rfl) ?_
  refine ax_qe (r' := .osl 901 1 0 xs[k].Kids.length) (q_load1_hole (r := [.bool (decide (((cntN k0 (xs.take k) : Nat) : Int) % 3 = 0)), .sl 1 ((markL (fun k _ => mkT k) 1 (cntN k0 (xs.take k) + 1) xs[k].Keys).map strRow), .sl 1 (xs[k].Kids.map intRow)]) rfl rfl (mid_get hpl) rfl (by rw [hole_cons, if_pos ⟨rfl, rfl⟩])) (by rw [List.length_map]) ?_
  refine ax_q (q_mov rfl) ?_
  refine ax_call rfl (vcall_own (c_markIntS (xs := xs[k].Kids) (k0 := cntN k0 (xs.take k) + 1 + 1 * xs[k].Keys.length) (by omega)) hP hmv false (fun _ => 901) [1000] ⟨rfl, rfl, rfl, rfl, ⟨rfl, trivial⟩, rfl, rfl, rfl⟩ (.pass rfl rfl (.pass rfl rfl .nil)) ?_)
  rintro r h ⟨rfl, rfl⟩
  refine ⟨fun _ => 901, [], ⟨rfl, rfl, rfl, rfl, mem1 rfl, rfl, rfl, fun h => by cases h⟩, ?_⟩
  refine ax_wk (wk_closeE 1000 901 k 2 (row := [.bool (decide (((cntN k0 (xs.take k) : Nat) : Int) % 3 = 0)), .sl 1 ((markL (fun k _ => mkT k) 1 (cntN k0 (xs.take k) + 1) xs[k].Keys).map strRow), .sl 1 (xs[k].Kids.map intRow)]) (xs := xs[k].Kids.map intRow) (ys := (markL (fun k _ => (k : Int)) 1 (cntN k0 (xs.take k) + 1 + 1 * xs[k].Keys.length) xs[k].Kids).map intRow) (hs := []) (rs' := (mkNs k0 (xs.take (k + 1))).map INode.row ++ ((xs.drop (k + 1)).map INode.row)) rfl rfl (mid_get hpl) rfl (by rw [List.length_map, List.length_map, markL_len]) (flat_map (fun _ => rfl)) rfl rfl rfl ((mid_set1 hpl).trans (by rw [mkNs_s h1x, List.map_append]; rfl))) ?_
  refine ax_q (q_mov rfl) ?_
  refine ax_nil (cx_keep rfl rfl (cx_ops ?_))
  refine ax_q (q_mov rfl) ?_
  refine ax_qe (r' := int ((k + 1 : Nat) : Int)) (q_ibin rfl rfl rfl) (by rw [wi (by omega) (by omega)]; rfl) ?_
  refine ax_q (q_mov rfl) ?_
  refine ax_nil ?_
  exact ⟨_, k + 1, by omega, ⟨by omega, rfl⟩, by rw [ec9]; exact by repeat constructor⟩
 ·
  have h0 := dF h0
  obtain rfl : k = xs.length := by omega
  rw [List.take_length, List.drop_length, List.map_nil, List.append_nil]
  refine cx_exit rfl ?_
  refine cx_keep rfl rfl (cx_seq (cx_ops ?_))
  refine ax_q (q_mov rfl) ?_
  refine ax_q (q_mov rfl) ?_
  refine ax_nil (cx_keep rfl rfl ?_)
  refine cx_ret (retN id [1000] rfl rfl rfl rfl rfl ?_)
  exact ⟨rfl, rfl⟩


/- loop.example/g00332/laws.markTree -/
def k_c_markTree : XCode :=
 .seq (.ops [.op (some 2) (.box (.t 0)),
   .op (some 4) (.mov (.k (.int .i64 0)))])
 (.keep [1, 2] (.seq (.ops [.op (some 5) (.fadr (.t 2) 1),
   .op (some 6) (.load1 (.t 5)),
   .op (some 7) (.mov (.t 1)),
   .call (some 8) 24 [.t 6, .t 7],
   .op (some 1) (.mov (.t 8))])
 (.keep [1] (.seq (.ops [.op (some 9) (.mov (.t 1)),
   .op (some 4) (.mov (.t 9))])
 (.keep [4] (.ret))))))
theorem k_c_markTree_fits : fitsF Try.prog 10 ⟨10, k_c_markTree, [.t 4]⟩ = true := by kernel_rfl
theorem c_markTree {a : ITree} {k0 : Nat} (hw : ITree.mkN k0 a ≤ 1000000000000000000) : Con Try.prog noMv 10 [.agg [.d (.int .i64 a.Root), .osl 1000 3 0 a.Nodes.length], int k0] [(1000, .deep 3 (a.Nodes.map INode.row) [])] (fun r h => r = int ((ITree.mkN k0 a : Nat) : Int) ∧ h = [(1000, .deep 3 ((mkNs k0 a.Nodes).map INode.row) [])]) := by
 refine con_of2 k_c_markTree_fits rfl fun C hP hmv => ?_
 unfold k_c_markTree
 refine cx_seq (cx_ops ?_)
 refine ax_e (e_box rfl rfl (by decide) rfl rfl rfl) ?_
 refine ax_q (q_mov rfl) ?_
 refine ax_nil (cx_keep rfl rfl (cx_seq (cx_ops ?_)))
 refine ax_q (q_fadr_ptr rfl) ?_
 refine ax_q (q_load1_ptr rfl rfl rfl) ?_
 refine ax_q (q_mov rfl) ?_
 refine ax_call rfl (vcall_own (c_markTreeNodeS (xs := a.Nodes) (k0 := k0) hw) hP hmv false (fun _ => 1000) [1000] ⟨rfl, rfl, rfl, rfl, ⟨rfl, trivial⟩, rfl, rfl, rfl⟩ (.pass rfl rfl (.pass rfl rfl .nil)) ?_)
 rintro r h ⟨rfl, rfl⟩
 refine ⟨fun _ => 1000, [], ⟨rfl, rfl, rfl, rfl, mem1 rfl, rfl, rfl, fun h => by cases h⟩, ?_⟩
  
 refine ax_q (q_mov rfl) ?_
 refine ax_nil (cx_keep rfl rfl (cx_seq (cx_ops ?_)))
 refine ax_q (q_mov rfl) ?_
 refine ax_q (q_mov rfl) ?_
 refine ax_nil (cx_keep rfl rfl ?_)
 refine cx_ret (retN id [1000] rfl rfl rfl rfl rfl ?_)
 exact ⟨rfl, rfl⟩


/- loop.example/g00332/laws.heldStringS -/
def k_c_heldStringS : XCode :=
 .seq (.ops [.op (some 4) (.mov (.k (.int .i64 0)))])
 (.keep [0, 1] (.seq (.seq (.ops [.op (some 5) (.mov (.k (.int .i64 0)))])
  (.keep [0, 1, 5] (.block 0 (.loop (.seq (.seq (.ops [.op (some 6) (.mov (.t 5)),
     .op (some 7) (.mov (.t 0)),
     .op (some 8) (.lenS (.t 7)),
     .op (some 9) (.bin .lss (.t 6) (.t 8))])
   (.keep [0, 1, 5, 9] (.cond (.t 9)
    (.skip)
    (.exit 0))))
   (.keep [0, 1, 5] (.seq (.block 1 (.seq (.seq (.draw [.op (some 12) (.mov (.t 0)),
      .op (some 13) (.mov (.t 5)),
      .op (some 14) (.iadr 1 (.t 12) (.t 13)),
      .op (some 15) (.load1 (.t 14)),
      .op (some 16) (.mov (.t 1)),
      .call (some 17) 63 [.t 16],
      .op (some 18) (.bin .neq (.t 15) (.t 17))])
    (.keep [0, 1, 5, 18] (.cond (.t 18)
     (.seq (.ops [.op (some 4) (.mov (.k (.int .i64 (-1))))])
     (.keep [4] (.ret)))
     (.skip))))
    (.keep [0, 1, 5] (.ops [.op (some 19) (.mov (.t 1)),
     .op (some 20) (.bin .add (.t 19) (.k (.int .i64 1))),
     .op (some 1) (.mov (.t 20))]))))
   (.keep [0, 1, 5] (.ops [.op (some 10) (.mov (.t 5)),
    .op (some 11) (.bin .add (.t 10) (.k (.int .i64 1))),
    .op (some 5) (.mov (.t 11))])))))))))
 (.keep [1] (.seq (.ops [.op (some 21) (.mov (.t 1)),
   .op (some 4) (.mov (.t 21))])
 (.keep [4] (.ret))))))
theorem k_c_heldStringS_fits : fitsF Try.prog 46 ⟨22, k_c_heldStringS, [.t 4]⟩ = true := by kernel_rfl
theorem c_heldStringS {xs : List Str} {k0 : Nat} (hw : k0 + 1 * xs.length ≤ 1000000000000000000) : Con Try.prog noMv 46 [.d (.sl 1 ((markL (fun k _ => mkT k) 1 k0 xs).map strRow)), int k0] [] (fun r h => r = int ((k0 + 1 * xs.length : Nat) : Int) ∧ h = []) := by
 refine con_of2 k_c_heldStringS_fits rfl fun C hP hmv => ?_
 unfold k_c_heldStringS
 refine cx_seq (cx_ops ?_)
 refine ax_q (q_mov rfl) ?_
 refine ax_nil (cx_keep rfl rfl (cx_seq (cx_seq (cx_ops ?_))))
 refine ax_q (q_mov rfl) ?_
 refine ax_nil (cx_keep rfl rfl (cx_block ?_))
 refine cx_loopU (fun m k => k ≤ xs.length ∧ m = xs.length - k) (fun k : Nat => [(1, int ((k0 + 1 * k : Nat) : Int)), (5, int k)]) (fun k => []) ⟨_, 0, ⟨Nat.zero_le _, rfl⟩, by repeat constructor⟩ ?_
 rintro m k ⟨hk, rfl⟩
 refine cx_seq (cx_seq (cx_ops ?_))
 refine ax_q (q_mov rfl) ?_
 refine ax_q (q_mov rfl) ?_
 refine ax_q (q_lenS_map rfl) ?_
 refine ax_q (q_ibin rfl rfl rfl) ?_
 refine ax_nil (cx_keep rfl rfl ?_)
 refine cx_cond rfl (fun h0 => ?_) (fun h0 => ?_)
 ·
  have h0 := dT h0; rw [markL_len] at h0; have h1x : k < xs.length := by omega
  refine cx_skip ?_
  refine cx_keep rfl rfl (cx_seq (cx_block (cx_seq (cx_seq (cx_draw ?_)))))
  refine ax_q (q_mov rfl) ?_
  refine ax_q (q_mov rfl) ?_
  refine ax_q (q_ix rfl rfl (heldAt h1x)) ?_
  first | refine ax_q (q_load1_ptr rfl rfl rfl) ?_ | refine ax_q (q_load1_ip rfl) ?_
  refine ax_q (q_mov rfl) ?_
  refine ax_callq rfl (c_markText (by omega)) hP (lal_id _ rfl) rfl ?_
  refine ax_q (q_sbin rfl rfl rfl) ?_
  refine ax_nil (cx_keep rfl rfl ?_)
  refine cx_cond rfl (fun h1 => ?_) (fun h1 => ?_)
  ·
   have h1 := nT h1
   exact absurd rfl h1
  ·
   have h1 := nF h1
   refine cx_skip ?_
   refine cx_keep rfl rfl (cx_ops ?_)
   refine ax_q (q_mov rfl) ?_
   refine ax_qe (r' := int ((k0 + 1 * k + 1 : Nat) : Int)) (q_ibin rfl rfl rfl) (by rw [wi (by omega) (by omega)]; rfl) ?_
   refine ax_q (q_mov rfl) ?_
   refine ax_nil (cx_keep rfl rfl (cx_ops ?_))
   refine ax_q (q_mov rfl) ?_
   refine ax_qe (r' := int ((k + 1 : Nat) : Int)) (q_ibin rfl rfl rfl) (by rw [wi (by omega) (by omega)]; rfl) ?_
   refine ax_q (q_mov rfl) ?_
   refine ax_nil ?_
   exact ⟨_, k + 1, by omega, ⟨by omega, rfl⟩, by repeat constructor⟩
 ·
  have h0 := dF h0; rw [markL_len] at h0; have h1x : k = xs.length := by omega
  refine cx_exit rfl ?_
  refine cx_keep rfl rfl (cx_seq (cx_ops ?_))
  refine ax_q (q_mov rfl) ?_
  refine ax_q (q_mov rfl) ?_
  refine ax_nil (cx_keep rfl rfl ?_)
  refine cx_ret (ret0 rfl rfl ?_)
  exact ⟨by rw [h1x]; rfl, rfl⟩


/- loop.example/g00332/laws.heldIntS -/
def k_c_heldIntS : XCode :=
 .seq (.ops [.op (some 4) (.mov (.k (.int .i64 0)))])
 (.keep [0, 1] (.seq (.seq (.ops [.op (some 5) (.mov (.k (.int .i64 0)))])
  (.keep [0, 1, 5] (.block 0 (.loop (.seq (.seq (.ops [.op (some 6) (.mov (.t 5)),
     .op (some 7) (.mov (.t 0)),
     .op (some 8) (.lenS (.t 7)),
     .op (some 9) (.bin .lss (.t 6) (.t 8))])
   (.keep [0, 1, 5, 9] (.cond (.t 9)
    (.skip)
    (.exit 0))))
   (.keep [0, 1, 5] (.seq (.block 1 (.seq (.seq (.ops [.op (some 12) (.mov (.t 0)),
      .op (some 13) (.mov (.t 5)),
      .op (some 14) (.iadr 1 (.t 12) (.t 13)),
      .op (some 15) (.load1 (.t 14)),
      .op (some 16) (.mov (.t 1)),
      .op (some 17) (.bin .neq (.t 15) (.t 16))])
    (.keep [0, 1, 5, 17] (.cond (.t 17)
     (.seq (.ops [.op (some 4) (.mov (.k (.int .i64 (-1))))])
     (.keep [4] (.ret)))
     (.skip))))
    (.keep [0, 1, 5] (.ops [.op (some 18) (.mov (.t 1)),
     .op (some 19) (.bin .add (.t 18) (.k (.int .i64 1))),
     .op (some 1) (.mov (.t 19))]))))
   (.keep [0, 1, 5] (.ops [.op (some 10) (.mov (.t 5)),
    .op (some 11) (.bin .add (.t 10) (.k (.int .i64 1))),
    .op (some 5) (.mov (.t 11))])))))))))
 (.keep [1] (.seq (.ops [.op (some 20) (.mov (.t 1)),
   .op (some 4) (.mov (.t 20))])
 (.keep [4] (.ret))))))
theorem k_c_heldIntS_fits : fitsF Try.prog 47 ⟨21, k_c_heldIntS, [.t 4]⟩ = true := by kernel_rfl
theorem c_heldIntS {xs : List Int} {k0 : Nat} (hw : k0 + 1 * xs.length ≤ 1000000000000000000) : Con Try.prog noMv 47 [.d (.sl 1 ((markL (fun k _ => (k : Int)) 1 k0 xs).map intRow)), int k0] [] (fun r h => r = int ((k0 + 1 * xs.length : Nat) : Int) ∧ h = []) := by
 refine con_of2 k_c_heldIntS_fits rfl fun C hP hmv => ?_
 unfold k_c_heldIntS
 refine cx_seq (cx_ops ?_)
 refine ax_q (q_mov rfl) ?_
 refine ax_nil (cx_keep rfl rfl (cx_seq (cx_seq (cx_ops ?_))))
 refine ax_q (q_mov rfl) ?_
 refine ax_nil (cx_keep rfl rfl (cx_block ?_))
 refine cx_loopU (fun m k => k ≤ xs.length ∧ m = xs.length - k) (fun k : Nat => [(1, int ((k0 + 1 * k : Nat) : Int)), (5, int k)]) (fun k => []) ⟨_, 0, ⟨Nat.zero_le _, rfl⟩, by repeat constructor⟩ ?_
 rintro m k ⟨hk, rfl⟩
 refine cx_seq (cx_seq (cx_ops ?_))
 refine ax_q (q_mov rfl) ?_
 refine ax_q (q_mov rfl) ?_
 refine ax_q (q_lenS_map rfl) ?_
 refine ax_q (q_ibin rfl rfl rfl) ?_
 refine ax_nil (cx_keep rfl rfl ?_)
 refine cx_cond rfl (fun h0 => ?_) (fun h0 => ?_)
 ·
  have h0 := dT h0; rw [markL_len] at h0; have h1x : k < xs.length := by omega
  refine cx_skip ?_
  refine cx_keep rfl rfl (cx_seq (cx_block (cx_seq (cx_seq (cx_ops ?_)))))
  refine ax_q (q_mov rfl) ?_
  refine ax_q (q_mov rfl) ?_
  refine ax_q (q_ix rfl rfl (heldAt h1x)) ?_
  first | refine ax_q (q_load1_ptr rfl rfl rfl) ?_ | refine ax_q (q_load1_ip rfl) ?_
  refine ax_q (q_mov rfl) ?_
  refine ax_q (q_ibin rfl rfl rfl) ?_
  refine ax_nil (cx_keep rfl rfl ?_)
  refine cx_cond rfl (fun h1 => ?_) (fun h1 => ?_)
  ·
   have h1 := nT h1
   exact absurd rfl h1
  ·
   have h1 := nF h1
   refine cx_skip ?_
   refine cx_keep rfl rfl (cx_ops ?_)
   refine ax_q (q_mov rfl) ?_
   refine ax_qe (r' := int ((k0 + 1 * k + 1 : Nat) : Int)) (q_ibin rfl rfl rfl) (by rw [wi (by omega) (by omega)]; rfl) ?_
   refine ax_q (q_mov rfl) ?_
   refine ax_nil (cx_keep rfl rfl (cx_ops ?_))
   refine ax_q (q_mov rfl) ?_
   refine ax_qe (r' := int ((k + 1 : Nat) : Int)) (q_ibin rfl rfl rfl) (by rw [wi (by omega) (by omega)]; rfl) ?_
   refine ax_q (q_mov rfl) ?_
   refine ax_nil ?_
   exact ⟨_, k + 1, by omega, ⟨by omega, rfl⟩, by repeat constructor⟩
 ·
  have h0 := dF h0; rw [markL_len] at h0; have h1x : k = xs.length := by omega
  refine cx_exit rfl ?_
  refine cx_keep rfl rfl (cx_seq (cx_ops ?_))
  refine ax_q (q_mov rfl) ?_
  refine ax_q (q_mov rfl) ?_
  refine ax_nil (cx_keep rfl rfl ?_)
  refine cx_ret (ret0 rfl rfl ?_)
  exact ⟨by rw [h1x]; rfl, rfl⟩


/- loop.example/g00332/laws.heldTreeNodeS -/
def k_c_heldTreeNodeS : XCode :=
 .seq (.ops [.op (some 4) (.mov (.k (.int .i64 0)))])
 (.keep [0, 1] (.seq (.seq (.ops [.op (some 5) (.mov (.k (.int .i64 0)))])
  (.keep [0, 1, 5] (.block 0 (.loop (.seq (.seq (.ops [.op (some 6) (.mov (.t 5)),
     .op (some 7) (.mov (.t 0)),
     .op (some 8) (.lenS (.t 7)),
     .op (some 9) (.bin .lss (.t 6) (.t 8))])
   (.keep [0, 1, 5, 9] (.cond (.t 9)
    (.skip)
    (.exit 0))))
   (.keep [0, 1, 5] (.seq (.block 1 (.seq (.seq (.ops [.op (some 12) (.mov (.t 0)),
      .op (some 13) (.mov (.t 5)),
      .op (some 14) (.iadr 3 (.t 12) (.t 13)),
      .op (some 15) (.fadr (.t 14) 0),
      .op (some 16) (.load1 (.t 15)),
      .op (some 17) (.mov (.t 1)),
      .op (some 18) (.bin .rem (.t 17) (.k (.int .i64 3))),
      .op (some 19) (.bin .eql (.t 18) (.k (.int .i64 0))),
      .op (some 20) (.eqb true (.t 16) (.t 19))])
    (.keep [0, 1, 5, 20] (.cond (.t 20)
     (.seq (.ops [.op (some 4) (.mov (.k (.int .i64 (-1))))])
     (.keep [4] (.ret)))
     (.skip))))
    (.keep [0, 1, 5] (.seq (.ops [.op (some 21) (.mov (.t 1)),
     .op (some 22) (.bin .add (.t 21) (.k (.int .i64 1))),
     .op (some 1) (.mov (.t 22))])
    (.keep [0, 1, 5] (.seq (.ops [.op (some 23) (.mov (.t 0)),
     .op (some 24) (.mov (.t 5)),
     .op (some 25) (.iadr 3 (.t 23) (.t 24)),
     .op (some 26) (.fadr (.t 25) 1),
     .op (some 27) (.load1 (.t 26)),
     .op (some 28) (.mov (.t 1)),
     .call (some 29) 46 [.t 27, .t 28],
     .op (some 1) (.mov (.t 29))])
    (.keep [0, 1, 5] (.seq (.seq (.ops [.op (some 30) (.mov (.t 1)),
      .op (some 31) (.bin .lss (.t 30) (.k (.int .i64 0)))])
    (.keep [0, 1, 5, 31] (.cond (.t 31)
     (.seq (.ops [.op (some 4) (.mov (.k (.int .i64 (-1))))])
     (.keep [4] (.ret)))
     (.skip))))
    (.keep [0, 1, 5] (.seq (.ops [.op (some 32) (.mov (.t 0)),
     .op (some 33) (.mov (.t 5)),
     .op (some 34) (.iadr 3 (.t 32) (.t 33)),
     .op (some 35) (.fadr (.t 34) 2),
     .op (some 36) (.load1 (.t 35)),
     .op (some 37) (.mov (.t 1)),
     .call (some 38) 47 [.t 36, .t 37],
     .op (some 1) (.mov (.t 38))])
    (.keep [0, 1, 5] (.seq (.ops [.op (some 39) (.mov (.t 1)),
     .op (some 40) (.bin .lss (.t 39) (.k (.int .i64 0)))])
    (.keep [0, 1, 5, 40] (.cond (.t 40)
    (.seq (.ops [.op (some 4) (.mov (.k (.int .i64 (-1))))])
     (.keep [4] (.ret)))
    (.skip)))))))))))))))
   (.keep [0, 1, 5] (.ops [.op (some 10) (.mov (.t 5)),
    .op (some 11) (.bin .add (.t 10) (.k (.int .i64 1))),
    .op (some 5) (.mov (.t 11))])))))))))
 (.keep [1] (.seq (.ops [.op (some 41) (.mov (.t 1)),
   .op (some 4) (.mov (.t 41))])
 (.keep [4] (.ret))))))
theorem k_c_heldTreeNodeS_fits : fitsF Try.prog 25 ⟨42, k_c_heldTreeNodeS, [.t 4]⟩ = true := by kernel_rfl
theorem c_heldTreeNodeS {xs : List INode} {k0 : Nat} (hw : cntN k0 xs ≤ 1000000000000000000) : Con Try.prog noMv 25 [.d (.sl 3 ((mkNs k0 xs).map INode.row)), int k0] [] (fun r h => r = int ((cntN k0 xs : Nat) : Int) ∧ h = []) := by
 refine con_of2 k_c_heldTreeNodeS_fits rfl fun C hP hmv => ?_
 unfold k_c_heldTreeNodeS
 have hge := @cntN_ge k0 xs
 have hml := @mkNs_len xs k0
 refine cx_seq (cx_ops ?_)
 refine ax_q (q_mov rfl) ?_
 refine ax_nil (cx_keep rfl rfl (cx_seq (cx_seq (cx_ops ?_))))
 refine ax_q (q_mov rfl) ?_
 refine ax_nil (cx_keep rfl rfl (cx_block ?_))
 refine cx_loopU (fun n k => k ≤ xs.length ∧ n = xs.length - k) (fun k : Nat => [(5, int k), (1, int ((cntN k0 (xs.take k) : Nat) : Int))]) (fun k => []) ⟨_, 0, ⟨Nat.zero_le _, rfl⟩, by repeat constructor⟩ ?_
 rintro n k ⟨hk, rfl⟩
 refine cx_seq (cx_seq (cx_ops ?_))
 refine ax_q (q_mov rfl) ?_
 refine ax_q (q_mov rfl) ?_
 refine ax_q (q_lenS_map rfl) ?_
 refine ax_q (q_ibin rfl rfl rfl) ?_
 refine ax_nil (cx_keep rfl rfl ?_)
 refine cx_cond rfl (fun h0 => ?_) (fun h0 => ?_)
 ·
  have h0 := dT h0
  have h1x : k < xs.length := by omega
  have hat := mapO (row := INode.row) (mkNs_at (k0 := k0) h1x)
  have hle := @cntN_le k0 (k + 1) xs
  have ec9 : cntN k0 (xs.take (k + 1)) = cntN k0 (xs.take k) + 1 + 1 * xs[k].Keys.length + 1 * xs[k].Kids.length := by rw [cntN_s h1x]; omega
  refine cx_skip ?_
  refine cx_keep rfl rfl (cx_seq (cx_block (cx_seq (cx_seq (cx_ops ?_)))))
  refine ax_q (q_mov rfl) ?_
  refine ax_q (q_mov rfl) ?_
  refine ax_q (q_ix rfl rfl hat) ?_
  first | refine ax_q (q_fadr_ptr rfl) ?_ | refine ax_q (q_fadr_rptr rfl) ?_ | refine ax_q (q_fadr_ip rfl) ?_
  first | refine ax_q (q_load1_ptr rfl rfl rfl) ?_ | refine ax_q (q_load1_ip rfl) ?_
  refine ax_q (q_mov rfl) ?_
  refine ax_q (q_mod rfl rfl (by omega) (by omega)) ?_
  refine ax_q (q_ibin rfl rfl rfl) ?_
  refine ax_q (q_eqb rfl rfl) ?_
  refine ax_nil (cx_keep rfl rfl ?_)
  refine cx_cond rfl (fun h1 => ?_) (fun h1 => ?_)
  ·
   have h1 := bneT h1
   exact absurd rfl h1
  ·
   have h1 := bneF h1
   refine cx_skip ?_
   refine cx_keep rfl rfl (cx_seq (cx_ops ?_))
   refine ax_q (q_mov rfl) ?_
   refine ax_qe (r' := int ((cntN k0 (xs.take k) + 1 : Nat) : Int)) (q_ibin rfl rfl rfl) (by rw [wi (by omega) (by omega)]; exact congrArg AM.int (by omega)) ?_
   refine ax_q (q_mov rfl) ?_
   refine ax_nil (cx_keep rfl rfl (cx_seq (cx_ops ?_)))
   refine ax_q (q_mov rfl) ?_
   refine ax_q (q_mov rfl) ?_
   refine ax_q (q_ix rfl rfl hat) ?_
   first | refine ax_q (q_fadr_ptr rfl) ?_ | refine ax_q (q_fadr_rptr rfl) ?_ | refine ax_q (q_fadr_ip rfl) ?_
   first | refine ax_q (q_load1_ptr rfl rfl rfl) ?_ | refine ax_q (q_load1_ip rfl) ?_
   refine ax_q (q_mov rfl) ?_
   refine ax_call rfl (vc_pure0 (c_heldStringS (xs := xs[k].Keys) (k0 := cntN k0 (xs.take k) + 1) ?_) hP rfl rfl ?_)
   ·
    first | assumption | omega
   refine ax_q (q_mov rfl) ?_
   refine ax_nil (cx_keep rfl rfl (cx_seq (cx_seq (cx_ops ?_))))
   refine ax_q (q_mov rfl) ?_
   refine ax_q (q_ibin rfl rfl rfl) ?_
   refine ax_nil (cx_keep rfl rfl ?_)
   refine cx_cond rfl (fun h2 => ?_) (fun h2 => ?_)
   ·
    have h2 := dT h2
    exfalso; omega
   ·
    have h2 := dF h2
    refine cx_skip ?_
    refine cx_keep rfl rfl (cx_seq (cx_ops ?_))
    refine ax_q (q_mov rfl) ?_
    refine ax_q (q_mov rfl) ?_
    refine ax_q (q_ix rfl rfl hat) ?_
    first | refine ax_q (q_fadr_ptr rfl) ?_ | refine ax_q (q_fadr_rptr rfl) ?_ | refine ax_q (q_fadr_ip rfl) ?_
    first | refine ax_q (q_load1_ptr rfl rfl rfl) ?_ | refine ax_q (q_load1_ip rfl) ?_
    refine ax_q (q_mov rfl) ?_
    refine ax_call rfl (vc_pure0 (c_heldIntS (xs := xs[k].Kids) (k0 := cntN k0 (xs.take k) + 1 + 1 * xs[k].Keys.length) ?_) hP rfl rfl ?_)
    ·
     first | assumption | omega
    refine ax_q (q_mov rfl) ?_
    refine ax_nil (cx_keep rfl rfl (cx_seq (cx_ops ?_)))
    refine ax_q (q_mov rfl) ?_
    refine ax_q (q_ibin rfl rfl rfl) ?_
    refine ax_nil (cx_keep rfl rfl ?_)
    refine cx_cond rfl (fun h3 => ?_) (fun h3 => ?_)
    ·
     have h3 := dT h3
     exfalso; omega
    ·
     have h3 := dF h3
     refine cx_skip ?_
     refine cx_keep rfl rfl (cx_ops ?_)
     refine ax_q (q_mov rfl) ?_
     refine ax_qe (r' := int ((k + 1 : Nat) : Int)) (q_ibin rfl rfl rfl) (by rw [wi (by omega) (by omega)]; rfl) ?_
     refine ax_q (q_mov rfl) ?_
     refine ax_nil ?_
     exact ⟨_, k + 1, by omega, ⟨by omega, rfl⟩, by rw [ec9]; exact by repeat constructor⟩
 ·
  have h0 := dF h0
  obtain rfl : k = xs.length := by omega
  rw [List.take_length]
  refine cx_exit rfl ?_
  refine cx_keep rfl rfl (cx_seq (cx_ops ?_))
  refine ax_q (q_mov rfl) ?_
  refine ax_q (q_mov rfl) ?_
  refine ax_nil (cx_keep rfl rfl ?_)
  refine cx_ret (ret0 rfl rfl ?_)
  exact ⟨rfl, rfl⟩


/- loop.example/g00332/laws.heldTree -/
def k_c_heldTree : XCode :=
 .seq (.ops [.op (some 2) (.box (.t 0)),
   .op (some 4) (.mov (.k (.int .i64 0)))])
 (.keep [1, 2] (.seq (.ops [.op (some 5) (.fadr (.t 2) 1),
   .op (some 6) (.load1 (.t 5)),
   .op (some 7) (.mov (.t 1)),
   .call (some 8) 25 [.t 6, .t 7],
   .op (some 1) (.mov (.t 8))])
 (.keep [1] (.seq (.seq (.ops [.op (some 9) (.mov (.t 1)),
   .op (some 10) (.bin .lss (.t 9) (.k (.int .i64 0)))])
  (.keep [1, 10] (.cond (.t 10)
  (.seq (.ops [.op (some 4) (.mov (.k (.int .i64 (-1))))])
   (.keep [4] (.ret)))
  (.skip))))
 (.keep [1] (.seq (.ops [.op (some 11) (.mov (.t 1)),
   .op (some 4) (.mov (.t 11))])
 (.keep [4] (.ret))))))))
theorem k_c_heldTree_fits : fitsF Try.prog 11 ⟨12, k_c_heldTree, [.t 4]⟩ = true := by kernel_rfl
theorem c_heldTree {a : ITree} {k0 : Nat} (hw : ITree.mkN k0 a ≤ 1000000000000000000) : Con Try.prog noMv 11 [.agg [.d (.int .i64 a.Root), .d (.sl 3 ((mkNs k0 a.Nodes).map INode.row))], int k0] [] (fun r h => r = int ((ITree.mkN k0 a : Nat) : Int) ∧ h = []) := by
 refine con_of2 k_c_heldTree_fits rfl fun C hP hmv => ?_
 unfold k_c_heldTree
 refine cx_seq (cx_ops ?_)
 refine ax_e (e_box rfl rfl (by decide) rfl rfl rfl) ?_
 refine ax_q (q_mov rfl) ?_
 refine ax_nil (cx_keep rfl rfl (cx_seq (cx_ops ?_)))
 refine ax_q (q_fadr_ptr rfl) ?_
 refine ax_q (q_load1_ptr rfl rfl rfl) ?_
 refine ax_q (q_mov rfl) ?_
 refine ax_call rfl (vc_pure0 (c_heldTreeNodeS (xs := a.Nodes) (k0 := k0) ?_) hP rfl rfl ?_)
 ·
  assumption
 refine ax_q (q_mov rfl) ?_
 refine ax_nil (cx_keep rfl rfl (cx_seq (cx_seq (cx_ops ?_))))
 refine ax_q (q_mov rfl) ?_
 refine ax_q (q_ibin rfl rfl rfl) ?_
 refine ax_nil (cx_keep rfl rfl ?_)
 refine cx_cond rfl (fun h0 => ?_) (fun h0 => ?_)
 ·
  have h0 := dT h0
  exfalso; omega
 ·
  have h0 := dF h0
  refine cx_skip ?_
  refine cx_keep rfl rfl (cx_seq (cx_ops ?_))
  refine ax_q (q_mov rfl) ?_
  refine ax_q (q_mov rfl) ?_
  refine ax_nil (cx_keep rfl rfl ?_)
  refine cx_ret (ret0 rfl rfl ?_)
  exact ⟨rfl, rfl⟩


/- loop.example/g00332/spec.l01In -/
def k_c_l01In : XCode :=
 .seq (.ops [.op (some 6) (.mov (.k (.bool false)))])
 (.keep [0, 1, 2] (.seq (.ops [.op (some 7) (.mov (.t 1)),
   .op (some 8) (.mov (.t 0)),
   .op (some 9) (.bin .leq (.t 7) (.t 8)),
   .op (some 10) (.mov (.t 9)),
   .andor 14 true 3 10 [.op (some 11) (.mov (.t 0)), .op (some 12) (.mov (.t 2)), .op (some 13) (.bin .leq (.t 11) (.t 12))] (.t 13),
   .op (some 6) (.mov (.t 14))])
 (.keep [6] (.ret))))
theorem k_c_l01In_fits : fitsF Try.prog 51 ⟨15, k_c_l01In, [.t 6]⟩ = true := by kernel_rfl
theorem c_l01In {n lo hi : Int} : Con Try.prog noMv 51 [int n, int lo, int hi] [] (fun r h => r = bool (inR n lo hi) ∧ h = []) := by
 refine con_of2 k_c_l01In_fits rfl fun C hP hmv => ?_
 unfold k_c_l01In
 refine cx_seq (cx_ops ?_)
 refine ax_q (q_mov rfl) ?_
 refine ax_nil (cx_keep rfl rfl (cx_seq (cx_ops ?_)))
 refine ax_q (q_mov rfl) ?_
 refine ax_q (q_mov rfl) ?_
 refine ax_q (q_ibin rfl rfl rfl) ?_
 refine ax_q (q_mov rfl) ?_
 apply ax_and rfl rfl
 ·
  intro g
  have g := dT g
  refine ax_q (q_mov rfl) ?_
  refine ax_q (q_mov rfl) ?_
  refine ax_q (q_ibin rfl rfl rfl) ?_
  exact ax_nil ⟨rfl, by repeat constructor⟩
 refine ax_q (q_mov rfl) ?_
 refine ax_nil (cx_keep rfl rfl ?_)
 refine cx_ret (ret0 rfl rfl ?_)
 exact ⟨rfl, rfl⟩


/- loop.example/g00332/spec.l09Key -/
def k_c_l09Key : XCode :=
 .seq (.ops [.op (some 2) (.mov (.k (.bool false)))])
 (.keep [0] (.seq (.ops [.op (some 3) (.mov (.t 0)),
   .op (some 4) (.lenT (.t 3)),
   .call (some 5) 51 [.t 4, .k (.int .i64 1), .k (.int .i64 30)],
   .op (some 2) (.mov (.t 5))])
 (.keep [2] (.ret))))
theorem k_c_l09Key_fits : fitsF Try.prog 29 ⟨6, k_c_l09Key, [.t 2]⟩ = true := by kernel_rfl
theorem c_l09Key {s : Str} : Con Try.prog noMv 29 [str s] [] (fun r h => r = bool (inR s.length 1 30) ∧ h = []) := by
 refine con_of2 k_c_l09Key_fits rfl fun C hP hmv => ?_
 unfold k_c_l09Key
 refine cx_seq (cx_ops ?_)
 refine ax_q (q_mov rfl) ?_
 refine ax_nil (cx_keep rfl rfl (cx_seq (cx_ops ?_)))
 refine ax_q (q_mov rfl) ?_
 refine ax_q (q_lenT rfl) ?_
 refine ax_call rfl (vc_pure0 (c_l01In  ) hP rfl rfl ?_)
 refine ax_q (q_mov rfl) ?_
 refine ax_nil (cx_keep rfl rfl ?_)
 refine cx_ret (ret0 rfl rfl ?_)
 exact ⟨rfl, rfl⟩


/- (ptr loop.example/g00332/spec.l09Look).walk -/
def k_c_walk_look : XCode :=
 .seq (.ops [.op (some 4) (.mov (.k (.int .i64 0)))])
 (.keep [0, 1] (.seq (.seq (.ops [.op (some 10) (.mov (.t 1)),
   .op (some 11) (.mov (.t 0)),
   .op (some 12) (.nilck (.t 11)),
   .op (some 13) (.fadr (.t 12) 0),
   .op (some 14) (.fadr (.t 13) 1),
   .op (some 15) (.load1 (.t 14)),
   .op (some 16) (.lenS (.t 15)),
   .op (some 17) (.bin .sub (.t 16) (.k (.int .i64 1))),
   .call (some 18) 51 [.t 10, .k (.int .i64 0), .t 17],
   .op (some 19) (.not (.t 18)),
   .op (some 20) (.mov (.t 19)),
   .andor 28 false 10 20 [.op (some 21) (.mov (.t 0)), .op (some 22) (.nilck (.t 21)), .op (some 23) (.fadr (.t 22) 2), .op (some 24) (.load1 (.t 23)), .op (some 25) (.mov (.t 1)), .op (some 26) (.iadr 1 (.t 24) (.t 25)), .op (some 27) (.load1 (.t 26))] (.t 27)])
  (.keep [0, 1, 28] (.cond (.t 28)
  (.seq (.ops [.op (some 29) (.mov (.t 0)),
    .op (some 30) (.nilck (.t 29)),
    .op (some 31) (.fadr (.t 30) 3),
    .op none (.store 1 (.t 31) (.k (.bool false)))])
   (.keep [] (.seq (.ops [.op (some 4) (.mov (.k (.int .i64 0)))])
   (.keep [4] (.ret)))))
  (.skip))))
 (.keep [0, 1] (.seq (.ops [.op (some 32) (.mov (.t 0)),
   .op (some 33) (.nilck (.t 32)),
   .op (some 34) (.fadr (.t 33) 2),
   .op (some 35) (.load1 (.t 34)),
   .op (some 36) (.mov (.t 1)),
   .op (some 37) (.iadr 1 (.t 35) (.t 36)),
   .op none (.store 1 (.t 37) (.k (.bool true)))])
 (.keep [0, 1] (.seq (.ops [.op (some 38) (.mov (.t 0)),
   .op (some 39) (.nilck (.t 38)),
   .op (some 40) (.fadr (.t 39) 0),
   .op (some 41) (.fadr (.t 40) 1),
   .op (some 42) (.load1 (.t 41)),
   .op (some 43) (.mov (.t 1)),
   .op (some 44) (.iadr 3 (.t 42) (.t 43)),
   .op (some 45) (.loadN 3 (.t 44)),
   .op (some 5) (.alloc [.bool false, .nils 1, .nils 1]),
   .op none (.store 3 (.t 5) (.t 45))])
 (.keep [0, 1, 5] (.seq (.seq (.ops [.op (some 46) (.fadr (.t 5) 1),
   .op (some 47) (.load1 (.t 46)),
   .op (some 48) (.lenS (.t 47)),
   .op (some 49) (.bin .gtr (.t 48) (.k (.int .i64 4)))])
  (.keep [0, 1, 5, 49] (.cond (.t 49)
  (.seq (.ops [.op (some 50) (.mov (.t 0)),
    .op (some 51) (.nilck (.t 50)),
    .op (some 52) (.fadr (.t 51) 3),
    .op none (.store 1 (.t 52) (.k (.bool false)))])
   (.keep [] (.seq (.ops [.op (some 4) (.mov (.k (.int .i64 0)))])
   (.keep [4] (.ret)))))
  (.skip))))
 (.keep [0, 1, 5] (.seq (.seq (.ops [.op (some 53) (.fadr (.t 5) 0),
   .op (some 54) (.load1 (.t 53))])
  (.keep [0, 1, 5, 54] (.cond (.t 54)
  (.seq (.seq (.ops [.op (some 55) (.fadr (.t 5) 2),
     .op (some 56) (.load1 (.t 55)),
     .op (some 57) (.lenS (.t 56)),
     .op (some 58) (.bin .gtr (.t 57) (.k (.int .i64 0))),
     .op (some 59) (.mov (.t 58)),
     .andor 73 false 4 59 [.op (some 60) (.fadr (.t 5) 1), .op (some 61) (.load1 (.t 60)), .op (some 62) (.lenS (.t 61)), .op (some 63) (.bin .eql (.t 62) (.k (.int .i64 0))), .op (some 64) (.mov (.t 63)), .andor 72 true 9 64 [.op (some 65) (.mov (.t 1)), .op (some 66) (.mov (.t 0)), .op (some 67) (.nilck (.t 66)), .op (some 68) (.fadr (.t 67) 0), .op (some 69) (.fadr (.t 68) 0), .op (some 70) (.load1 (.t 69)), .op (some 71) (.bin .neq (.t 65) (.t 70))] (.t 71)] (.t 72)])
   (.keep [0, 5, 73] (.cond (.t 73)
    (.ops [.op (some 74) (.mov (.t 0)),
     .op (some 75) (.nilck (.t 74)),
     .op (some 76) (.fadr (.t 75) 3),
     .op none (.store 1 (.t 76) (.k (.bool false)))])
    (.skip))))
   (.keep [0, 5] (.seq (.drawE [[], [], [1], [1, 2], [1, 2, 3], [], [5], [1, 2, 3, 4, 5, 6], [0, 1, 2, 3, 4, 5, 6, 7], [0, 1, 2, 3, 4, 5, 6, 7, 8], [0, 1, 2, 3, 4, 5, 6, 7, 8, 9]] [.op (some 77) (.mov (.t 0)),
    .op (some 78) (.mov (.t 0)),
    .op (some 79) (.nilck (.t 78)),
    .op (some 80) (.fadr (.t 79) 4),
    .op (some 81) (.load1 (.t 80)),
    .op (some 82) (.fadr (.t 5) 1),
    .op (some 83) (.load1 (.t 82)),
    .op (some 84) (.app 1 16 [.str []] (.t 81) (.t 83))]
    [.op (some 85) (.nilck (.t 77)),
    .op (some 86) (.fadr (.t 85) 4),
    .op none (.store 1 (.t 86) (.t 84))])
   (.keep [] (.seq (.ops [.op (some 4) (.mov (.k (.int .i64 1)))])
   (.keep [4] (.ret)))))))
  (.skip))))
 (.keep [0, 5] (.seq (.seq (.ops [.op (some 87) (.fadr (.t 5) 2),
   .op (some 88) (.load1 (.t 87)),
   .op (some 89) (.lenS (.t 88)),
   .op (some 90) (.fadr (.t 5) 1),
   .op (some 91) (.load1 (.t 90)),
   .op (some 92) (.lenS (.t 91)),
   .op (some 93) (.bin .add (.t 92) (.k (.int .i64 1))),
   .op (some 94) (.bin .neq (.t 89) (.t 93)),
   .op (some 95) (.mov (.t 94)),
   .andor 100 false 8 95 [.op (some 96) (.fadr (.t 5) 2), .op (some 97) (.load1 (.t 96)), .op (some 98) (.lenS (.t 97)), .op (some 99) (.bin .lss (.t 98) (.k (.int .i64 2)))] (.t 99)])
  (.keep [0, 5, 100] (.cond (.t 100)
  (.seq (.ops [.op (some 101) (.mov (.t 0)),
    .op (some 102) (.nilck (.t 101)),
    .op (some 103) (.fadr (.t 102) 3),
    .op none (.store 1 (.t 103) (.k (.bool false)))])
   (.keep [] (.seq (.ops [.op (some 4) (.mov (.k (.int .i64 0)))])
   (.keep [4] (.ret)))))
  (.skip))))
 (.keep [0, 5] (.seq (.ops [.op (some 6) (.mov (.k (.int .i64 0)))])
 (.keep [0, 5, 6] (.seq (.seq (.ops [.op (some 7) (.mov (.k (.int .i64 0)))])
  (.keep [0, 5, 6, 7] (.block 0 (.loop (.seq (.seq (.ops [.op (some 104) (.mov (.t 7)),
     .op (some 105) (.fadr (.t 5) 2),
     .op (some 106) (.load1 (.t 105)),
     .op (some 107) (.lenS (.t 106)),
     .op (some 108) (.bin .lss (.t 104) (.t 107)),
     .op (some 109) (.mov (.t 108)),
     .andor 114 true 5 109 [.op (some 110) (.mov (.t 0)), .op (some 111) (.nilck (.t 110)), .op (some 112) (.fadr (.t 111) 3), .op (some 113) (.load1 (.t 112))] (.t 113)])
   (.keep [0, 5, 6, 7, 114] (.cond (.t 114)
    (.skip)
    (.exit 0))))
   (.keep [0, 5, 6, 7] (.seq (.block 1 (.seq (.ops [.op (some 117) (.mov (.t 0)),
     .op (some 118) (.nilck (.t 117)),
     .op (some 119) (.fadr (.t 118) 4),
     .op (some 120) (.load1 (.t 119)),
     .op (some 121) (.lenS (.t 120)),
     .op (some 8) (.mov (.t 121))])
    (.keep [0, 5, 6, 7, 8] (.seq (.ops [.op (some 122) (.mov (.t 0)),
     .op (some 123) (.fadr (.t 5) 2),
     .op (some 124) (.load1 (.t 123)),
     .op (some 125) (.mov (.t 7)),
     .op (some 126) (.iadr 1 (.t 124) (.t 125)),
     .op (some 127) (.load1 (.t 126)),
     .call (some 128) 50 [.t 122, .t 127],
     .op (some 9) (.mov (.t 128))])
    (.keep [0, 5, 6, 7, 8, 9] (.seq (.seq (.draw [.op (some 129) (.mov (.t 7)),
      .op (some 130) (.bin .gtr (.t 129) (.k (.int .i64 0))),
      .op (some 131) (.mov (.t 130)),
      .andor 160 true 2 131 [.op (some 132) (.mov (.t 9)), .op (some 133) (.mov (.t 6)), .op (some 134) (.bin .neq (.t 132) (.t 133)), .op (some 135) (.mov (.t 134)), .andor 143 false 6 135 [.op (some 136) (.mov (.t 8)), .op (some 137) (.mov (.t 0)), .op (some 138) (.nilck (.t 137)), .op (some 139) (.fadr (.t 138) 4), .op (some 140) (.load1 (.t 139)), .op (some 141) (.lenS (.t 140)), .op (some 142) (.bin .eql (.t 136) (.t 141))] (.t 142), .op (some 144) (.mov (.t 143)), .andor 159 false 15 144 [.op (some 145) (.mov (.t 0)), .op (some 146) (.nilck (.t 145)), .op (some 147) (.fadr (.t 146) 4), .op (some 148) (.load1 (.t 147)), .op (some 149) (.mov (.t 8)), .op (some 150) (.iadr 1 (.t 148) (.t 149)), .op (some 151) (.load1 (.t 150)), .op (some 152) (.fadr (.t 5) 1), .op (some 153) (.load1 (.t 152)), .op (some 154) (.mov (.t 7)), .op (some 155) (.bin .sub (.t 154) (.k (.int .i64 1))), .op (some 156) (.iadr 1 (.t 153) (.t 155)), .op (some 157) (.load1 (.t 156)), .op (some 158) (.bin .neq (.t 151) (.t 157))] (.t 158)] (.t 159)])
    (.keep [0, 5, 7, 9, 160] (.cond (.t 160)
     (.ops [.op (some 161) (.mov (.t 0)),
      .op (some 162) (.nilck (.t 161)),
      .op (some 163) (.fadr (.t 162) 3),
      .op none (.store 1 (.t 163) (.k (.bool false)))])
     (.skip))))
    (.keep [0, 5, 7, 9] (.ops [.op (some 164) (.mov (.t 9)),
     .op (some 6) (.mov (.t 164))]))))))))
   (.keep [0, 5, 6, 7] (.ops [.op (some 115) (.mov (.t 7)),
    .op (some 116) (.bin .add (.t 115) (.k (.int .i64 1))),
    .op (some 7) (.mov (.t 116))])))))))))
 (.keep [6] (.seq (.ops [.op (some 165) (.mov (.t 6)),
   .op (some 166) (.bin .add (.t 165) (.k (.int .i64 1))),
   .op (some 4) (.mov (.t 166))])
 (.keep [4] (.ret))))))))))))))))))))
theorem k_c_walk_look_fits : fitsF Try.prog 50 ⟨167, k_c_walk_look, [.t 4]⟩ = true := by kernel_rfl
set_option maxHeartbeats 4000000 in
theorem c_walk_look {t : ITree} {f : Nat} {k : Int} {st : LK Str} (hn : t.Nodes.length ≤ 200) (hT : TB t) (hs : st.seen.length = t.Nodes.length) (hu : unseen st.seen < f) (hf : f ≤ 300) (hk : st.keys.length + 4 * unseen st.seen ≤ 1000) : Con Try.prog (fun e => Nat.beq e 1002) 50 [.ptr 1000 0, int k] [(1000, .box [.d (.int .i64 t.Root), .d (.sl 3 (t.Nodes.map INode.row)), .osl 1001 1 0 st.seen.length, .d (.bool true), .osl 1002 1 0 st.keys.length]), (1001, .rows 1 (st.seen.map boolRow)), (1002, .rows 1 (st.keys.map strRow))] (fun r h => ∃ (s : LK Str) (ok : Bool) (e : Nat), r = int (e : Nat) ∧ h = [(1000, .box [.d (.int .i64 t.Root), .d (.sl 3 (t.Nodes.map INode.row)), .osl 1001 1 0 s.seen.length, .d (.bool ok), .osl 1002 1 0 s.keys.length]), (1001, .rows 1 (s.seen.map boolRow)), (1002, .rows 1 (s.keys.map strRow))] ∧ e ≤ f ∧ s.seen.length = st.seen.length ∧ s.keys.length ≤ 2000000 ∧ st.keys.length ≤ s.keys.length ∧ ((ok = true ∧ sLook t f k st = some (s, e)) ∨ (ok = false ∧ sLook t f k st = none))) := by
 induction f generalizing k st with
 | zero => exact absurd hu (Nat.not_lt_zero _)
 | succ f ih =>
  refine con_of2 k_c_walk_look_fits rfl fun C hP hmv => ?_
  unfold k_c_walk_look
  refine cx_seq (cx_ops ?_)
  refine ax_q (q_mov rfl) ?_
  refine ax_nil (cx_keep rfl rfl (cx_seq (cx_seq (cx_ops ?_))))
  refine ax_q (q_mov rfl) ?_
  refine ax_q (q_mov rfl) ?_
  refine ax_q (q_nilck_ptr rfl) ?_
  refine ax_q (q_fadr_ptr rfl) ?_
  refine ax_q (q_fadr_ptr rfl) ?_
  refine ax_q (q_load1_ptr rfl rfl rfl) ?_
  refine ax_q (q_lenS_map rfl) ?_
  refine ax_q (q_sub rfl rfl (by omega)) ?_
  refine ax_call rfl (vc_pure0 (c_l01In  ) hP rfl rfl ?_)
  refine ax_q (q_not rfl) ?_
  refine ax_q (q_mov rfl) ?_
  apply ax_or rfl rfl
  ·
   intro g
   have g := bF g
   have hq := inR_iff.1 (show inR k 0 ((t.Nodes.length : Int) - 1) = true from by simpa using g)
   have q2 : k.toNat < st.seen.length := by omega
   refine ax_q (q_mov rfl) ?_
   refine ax_q (q_nilck_ptr rfl) ?_
   refine ax_q (q_fadr_ptr rfl) ?_
   refine ax_q (q_load1_ptr rfl rfl rfl) ?_
   refine ax_q (q_mov rfl) ?_
   refine ax_q (q_ixoI rfl rfl (by omega) q2) ?_
   refine ax_q (q_load1_rptr (r := boolRow (st.seen.getD k.toNat true)) rfl rfl (boolD q2) rfl) ?_
   exact ax_nil ⟨rfl, by repeat constructor⟩
  refine ax_nil (cx_keep rfl rfl ?_)
  refine cx_cond rfl (fun h0 => ?_) (fun h0 => ?_)
  ·
   have hF : ¬ Fresh t k st.seen := of_decide_eq_false (bT (fresh_or2.symm.trans h0))
   refine cx_seq (cx_ops ?_)
   refine ax_q (q_mov rfl) ?_
   refine ax_q (q_nilck_ptr rfl) ?_
   refine ax_q (q_fadr_ptr rfl) ?_
   refine ax_e (e_st rfl rfl rfl rfl rfl rfl rfl) ?_
   refine ax_nil (cx_keep rfl rfl (cx_seq (cx_ops ?_)))
   refine ax_q (q_mov rfl) ?_
   refine ax_nil (cx_keep rfl rfl ?_)
   refine cx_ret (retN id [1000, 1001, 1002] rfl rfl rfl rfl rfl ?_)
   exact ⟨st, false, 0, rfl, rfl, by omega, rfl, by omega, Nat.le_refl _, .inr ⟨rfl, sLook_no hF⟩⟩
  ·
   have hF : Fresh t k st.seen := of_decide_eq_true (bF (fresh_or2.symm.trans h0))
   obtain ⟨n, hN⟩ := fresh_node hF
   obtain ⟨q2, q3⟩ := unseen_set hF.2
   have hk0 := hF.1
   have w1 := hT.ks n hN.mem
   have w2 := hT.kd n hN.mem
   have hL := sLook_at (f := f) hF hN
   refine cx_skip ?_
   refine cx_keep rfl rfl (cx_seq (cx_ops ?_))
   refine ax_q (q_mov rfl) ?_
   refine ax_q (q_nilck_ptr rfl) ?_
   refine ax_q (q_fadr_ptr rfl) ?_
   refine ax_q (q_load1_ptr rfl rfl rfl) ?_
   refine ax_q (q_mov rfl) ?_
   refine ax_q (q_ixoI rfl rfl (by omega) q2) ?_
   refine ax_e (e_str (rs' := (st.seen.set k.toNat true).map boolRow) (row := boolRow (st.seen.getD k.toNat true)) (q := boolRow true) rfl rfl rfl rfl rfl rfl (boolD q2) rfl rfl List.map_set.symm) ?_
   refine ax_nil (cx_keep rfl rfl (cx_seq (cx_ops ?_)))
   refine ax_q (q_mov rfl) ?_
   refine ax_q (q_nilck_ptr rfl) ?_
   refine ax_q (q_fadr_ptr rfl) ?_
   refine ax_q (q_fadr_ptr rfl) ?_
   refine ax_q (q_load1_ptr rfl rfl rfl) ?_
   refine ax_q (q_mov rfl) ?_
   refine ax_q (q_ixI rfl rfl (by omega) hN.row) ?_
   first | refine ax_q (q_ldN rfl rfl rfl) ?_ | refine ax_q (q_loadN_ip rfl (Nat.le_refl _)) ?_
   refine ax_e (e_alloc (by decide) rfl rfl) ?_
   refine ax_e (e_st rfl rfl rfl rfl rfl rfl rfl) ?_
   refine ax_nil (cx_keep rfl rfl (cx_seq (cx_seq (cx_ops ?_))))
   refine ax_q (q_fadr_ptr rfl) ?_
   refine ax_q (q_load1_ptr rfl rfl rfl) ?_
   refine ax_q (q_lenS_map rfl) ?_
   refine ax_q (q_ibin rfl rfl rfl) ?_
   refine ax_nil (cx_keep rfl rfl ?_)
   refine cx_cond rfl (fun h1 => ?_) (fun h1 => ?_)
   ·
    have h1 := dT h1
    rw [if_neg (by omega)] at hL
    refine cx_seq (cx_ops ?_)
    refine ax_q (q_mov rfl) ?_
    refine ax_q (q_nilck_ptr rfl) ?_
    refine ax_q (q_fadr_ptr rfl) ?_
    refine ax_e (e_st rfl rfl rfl rfl rfl rfl rfl) ?_
    refine ax_nil (cx_keep rfl rfl (cx_seq (cx_ops ?_)))
    refine ax_q (q_mov rfl) ?_
    refine ax_nil (cx_keep rfl rfl ?_)
    refine cx_ret (retN id [1000, 1001, 1002] rfl rfl rfl rfl rfl ?_)
    refine ⟨⟨(st.seen.set k.toNat true), st.keys, st.deep⟩, false, 0, rfl, ?_, by omega, by simp, by simp only; omega, Nat.le_refl _, .inr ⟨rfl, hL⟩⟩
    simp only [List.length_set]; rfl
   ·
    have h1 := dF h1
    have hk4 : n.Keys.length ≤ 4 := by omega
    rw [if_pos hk4] at hL
    refine cx_skip ?_
    refine cx_keep rfl rfl (cx_seq (cx_seq (cx_ops ?_)))
    refine ax_q (q_fadr_ptr rfl) ?_
    refine ax_q (q_load1_ptr rfl rfl rfl) ?_
    refine ax_nil (cx_keep rfl rfl ?_)
    refine cx_cond rfl (fun h2 => ?_) (fun h2 => ?_)
    ·
     have h2 : n.Leaf = true := h2
     rw [if_pos h2] at hL
     refine cx_seq (cx_seq (cx_ops ?_))
     refine ax_q (q_fadr_ptr rfl) ?_
     refine ax_q (q_load1_ptr rfl rfl rfl) ?_
     refine ax_q (q_lenS_map rfl) ?_
     refine ax_q (q_ibin rfl rfl rfl) ?_
     refine ax_q (q_mov rfl) ?_
     apply ax_or rfl rfl
     ·
      intro g
      have g := dF g
      refine ax_q (q_fadr_ptr rfl) ?_
      refine ax_q (q_load1_ptr rfl rfl rfl) ?_
      refine ax_q (q_lenS_map rfl) ?_
      refine ax_q (q_ibin rfl rfl rfl) ?_
      refine ax_q (q_mov rfl) ?_
      apply ax_and rfl rfl
      ·
       intro g
       have g := dT g
       refine ax_q (q_mov rfl) ?_
       refine ax_q (q_mov rfl) ?_
       refine ax_q (q_nilck_ptr rfl) ?_
       refine ax_q (q_fadr_ptr rfl) ?_
       refine ax_q (q_fadr_ptr rfl) ?_
       refine ax_q (q_load1_ptr rfl rfl rfl) ?_
       refine ax_q (q_ibin rfl rfl rfl) ?_
       exact ax_nil ⟨rfl, by repeat constructor⟩
      exact ax_nil ⟨rfl, by repeat constructor⟩
     refine ax_nil (cx_keep rfl rfl ?_)
     refine cx_cond rfl (fun h3 => ?_) (fun h3 => ?_)
     ·
      have h3 : ¬ (n.Kids.length = 0 ∧ (n.Keys.length = 0 → k = t.Root)) := of_decide_eq_false (bT (wleaf_bad.symm.trans h3))
      rw [if_neg h3] at hL
      refine cx_ops ?_
      refine ax_q (q_mov rfl) ?_
      refine ax_q (q_nilck_ptr rfl) ?_
      refine ax_q (q_fadr_ptr rfl) ?_
      refine ax_e (e_st rfl rfl rfl rfl rfl rfl rfl) ?_
      refine ax_nil (cx_keep rfl rfl (cx_seq ?_))
      refine cx_drawL 7 84 (Nat.beq 1002) (nrA 1002) [] ([(1002, .rows 1 ((st.keys ++ n.Keys).map strRow))]) [[0], [0], [78], [79], [80], [5], [82], [81, 83]] [[1002, 1000], [], [], [], [], [], [], [1002, 1000]] rfl ?_
      first | refine ⟨_, .inr ⟨rfl, _, rfl, .inr ⟨rfl, rfl, .inr rfl, rfl, rfl⟩, loc_q (q_mov rfl)⟩, ?_⟩
      first | refine ⟨_, .inr ⟨rfl, _, rfl, .inl rfl, loc_q (q_mov rfl)⟩, ?_⟩
      refine ⟨_, .inr ⟨rfl, _, rfl, .inl rfl, loc_q (q_nilck_ptr rfl)⟩, ?_⟩
      refine ⟨_, .inr ⟨rfl, _, rfl, .inl rfl, loc_q (q_fadr_ptr rfl)⟩, ?_⟩
      refine ⟨_, .inr ⟨rfl, _, rfl, .inl rfl, loc_q (q_load1_ptr rfl rfl rfl)⟩, ?_⟩
      first | refine ⟨_, .inr ⟨rfl, _, rfl, .inl rfl, loc_q (q_fadr_ptr rfl)⟩, ?_⟩
      first | refine ⟨_, .inr ⟨rfl, _, rfl, .inl rfl, loc_q (q_load1_ptr rfl rfl rfl)⟩, ?_⟩
      refine ⟨⟨84, _, []⟩, .inl ⟨rfl, rfl, rfl, locl_app (n' := (st.keys ++ n.Keys).length) (rs' := (st.keys ++ n.Keys).map strRow) rfl rfl (by simp) rfl (fun _ _ h => src_sl 1 _) (.inr (by rw [hmv]; rfl)) (hbnd (by omega) (by rw [List.length_map]; omega) (by decide)) (by simp) app_all⟩, ?_⟩
      refine ⟨rfl, ?_⟩
      refine ax_q (q_nilck_ptr rfl) ?_
      refine ax_q (q_fadr_ptr rfl) ?_
      refine ax_e (e_st rfl rfl rfl rfl rfl rfl rfl) ?_
      refine ax_nil (cx_keep rfl rfl (cx_seq (cx_ops ?_)))
      refine ax_q (q_mov rfl) ?_
      refine ax_nil (cx_keep rfl rfl ?_)
      refine cx_ret (retN id [1000, 1001, 1002] rfl rfl rfl rfl rfl ?_)
      refine ⟨⟨(st.seen.set k.toNat true), st.keys ++ n.Keys, st.deep⟩, false, 1, rfl, ?_, by omega, by simp, by simp; omega, by simp, .inr ⟨rfl, hL⟩⟩
      simp only [List.length_set]; rfl
     ·
      have h3 : n.Kids.length = 0 ∧ (n.Keys.length = 0 → k = t.Root) := of_decide_eq_true (bF (wleaf_bad.symm.trans h3))
      rw [if_pos h3] at hL
      refine cx_skip ?_
      refine cx_keep rfl rfl (cx_seq ?_)
      refine cx_drawL 7 84 (Nat.beq 1002) (nrA 1002) [] ([(1002, .rows 1 ((st.keys ++ n.Keys).map strRow))]) [[0], [0], [78], [79], [80], [5], [82], [81, 83]] [[1002, 1000], [], [], [], [], [], [], [1002, 1000]] rfl ?_
      first | refine ⟨_, .inr ⟨rfl, _, rfl, .inr ⟨rfl, rfl, .inr rfl, rfl, rfl⟩, loc_q (q_mov rfl)⟩, ?_⟩
      first | refine ⟨_, .inr ⟨rfl, _, rfl, .inl rfl, loc_q (q_mov rfl)⟩, ?_⟩
      refine ⟨_, .inr ⟨rfl, _, rfl, .inl rfl, loc_q (q_nilck_ptr rfl)⟩, ?_⟩
      refine ⟨_, .inr ⟨rfl, _, rfl, .inl rfl, loc_q (q_fadr_ptr rfl)⟩, ?_⟩
      refine ⟨_, .inr ⟨rfl, _, rfl, .inl rfl, loc_q (q_load1_ptr rfl rfl rfl)⟩, ?_⟩
      first | refine ⟨_, .inr ⟨rfl, _, rfl, .inl rfl, loc_q (q_fadr_ptr rfl)⟩, ?_⟩
      first | refine ⟨_, .inr ⟨rfl, _, rfl, .inl rfl, loc_q (q_load1_ptr rfl rfl rfl)⟩, ?_⟩
      refine ⟨⟨84, _, []⟩, .inl ⟨rfl, rfl, rfl, locl_app (n' := (st.keys ++ n.Keys).length) (rs' := (st.keys ++ n.Keys).map strRow) rfl rfl (by simp) rfl (fun _ _ h => src_sl 1 _) (.inr (by rw [hmv]; rfl)) (hbnd (by omega) (by rw [List.length_map]; omega) (by decide)) (by simp) app_all⟩, ?_⟩
      refine ⟨rfl, ?_⟩
      refine ax_q (q_nilck_ptr rfl) ?_
      refine ax_q (q_fadr_ptr rfl) ?_
      refine ax_e (e_st rfl rfl rfl rfl rfl rfl rfl) ?_
      refine ax_nil (cx_keep rfl rfl (cx_seq (cx_ops ?_)))
      refine ax_q (q_mov rfl) ?_
      refine ax_nil (cx_keep rfl rfl ?_)
      refine cx_ret (retN id [1000, 1001, 1002] rfl rfl rfl rfl rfl ?_)
      refine ⟨⟨(st.seen.set k.toNat true), st.keys ++ n.Keys, st.deep⟩, true, 1, rfl, ?_, by omega, by simp, by simp; omega, by simp, .inl ⟨rfl, hL⟩⟩
      simp only [List.length_set]; rfl
    ·
     have h2 : n.Leaf = false := h2
     rw [if_neg (by rw [h2]; simp)] at hL
     refine cx_skip ?_
     refine cx_keep rfl rfl (cx_seq (cx_seq (cx_ops ?_)))
     refine ax_q (q_fadr_ptr rfl) ?_
     refine ax_q (q_load1_ptr rfl rfl rfl) ?_
     refine ax_q (q_lenS_map rfl) ?_
     refine ax_q (q_fadr_ptr rfl) ?_
     refine ax_q (q_load1_ptr rfl rfl rfl) ?_
     refine ax_q (q_lenS_map rfl) ?_
     refine ax_q (q_add rfl rfl (by omega)) ?_
     refine ax_q (q_ibin rfl rfl rfl) ?_
     refine ax_q (q_mov rfl) ?_
     apply ax_or rfl rfl
     ·
      intro g
      have g := nF g
      refine ax_q (q_fadr_ptr rfl) ?_
      refine ax_q (q_load1_ptr rfl rfl rfl) ?_
      refine ax_q (q_lenS_map rfl) ?_
      refine ax_q (q_ibin rfl rfl rfl) ?_
      exact ax_nil ⟨rfl, by repeat constructor⟩
     refine ax_nil (cx_keep rfl rfl ?_)
     refine cx_cond rfl (fun h4 => ?_) (fun h4 => ?_)
     ·
      have h4 : ¬ (n.Kids.length = n.Keys.length + 1 ∧ 2 ≤ n.Kids.length) := of_decide_eq_false (bT (inn_bad2.symm.trans h4))
      rw [if_neg h4] at hL
      refine cx_seq (cx_ops ?_)
      refine ax_q (q_mov rfl) ?_
      refine ax_q (q_nilck_ptr rfl) ?_
      refine ax_q (q_fadr_ptr rfl) ?_
      refine ax_e (e_st rfl rfl rfl rfl rfl rfl rfl) ?_
      refine ax_nil (cx_keep rfl rfl (cx_seq (cx_ops ?_)))
      refine ax_q (q_mov rfl) ?_
      refine ax_nil (cx_keep rfl rfl ?_)
      refine cx_ret (retN id [1000, 1001, 1002] rfl rfl rfl rfl rfl ?_)
      refine ⟨⟨(st.seen.set k.toNat true), st.keys, st.deep⟩, false, 0, rfl, ?_, by omega, by simp, by simp only; omega, Nat.le_refl _, .inr ⟨rfl, hL⟩⟩
      simp only [List.length_set]; rfl
     ·
      have h4 : n.Kids.length = n.Keys.length + 1 ∧ 2 ≤ n.Kids.length := of_decide_eq_true (bF (inn_bad2.symm.trans h4))
      rw [if_pos h4] at hL
      obtain ⟨hI1, hI2⟩ := h4
      obtain ⟨mt1, mt2⟩ := mono_tick0 hF.2
      have mt3 := mt1.kb
      simp only at mt3
      refine cx_skip ?_
      refine cx_keep rfl rfl (cx_seq (cx_ops ?_))
      refine ax_q (q_mov rfl) ?_
      refine ax_nil (cx_keep rfl rfl (cx_seq (cx_seq (cx_ops ?_))))
      refine ax_q (q_mov rfl) ?_
      refine ax_nil (cx_keep rfl rfl (cx_block ?_))
      generalize hR0 : sKids _ n.Keys 0 n.Kids 0 _ = R0 at hL
      refine cx_loopU (fun m (p : Nat × Nat × LK Str × Bool) => p.1 ≤ n.Kids.length ∧ m = n.Kids.length - p.1 ∧ p.2.1 ≤ f ∧ p.2.2.1.seen.length = st.seen.length ∧ p.2.2.1.keys.length ≤ 2000000 ∧ st.keys.length ≤ p.2.2.1.keys.length ∧ ((p.2.2.2 = true ∧ unseen p.2.2.1.seen < f ∧ p.2.2.1.keys.length + 4 * unseen p.2.2.1.seen ≤ 1000 ∧ sKids (fun k st => sLook t f k st) n.Keys p.1 (n.Kids.drop p.1) p.2.1 p.2.2.1 = R0) ∨ (p.2.2.2 = false ∧ R0 = none))) (fun p => [(7, int p.1), (6, int p.2.1)]) (fun p => (5, .box [.d (.bool n.Leaf), .d (.sl 1 (n.Keys.map strRow)), .d (.sl 1 (n.Kids.map intRow))]) :: [(1000, .box [.d (.int .i64 t.Root), .d (.sl 3 (t.Nodes.map INode.row)), .osl 1001 1 0 p.2.2.1.seen.length, .d (.bool p.2.2.2), .osl 1002 1 0 p.2.2.1.keys.length]), (1001, .rows 1 (p.2.2.1.seen.map boolRow)), (1002, .rows 1 (p.2.2.1.keys.map strRow))])
       ⟨_, (0, 0, ⟨(st.seen.set k.toNat true), st.keys, st.deep⟩, true), ⟨Nat.zero_le _, rfl, Nat.zero_le _, by simp, by simp only; omega, Nat.le_refl _, .inl ⟨rfl, by simp only; omega, by simp only; omega, hR0⟩⟩, by simp only [List.length_set]; exact (by repeat constructor)⟩ ?_
      rintro m ⟨i, e, s, ok⟩ ⟨hi, rfl, he, hsl, hkl, hkm, hor0⟩
      simp only at hi he hsl hkl hkm hor0 ⊢
      refine cx_seq (cx_seq (cx_ops ?_))
      refine ax_q (q_mov rfl) ?_
      refine ax_q (q_fadr_ptr rfl) ?_
      refine ax_q (q_load1_ptr rfl rfl rfl) ?_
      refine ax_q (q_lenS_map rfl) ?_
      refine ax_q (q_ibin rfl rfl rfl) ?_
      refine ax_q (q_mov rfl) ?_
      apply ax_and rfl rfl
      ·
       intro g
       have g := dT g
       refine ax_q (q_mov rfl) ?_
       refine ax_q (q_nilck_ptr rfl) ?_
       refine ax_q (q_fadr_ptr rfl) ?_
       refine ax_q (q_load1_ptr rfl rfl rfl) ?_
       exact ax_nil ⟨rfl, by repeat constructor⟩
      refine ax_nil (cx_keep rfl rfl ?_)
      refine cx_cond rfl (fun h5 => ?_) (fun h5 => ?_)
      ·
       rw [Bool.and_eq_true] at h5
       have h3x : i < n.Kids.length := by have := of_decide_eq_true h5.1; omega
       have hok := h5.2
       subst hok
       obtain ⟨_, hsu, hsk, hR⟩ := hor0.resolve_right (fun q => by cases q.1)
       refine cx_skip ?_
       refine cx_keep rfl rfl (cx_seq (cx_block (cx_seq (cx_ops ?_))))
       refine ax_q (q_mov rfl) ?_
       refine ax_q (q_nilck_ptr rfl) ?_
       refine ax_q (q_fadr_ptr rfl) ?_
       refine ax_q (q_load1_ptr rfl rfl rfl) ?_
       first | refine ax_q (q_lenS_map rfl) ?_ | refine ax_q (q_lenS_osl rfl) ?_
       refine ax_q (q_mov rfl) ?_
       refine ax_nil (cx_keep rfl rfl (cx_seq (cx_ops ?_)))
       refine ax_q (q_mov rfl) ?_
       refine ax_q (q_fadr_ptr rfl) ?_
       refine ax_q (q_load1_ptr rfl rfl rfl) ?_
       refine ax_q (q_mov rfl) ?_
       refine ax_q (q_ix rfl rfl (mapAt h3x)) ?_
       first | refine ax_q (q_load1_ptr rfl rfl rfl) ?_ | refine ax_q (q_load1_ip rfl) ?_
       refine ax_call rfl (vcall_own (ih (k := n.Kids[i]) (st := s) (by omega) (by omega) (by omega) (by omega)) hP hmv false (fun e => bif Nat.beq e 1000 then 1000 else bif Nat.beq e 1001 then 1001 else 1002) [1000, 1001, 1002] ⟨rfl, rfl, rfl, rfl, ⟨rfl, rfl, rfl, trivial⟩, rfl, rfl, rfl⟩ (.pass rfl rfl (.pass rfl rfl .nil)) ?_)
       rintro r h ⟨s2, ok2, e2, rfl, rfl, he2, hsl2, hkl2, hkm2, hor⟩
       refine ⟨(fun e => bif Nat.beq e 1000 then 1000 else bif Nat.beq e 1001 then 1001 else 1002), [], ⟨rfl, rfl, rfl, rfl, mem3 rfl rfl rfl, rfl, rfl, fun h => absurd h Bool.false_ne_true⟩, ?_⟩
       obtain ⟨hS1, hS2⟩ := sKids_s (rec := fun k st => sLook t f k st) (keys := n.Keys) (i := i) (e := e) h3x hor
       refine ax_q (q_mov rfl) ?_
       refine ax_nil (cx_keep rfl rfl (cx_seq (cx_seq (cx_draw ?_))))
       refine ax_q (q_mov rfl) ?_
       refine ax_q (q_ibin rfl rfl rfl) ?_
       refine ax_q (q_mov rfl) ?_
       apply ax_and rfl rfl
       ·
        intro g
        have g := dT g
        have g0 : (0 : Int) < (i : Int) := by simpa using g
        refine ax_q (q_mov rfl) ?_
        refine ax_q (q_mov rfl) ?_
        refine ax_q (q_ibin rfl rfl rfl) ?_
        refine ax_q (q_mov rfl) ?_
        apply ax_or rfl rfl
        ·
         intro g
         have g := nF g
         refine ax_q (q_mov rfl) ?_
         refine ax_q (q_mov rfl) ?_
         refine ax_q (q_nilck_ptr rfl) ?_
         refine ax_q (q_fadr_ptr rfl) ?_
         refine ax_q (q_load1_ptr rfl rfl rfl) ?_
         first | refine ax_q (q_lenS_map rfl) ?_ | refine ax_q (q_lenS_osl rfl) ?_
         refine ax_q (q_ibin rfl rfl rfl) ?_
         exact ax_nil ⟨rfl, by repeat constructor⟩
        refine ax_q (q_mov rfl) ?_
        apply ax_or rfl rfl
        ·
         intro g
         have g := (fun h => And.intro (nF (or_F h).1) (dF (or_F h).2)) g
         have hlt : s.keys.length < s2.keys.length := by omega
         refine ax_q (q_mov rfl) ?_
         refine ax_q (q_nilck_ptr rfl) ?_
         refine ax_q (q_fadr_ptr rfl) ?_
         refine ax_q (q_load1_ptr rfl rfl rfl) ?_
         refine ax_q (q_mov rfl) ?_
         refine ax_q (q_ixo rfl rfl hlt) ?_
         refine ax_q (q_load1_rptr (r := strRow (s2.keys.getD s.keys.length [])) rfl rfl (strD hlt) rfl) ?_
         refine ax_q (q_fadr_ptr rfl) ?_
         refine ax_q (q_load1_ptr rfl rfl rfl) ?_
         refine ax_q (q_mov rfl) ?_
         refine ax_qe (r' := int ((i - 1 : Nat) : Int)) (q_ibin rfl rfl rfl) (by rw [wi (by omega) (by omega)]; exact congrArg AM.int (by omega)) ?_
         refine ax_q (q_ix (row := strRow (n.Keys.getD (i - 1) [])) rfl rfl (strD (by omega))) ?_
         first | refine ax_q (q_load1_ptr rfl rfl rfl) ?_ | refine ax_q (q_load1_ip rfl) ?_
         refine ax_q (q_sbin rfl rfl rfl) ?_
         exact ax_nil ⟨rfl, by repeat constructor⟩
        exact ax_nil ⟨rfl, by repeat constructor⟩
       refine ax_nil (cx_keep rfl rfl ?_)
       refine cx_cond rfl (fun h6 => ?_) (fun h6 => ?_)
       ·
        skip
        refine cx_ops ?_
        refine ax_q (q_mov rfl) ?_
        refine ax_q (q_nilck_ptr rfl) ?_
        refine ax_q (q_fadr_ptr rfl) ?_
        refine ax_e (e_st rfl rfl rfl rfl rfl rfl rfl) ?_
        refine ax_nil (cx_keep rfl rfl (cx_ops ?_))
        refine ax_q (q_mov rfl) ?_
        refine ax_q (q_mov rfl) ?_
        refine ax_nil (cx_keep rfl rfl (cx_ops ?_))
        refine ax_q (q_mov rfl) ?_
        refine ax_qe (r' := int ((i + 1 : Nat) : Int)) (q_ibin rfl rfl rfl) (by rw [wi (by omega) (by omega)]; rfl) ?_
        refine ax_q (q_mov rfl) ?_
        refine ax_nil ?_
        exact ⟨_, (i + 1, e2, s2, false), by simp only; omega, ⟨by simp only; omega, rfl, he2, by simp only; omega, hkl2, by simp only; omega, .inr ⟨rfl, hR.symm.trans (hS1 h6)⟩⟩, by repeat constructor⟩
       ·
        skip
        refine cx_skip ?_
        refine cx_keep rfl rfl (cx_ops ?_)
        refine ax_q (q_mov rfl) ?_
        refine ax_q (q_mov rfl) ?_
        refine ax_nil (cx_keep rfl rfl (cx_ops ?_))
        refine ax_q (q_mov rfl) ?_
        refine ax_qe (r' := int ((i + 1 : Nat) : Int)) (q_ibin rfl rfl rfl) (by rw [wi (by omega) (by omega)]; rfl) ?_
        refine ax_q (q_mov rfl) ?_
        refine ax_nil ?_
        exact ⟨_, (i + 1, e2, s2, ok2), by simp only; omega, ⟨by simp only; omega, rfl, he2, by simp only; omega, hkl2, by simp only; omega, by
         rcases hS2 h6 with ⟨rfl, hlk, hS3⟩ | ⟨rfl, hS3⟩
         ·
          obtain ⟨mm1, mm2, _⟩ := sLook_mono hlk
          have mm4 := mm1.kb
          exact .inl ⟨rfl, by simp only; omega, by simp only; omega, hS3.symm.trans hR⟩
         ·
          exact .inr ⟨rfl, hR.symm.trans hS3⟩⟩, by repeat constructor⟩
      ·
       have hend : (ok = true ∧ R0 = some (s, e)) ∨ (ok = false ∧ R0 = none) := by
        rcases hor0 with ⟨rfl, _, _, hR⟩ | q
        ·
         rw [Bool.and_true] at h5
         have h5 := of_decide_eq_false h5
         rw [show i = n.Kids.length from by omega, List.drop_length] at hR
         exact .inl ⟨rfl, hR.symm⟩
        ·
         exact .inr q
       refine cx_exit rfl ?_
       refine cx_keep rfl rfl (cx_seq (cx_ops ?_))
       refine ax_q (q_mov rfl) ?_
       refine ax_qe (r' := int ((e + 1 : Nat) : Int)) (q_ibin rfl rfl rfl) (by rw [wi (by omega) (by omega)]; rfl) ?_
       refine ax_q (q_mov rfl) ?_
       refine ax_nil (cx_keep rfl rfl ?_)
       refine cx_ret (retN id [1000, 1001, 1002] rfl rfl rfl rfl rfl ?_)
       refine ⟨s, ok, e + 1, rfl, rfl, by omega, hsl, hkl, hkm, ?_⟩
       rcases hend with ⟨q1, q2⟩ | ⟨q1, q2⟩
       ·
        exact .inl ⟨q1, by rw [hL, q2]⟩
       ·
        exact .inr ⟨q1, by rw [hL, q2]⟩


/- loop.example/g00332/spec.l09Walk -/
def k_c_l09Walk : XCode :=
 .seq (.ops [.op (some 1) (.box (.t 0)),
   .op (some 2) (.mov (.k (.nils 1))),
   .op (some 3) (.mov (.k (.int .i64 0))),
   .op (some 4) (.mov (.k (.bool false)))])
 (.keep [1] (.seq (.seq (.ops [.op (some 9) (.fadr (.t 1) 1),
   .op (some 10) (.load1 (.t 9)),
   .op (some 11) (.lenS (.t 10)),
   .op (some 12) (.bin .gtr (.t 11) (.k (.int .i64 200)))])
  (.keep [1, 12] (.cond (.t 12)
  (.seq (.ops [.op (some 13) (.bslice 1 []),
    .op (some 2) (.mov (.t 13)),
    .op (some 3) (.mov (.k (.int .i64 0))),
    .op (some 4) (.mov (.k (.bool false)))])
   (.keep [2, 3, 4] (.ret)))
  (.skip))))
 (.keep [1] (.seq (.drawE [[], [], [1], [1, 2], [1, 2, 3], [], [0, 1, 2, 3, 4, 5], [0, 1, 2, 3, 4, 5, 6], [0, 1, 2, 3, 4, 5, 6, 7]] [.op (some 14) (.loadN 2 (.t 1)),
   .op (some 15) (.fadr (.t 1) 1),
   .op (some 16) (.load1 (.t 15)),
   .op (some 17) (.lenS (.t 16)),
   .op (some 18) (.mkslice 1 1 [.bool false] (.t 17) (.t 17)),
   .op (some 19) (.bslice 1 [])]
  [.op (some 20) (.build [.int .i64 0, .nils 3, .nils 1, .bool false, .nils 1] [(0, 2, .t 14), (2, 1, .t 18), (3, 1, .k (.bool true)), (4, 1, .t 19)]),
   .op (some 21) (.box (.t 20)),
   .op (some 5) (.mov (.t 21))])
 (.keep [1, 5] (.seq (.ops [.op (some 22) (.mov (.t 5)),
   .op (some 23) (.fadr (.t 1) 0),
   .op (some 24) (.load1 (.t 23)),
   .call (some 25) 50 [.t 22, .t 24],
   .op (some 6) (.mov (.t 25))])
 (.keep [5, 6] (.seq (.seq (.ops [.op (some 7) (.mov (.k (.int .i64 0)))])
  (.keep [5, 6, 7] (.block 0 (.loop (.seq (.seq (.ops [.op (some 26) (.mov (.t 7)),
     .op (some 27) (.mov (.t 5)),
     .op (some 28) (.nilck (.t 27)),
     .op (some 29) (.fadr (.t 28) 2),
     .op (some 30) (.load1 (.t 29)),
     .op (some 31) (.lenS (.t 30)),
     .op (some 32) (.bin .lss (.t 26) (.t 31))])
   (.keep [5, 6, 7, 32] (.cond (.t 32)
    (.skip)
    (.exit 0))))
   (.keep [5, 6, 7] (.seq (.block 1 (.ops [.op (some 35) (.mov (.t 5)),
     .op (some 36) (.mov (.t 5)),
     .op (some 37) (.nilck (.t 36)),
     .op (some 38) (.fadr (.t 37) 3),
     .op (some 39) (.load1 (.t 38)),
     .op (some 40) (.mov (.t 39)),
     .andor 48 true 5 40 [.op (some 41) (.mov (.t 5)), .op (some 42) (.nilck (.t 41)), .op (some 43) (.fadr (.t 42) 2), .op (some 44) (.load1 (.t 43)), .op (some 45) (.mov (.t 7)), .op (some 46) (.iadr 1 (.t 44) (.t 45)), .op (some 47) (.load1 (.t 46))] (.t 47),
     .op (some 49) (.nilck (.t 35)),
     .op (some 50) (.fadr (.t 49) 3),
     .op none (.store 1 (.t 50) (.t 48))]))
   (.keep [5, 6, 7] (.ops [.op (some 33) (.mov (.t 7)),
    .op (some 34) (.bin .add (.t 33) (.k (.int .i64 1))),
    .op (some 7) (.mov (.t 34))])))))))))
 (.keep [5, 6] (.seq (.seq (.ops [.op (some 8) (.mov (.k (.int .i64 0)))])
  (.keep [5, 6, 8] (.block 2 (.loop (.seq (.seq (.ops [.op (some 51) (.mov (.t 8)),
     .op (some 52) (.mov (.t 5)),
     .op (some 53) (.nilck (.t 52)),
     .op (some 54) (.fadr (.t 53) 4),
     .op (some 55) (.load1 (.t 54)),
     .op (some 56) (.lenS (.t 55)),
     .op (some 57) (.bin .lss (.t 51) (.t 56))])
   (.keep [5, 6, 8, 57] (.cond (.t 57)
    (.skip)
    (.exit 2))))
   (.keep [5, 6, 8] (.seq (.block 3 (.drawP [[], [], [1], [1, 2], [1, 2, 3], [1, 2, 3, 4], [1, 2, 3, 4, 5], [1, 2, 3, 4, 5, 6], [1, 2, 3, 4, 5, 6, 7], [1, 2, 3, 4, 5, 6, 7, 8], [1, 2, 3, 4, 5], [1, 2, 3, 4, 5, 6, 7, 8, 9, 10], [1, 2, 3, 4, 5, 6, 7, 8, 9, 10, 11], [1, 2, 3, 4, 5, 6, 7, 8, 9, 10, 11, 12], [1, 2, 3, 4, 5, 6, 7, 8, 9, 10, 11, 12, 13], [1, 2, 3, 4, 5, 6, 7, 8, 9, 10, 11, 12, 13, 14], [1, 2, 3, 4, 5, 6, 7, 8, 9, 10, 11, 12, 13, 14, 15], [1, 2, 3, 4, 5, 6, 7, 8, 9, 10, 11, 12, 13, 14, 15, 16], [1, 2, 3, 4, 5, 6, 7, 8, 9, 10, 11, 12, 13, 14, 15, 16, 17], [1, 2, 3, 4, 5, 6, 7, 8, 9, 10, 11, 12, 13, 14, 15, 16, 17, 18], [1, 2, 3, 4, 5, 6, 7, 8, 9, 10, 11, 12, 13, 14, 15, 16, 17, 18, 19], [1, 2, 3, 4, 5, 6, 7, 8, 9, 10, 11, 12, 13, 14, 15, 16, 17, 18, 19, 20], [1, 2, 3, 4, 5, 6, 7, 8, 9, 10, 11, 12, 13, 14, 15, 16, 17, 18, 19, 20, 21], [1, 2, 3, 4, 5, 6, 7, 8, 9, 10, 11, 12, 13, 14, 15, 16, 17, 18], [1, 2, 3, 4, 5, 6, 7, 8, 9, 10, 11, 12, 13, 14, 15, 16, 17, 18, 23], [1, 2, 3, 4, 5, 6, 7, 8, 9, 10, 11, 12, 13, 14, 15, 16, 17, 18, 19, 20, 21, 22, 23, 24], [1, 2, 3, 4, 5, 6, 7, 8, 9, 10, 11, 12, 13, 14, 15, 16, 17, 18, 19, 20, 21, 22, 23, 24, 25], [1, 2, 3, 4, 5, 6, 7, 8, 9, 10, 11, 12, 13, 14, 15, 16, 17, 18], [1, 2, 3, 4, 5, 6, 7, 8, 9, 10, 11, 12, 13, 14, 15, 16, 17, 18, 27], [1, 2, 3, 4, 5, 6, 7, 8, 9, 10, 11, 12, 13, 14, 15, 16, 17, 18, 27, 28], [1, 2, 3, 4, 5, 6, 7, 8, 9, 10, 11, 12, 13, 14, 15, 16, 17, 18, 27, 28, 29], [1, 2, 3, 4, 5, 6, 7, 8, 9, 10, 11, 12, 13, 14, 15, 16, 17, 18], [1, 2, 3, 4, 5, 6, 7, 8, 9, 10, 11, 12, 13, 14, 15, 16, 17, 18, 27, 28, 29, 30, 31], [1, 2, 3, 4, 5, 6, 7, 8, 9, 10, 11, 12, 13, 14, 15, 16, 17, 18, 27, 28, 29, 30, 31, 32], [1, 2, 3, 4, 5, 6, 7, 8, 9, 10, 11, 12, 13, 14, 15, 16, 17, 18, 19, 20, 21, 22, 23, 24, 25, 26, 27, 28, 29, 30, 31, 32, 33], [1, 2, 3, 4, 5, 6, 7, 8, 9, 10, 11, 12, 13, 14, 15, 16, 17, 18, 19, 20, 21, 22, 23, 24, 25, 26, 27, 28, 29, 30, 31, 32, 33, 34], [1, 2, 3, 4, 5, 6, 7, 8, 9, 10, 11, 12, 13, 14, 15, 16, 17, 18, 19, 20, 21, 22, 23, 24, 25, 26, 27, 28, 29, 30, 31, 32, 33, 34, 35], [0, 1, 2, 3, 4, 5, 6, 7, 8, 9, 10, 11, 12, 13, 14, 15, 16, 17, 18, 19, 20, 21, 22, 23, 24, 25, 26, 27, 28, 29, 30, 31, 32, 33, 34, 35, 36], [0, 1, 2, 3, 4, 5, 6, 7, 8, 9, 10, 11, 12, 13, 14, 15, 16, 17, 18, 19, 20, 21, 22, 23, 24, 25, 26, 27, 28, 29, 30, 31, 32, 33, 34, 35, 36, 37], [0, 1, 2, 3, 4, 5, 6, 7, 8, 9, 10, 11, 12, 13, 14, 15, 16, 17, 18, 19, 20, 21, 22, 23, 24, 25, 26, 27, 28, 29, 30, 31, 32, 33, 34, 35, 36, 37, 38]] [.op (some 60) (.mov (.t 5)),
     .op (some 61) (.mov (.t 5)),
     .op (some 62) (.nilck (.t 61)),
     .op (some 63) (.fadr (.t 62) 3),
     .op (some 64) (.load1 (.t 63)),
     .op (some 65) (.mov (.t 64)),
     .andor 74 true 5 65 [.op (some 66) (.mov (.t 5)), .op (some 67) (.nilck (.t 66)), .op (some 68) (.fadr (.t 67) 4), .op (some 69) (.load1 (.t 68)), .op (some 70) (.mov (.t 8)), .op (some 71) (.iadr 1 (.t 69) (.t 70)), .op (some 72) (.load1 (.t 71)), .call (some 73) 29 [.t 72]] (.t 73),
     .op (some 75) (.mov (.t 74)),
     .andor 96 true 15 75 [.op (some 76) (.mov (.t 8)), .op (some 77) (.bin .eql (.t 76) (.k (.int .i64 0))), .op (some 78) (.mov (.t 77)), .andor 95 false 18 78 [.op (some 79) (.mov (.t 5)), .op (some 80) (.nilck (.t 79)), .op (some 81) (.fadr (.t 80) 4), .op (some 82) (.load1 (.t 81)), .op (some 83) (.mov (.t 8)), .op (some 84) (.bin .sub (.t 83) (.k (.int .i64 1))), .op (some 85) (.iadr 1 (.t 82) (.t 84)), .op (some 86) (.load1 (.t 85)), .op (some 87) (.mov (.t 5)), .op (some 88) (.nilck (.t 87)), .op (some 89) (.fadr (.t 88) 4), .op (some 90) (.load1 (.t 89)), .op (some 91) (.mov (.t 8)), .op (some 92) (.iadr 1 (.t 90) (.t 91)), .op (some 93) (.load1 (.t 92)), .op (some 94) (.bin .lss (.t 86) (.t 93))] (.t 94)] (.t 95)]
    [.op (some 97) (.nilck (.t 60)),
     .op (some 98) (.fadr (.t 97) 3),
     .op none (.store 1 (.t 98) (.t 96))]))
   (.keep [5, 6, 8] (.ops [.op (some 58) (.mov (.t 8)),
    .op (some 59) (.bin .add (.t 58) (.k (.int .i64 1))),
    .op (some 8) (.mov (.t 59))])))))))))
 (.keep [5, 6] (.seq (.draw [.op (some 99) (.mov (.t 5)),
   .op (some 100) (.nilck (.t 99)),
   .op (some 101) (.fadr (.t 100) 4),
   .op (some 102) (.load1 (.t 101)),
   .op (some 103) (.mov (.t 6)),
   .op (some 104) (.mov (.t 5)),
   .op (some 105) (.nilck (.t 104)),
   .op (some 106) (.fadr (.t 105) 3),
   .op (some 107) (.load1 (.t 106)),
   .op (some 108) (.mov (.t 107)),
   .andor 115 true 9 108 [.op (some 109) (.mov (.t 5)), .op (some 110) (.nilck (.t 109)), .op (some 111) (.fadr (.t 110) 4), .op (some 112) (.load1 (.t 111)), .op (some 113) (.lenS (.t 112)), .op (some 114) (.bin .leq (.t 113) (.k (.int .i64 60)))] (.t 114),
   .op (some 2) (.mov (.t 102)),
   .op (some 3) (.mov (.t 103)),
   .op (some 4) (.mov (.t 115))])
 (.keep [2, 3, 4] (.ret))))))))))))))
theorem k_c_l09Walk_fits : fitsF Try.prog 28 ⟨116, k_c_l09Walk, [.t 2, .t 3, .t 4]⟩ = true := by kernel_rfl
set_option maxHeartbeats 4000000 in
theorem c_l09Walk {t : ITree} (hT : TB t) : Con Try.prog noMv 28 [.agg [.d (.int .i64 t.Root), .d (.sl 3 (t.Nodes.map INode.row))]] [] (fun r h => ∃ (ks : List Str) (ok : Bool) (d : Nat), ((ok = true ∧ keysI t = some ks) ∨ (ok = false ∧ keysI t = none)) ∧ r = .tup [.osl 0 1 0 ks.length, int (d : Nat), bool ok] ∧ h = [(0, .rows 1 (ks.map strRow))]) := by
 refine con_of2 k_c_l09Walk_fits rfl fun C hP hmv => ?_
 unfold k_c_l09Walk
 have hT1 := hT.nd
 rw [← keysS_eq]
 refine cx_seq (cx_ops ?_)
 refine ax_e (e_box rfl rfl (by decide) rfl rfl rfl) ?_
 refine ax_q (q_mov rfl) ?_
 refine ax_q (q_mov rfl) ?_
 refine ax_q (q_mov rfl) ?_
 refine ax_nil (cx_keep rfl rfl (cx_seq (cx_seq (cx_ops ?_))))
 refine ax_q (q_fadr_ptr rfl) ?_
 refine ax_q (q_load1_ptr rfl rfl rfl) ?_
 refine ax_q (q_lenS_map rfl) ?_
 refine ax_q (q_ibin rfl rfl rfl) ?_
 refine ax_nil (cx_keep rfl rfl ?_)
 refine cx_cond rfl (fun h0 => ?_) (fun h0 => ?_)
 ·
  have h0 := dT h0
  refine cx_seq (cx_ops ?_)
  refine ax_e (e_bslice rfl (by decide) rfl rfl) ?_
  refine ax_q (q_mov rfl) ?_
  refine ax_q (q_mov rfl) ?_
  refine ax_q (q_mov rfl) ?_
  refine ax_nil (cx_keep rfl rfl ?_)
  refine cx_ret (retN (fun _ => 0) [13] rfl rfl rfl rfl rfl ?_)
  exact ⟨[], false, 0, .inr ⟨rfl, keysS_no (.inl (by omega))⟩, rfl, rfl⟩
 ·
  have h0 := dF h0
  have hn : t.Nodes.length ≤ 200 := by omega
  refine cx_skip ?_
  refine cx_keep rfl rfl (cx_seq ?_)
  refine cx_drawL 0 14 (fun _ => false) (fun _ => true) [] ([]) [[1], [1], [15], [16], [17], []] [[], [], [], [], [], []] rfl ?_
  first | refine ⟨⟨14, _, []⟩, .inl ⟨rfl, rfl, rfl, locl_of (loc_q (q_ldN rfl rfl rfl))⟩, ?_⟩
  first | refine ⟨_, .inr ⟨rfl, _, rfl, .inr ⟨rfl, rfl, .inr rfl, rfl, rfl⟩, loc_q (q_fadr_ptr rfl)⟩, ?_⟩
  first | refine ⟨_, .inr ⟨rfl, _, rfl, .inr ⟨rfl, rfl, .inr rfl, rfl, rfl⟩, loc_q (q_load1_ptr rfl rfl rfl)⟩, ?_⟩
  refine ⟨_, .inr ⟨rfl, _, rfl, .inr ⟨rfl, rfl, .inr rfl, rfl, rfl⟩, loc_q (q_lenS_map rfl)⟩, ?_⟩
  first | refine ⟨_, .inr ⟨rfl, _, rfl, .inr ⟨rfl, rfl, .inr rfl, rfl, rfl⟩, loc_mkB rfl rfl rfl (by omega)⟩, ?_⟩
  first | refine ⟨_, .inr ⟨rfl, _, rfl, .inr ⟨rfl, rfl, .inr rfl, rfl, rfl⟩, loc_bslice rfl⟩, ?_⟩
  refine ⟨rfl, ?_⟩
  refine ax_q (q_build rfl) ?_
  refine ax_e (e_box rfl rfl (by decide) rfl rfl rfl) ?_
  refine ax_q (q_mov rfl) ?_
  refine ax_nil (cx_keep rfl rfl (cx_seq (cx_ops ?_)))
  refine ax_q (q_mov rfl) ?_
  refine ax_q (q_fadr_ptr rfl) ?_
  refine ax_q (q_load1_ptr rfl rfl rfl) ?_
  refine ax_call rfl (vcall_own (c_walk_look (f := t.Nodes.length + 1) (k := t.Root) (st := st0 t) hn hT (by unfold st0; simp) (by unfold st0; rw [unseen_rep]; omega) (by omega) (by unfold st0; rw [unseen_rep]; simp; omega)) hP hmv false (fun e => bif Nat.beq e 1000 then 21 else bif Nat.beq e 1001 then 18 else 19) [1000, 1001, 1002] ⟨rfl, rfl, rfl, rfl, ⟨rfl, rfl, rfl, trivial⟩, rfl, rfl, rfl⟩ (.pass rfl rfl (.pass rfl rfl .nil)) ?_)
  rintro r h ⟨s, ok, e, rfl, rfl, he, hsl, hkl, hkm, hor⟩
  refine ⟨(fun e => bif Nat.beq e 1000 then 21 else bif Nat.beq e 1001 then 18 else 19), [], ⟨rfl, rfl, rfl, rfl, mem3 rfl rfl rfl, rfl, rfl, fun h => absurd h Bool.false_ne_true⟩, ?_⟩
  have hsl2 : s.seen.length ≤ 200 := by rw [hsl]; unfold st0; simp; omega
  refine ax_q (q_mov rfl) ?_
  refine ax_nil (cx_keep rfl rfl (cx_seq (cx_seq (cx_ops ?_))))
  refine ax_q (q_mov rfl) ?_
  refine ax_nil (cx_keep rfl rfl (cx_block ?_))
  refine cx_loopU (fun m k => k ≤ s.seen.length ∧ m = s.seen.length - k) (fun k : Nat => [(7, int k)]) (fun k => [(1, .box [.d (.int .i64 t.Root), .d (.sl 3 (t.Nodes.map INode.row))]), (21, .box [.d (.int .i64 t.Root), .d (.sl 3 (t.Nodes.map INode.row)), .osl 18 1 0 s.seen.length, .d (.bool (ok && (s.seen.take k).all (fun b => b))), .osl 19 1 0 s.keys.length]), (18, .rows 1 (s.seen.map boolRow)), (19, .rows 1 (s.keys.map strRow))]) ⟨_, 0, ⟨Nat.zero_le _, rfl⟩, by simp only [List.take_zero, List.all_nil, Bool.and_true]; exact (by repeat constructor)⟩ ?_
  rintro m k ⟨hk0, rfl⟩
  refine cx_seq (cx_seq (cx_ops ?_))
  refine ax_q (q_mov rfl) ?_
  refine ax_q (q_mov rfl) ?_
  refine ax_q (q_nilck_ptr rfl) ?_
  refine ax_q (q_fadr_ptr rfl) ?_
  refine ax_q (q_load1_ptr rfl rfl rfl) ?_
  first | refine ax_q (q_lenS_map rfl) ?_ | refine ax_q (q_lenS_osl rfl) ?_
  refine ax_q (q_ibin rfl rfl rfl) ?_
  refine ax_nil (cx_keep rfl rfl ?_)
  refine cx_cond rfl (fun h1 => ?_) (fun h1 => ?_)
  ·
   have h1 := dT h1
   have h1x : k < s.seen.length := by omega
   refine cx_skip ?_
   refine cx_keep rfl rfl (cx_seq (cx_block (cx_ops ?_)))
   refine ax_q (q_mov rfl) ?_
   refine ax_q (q_mov rfl) ?_
   refine ax_q (q_nilck_ptr rfl) ?_
   refine ax_q (q_fadr_ptr rfl) ?_
   refine ax_q (q_load1_ptr rfl rfl rfl) ?_
   refine ax_q (q_mov rfl) ?_
   apply ax_and rfl rfl
   ·
    intro g
    refine ax_q (q_mov rfl) ?_
    refine ax_q (q_nilck_ptr rfl) ?_
    refine ax_q (q_fadr_ptr rfl) ?_
    refine ax_q (q_load1_ptr rfl rfl rfl) ?_
    refine ax_q (q_mov rfl) ?_
    refine ax_q (q_ixo rfl rfl h1x) ?_
    refine ax_q (q_load1_rptr (r := boolRow (s.seen.getD k true)) rfl rfl (boolD h1x) rfl) ?_
    exact ax_nil ⟨rfl, by repeat constructor⟩
   rw [all_s h1x]
   refine ax_q (q_nilck_ptr rfl) ?_
   refine ax_q (q_fadr_ptr rfl) ?_
   refine ax_e (e_st rfl rfl rfl rfl rfl rfl rfl) ?_
   refine ax_nil (cx_keep rfl rfl (cx_ops ?_))
   refine ax_q (q_mov rfl) ?_
   refine ax_qe (r' := int ((k + 1 : Nat) : Int)) (q_ibin rfl rfl rfl) (by rw [wi (by omega) (by omega)]; rfl) ?_
   refine ax_q (q_mov rfl) ?_
   refine ax_nil ?_
   exact ⟨_, k + 1, by omega, ⟨by omega, rfl⟩, by repeat constructor⟩
  ·
   have h1 := dF h1
   obtain rfl : k = s.seen.length := by omega
   rw [List.take_length]
   refine cx_exit rfl ?_
   refine cx_keep rfl rfl (cx_seq (cx_seq (cx_ops ?_)))
   refine ax_q (q_mov rfl) ?_
   refine ax_nil (cx_keep rfl rfl (cx_block ?_))
   refine cx_loopU (fun m k => k ≤ s.keys.length ∧ m = s.keys.length - k) (fun k : Nat => [(8, int k)]) (fun k => [(1, .box [.d (.int .i64 t.Root), .d (.sl 3 (t.Nodes.map INode.row))]), (21, .box [.d (.int .i64 t.Root), .d (.sl 3 (t.Nodes.map INode.row)), .osl 18 1 0 s.seen.length, .d (.bool (ok && s.seen.all (fun b => b) && goodN s.keys k)), .osl 19 1 0 s.keys.length]), (18, .rows 1 (s.seen.map boolRow)), (19, .rows 1 (s.keys.map strRow))]) ⟨_, 0, ⟨Nat.zero_le _, rfl⟩, by simp only [goodN_0, Bool.and_true]; exact (by repeat constructor)⟩ ?_
   rintro m k ⟨hk0, rfl⟩
   refine cx_seq (cx_seq (cx_ops ?_))
   refine ax_q (q_mov rfl) ?_
   refine ax_q (q_mov rfl) ?_
   refine ax_q (q_nilck_ptr rfl) ?_
   refine ax_q (q_fadr_ptr rfl) ?_
   refine ax_q (q_load1_ptr rfl rfl rfl) ?_
   first | refine ax_q (q_lenS_map rfl) ?_ | refine ax_q (q_lenS_osl rfl) ?_
   refine ax_q (q_ibin rfl rfl rfl) ?_
   refine ax_nil (cx_keep rfl rfl ?_)
   refine cx_cond rfl (fun h2 => ?_) (fun h2 => ?_)
   ·
    have h2 := dT h2
    have h2x : k < s.keys.length := by omega
    refine cx_skip ?_
    refine cx_keep rfl rfl (cx_seq (cx_block ?_))
    refine cx_drawP ?_
    refine ax_q (q_mov rfl) ?_
    refine ax_q (q_mov rfl) ?_
    refine ax_q (q_nilck_ptr rfl) ?_
    refine ax_q (q_fadr_ptr rfl) ?_
    refine ax_q (q_load1_ptr rfl rfl rfl) ?_
    refine ax_q (q_mov rfl) ?_
    apply ax_and rfl rfl
    ·
     intro g
     refine ax_q (q_mov rfl) ?_
     refine ax_q (q_nilck_ptr rfl) ?_
     refine ax_q (q_fadr_ptr rfl) ?_
     refine ax_q (q_load1_ptr rfl rfl rfl) ?_
     refine ax_q (q_mov rfl) ?_
     refine ax_q (q_ixo rfl rfl h2x) ?_
     refine ax_q (q_load1_rptr (r := strRow s.keys[k]) rfl rfl (mapAt h2x) rfl) ?_
     refine ax_callq rfl (c_l09Key (s := s.keys[k]) ) hP (lal_id _ rfl) rfl ?_
     exact ax_nil ⟨rfl, by repeat constructor⟩
    refine ax_q (q_mov rfl) ?_
    apply ax_and rfl rfl
    ·
     intro g
     have g := (fun h => And.intro (id (and_T h).1) (id (and_T h).2)) g
     refine ax_q (q_mov rfl) ?_
     refine ax_q (q_ibin rfl rfl rfl) ?_
     refine ax_q (q_mov rfl) ?_
     apply ax_or rfl rfl
     ·
      intro g
      have g := dF g
      have gk : 0 < k := by
       have := of_decide_eq_false (show decide ((k : Int) = 0) = false from by simpa using g)
       omega
      refine ax_q (q_mov rfl) ?_
      refine ax_q (q_nilck_ptr rfl) ?_
      refine ax_q (q_fadr_ptr rfl) ?_
      refine ax_q (q_load1_ptr rfl rfl rfl) ?_
      refine ax_q (q_mov rfl) ?_
      refine ax_qe (r' := int ((k - 1 : Nat) : Int)) (q_ibin rfl rfl rfl) (by rw [wi (by omega) (by omega)]; exact congrArg AM.int (by omega)) ?_
      refine ax_q (q_ixo rfl rfl (by omega)) ?_
      refine ax_q (q_load1_rptr (r := strRow (s.keys.getD (k - 1) [])) rfl rfl (strD (by omega)) rfl) ?_
      refine ax_q (q_mov rfl) ?_
      refine ax_q (q_nilck_ptr rfl) ?_
      refine ax_q (q_fadr_ptr rfl) ?_
      refine ax_q (q_load1_ptr rfl rfl rfl) ?_
      refine ax_q (q_mov rfl) ?_
      refine ax_q (q_ixo rfl rfl h2x) ?_
      refine ax_q (q_load1_rptr (r := strRow s.keys[k]) rfl rfl (mapAt h2x) rfl) ?_
      refine ax_q (q_sbin rfl rfl rfl) ?_
      exact ax_nil ⟨rfl, by repeat constructor⟩
     exact ax_nil ⟨rfl, by repeat constructor⟩
    refine ax_nil ?_
    rw [goodN_s h2x]
    refine ax_q (q_nilck_ptr rfl) ?_
    refine ax_q (q_fadr_ptr rfl) ?_
    refine ax_e (e_st rfl rfl rfl rfl rfl rfl rfl) ?_
    refine ax_nil (cx_keep rfl rfl (cx_ops ?_))
    refine ax_q (q_mov rfl) ?_
    refine ax_qe (r' := int ((k + 1 : Nat) : Int)) (q_ibin rfl rfl rfl) (by rw [wi (by omega) (by omega)]; rfl) ?_
    refine ax_q (q_mov rfl) ?_
    refine ax_nil ?_
    exact ⟨_, k + 1, by omega, ⟨by omega, rfl⟩, by repeat constructor⟩
   ·
    have h2 := dF h2
    obtain rfl : k = s.keys.length := by omega
    rw [goodN_e]
    refine cx_exit rfl ?_
    refine cx_keep rfl rfl (cx_seq (cx_draw ?_))
    refine ax_q (q_mov rfl) ?_
    refine ax_q (q_nilck_ptr rfl) ?_
    refine ax_q (q_fadr_ptr rfl) ?_
    refine ax_q (q_load1_ptr rfl rfl rfl) ?_
    refine ax_q (q_mov rfl) ?_
    refine ax_q (q_mov rfl) ?_
    refine ax_q (q_nilck_ptr rfl) ?_
    refine ax_q (q_fadr_ptr rfl) ?_
    refine ax_q (q_load1_ptr rfl rfl rfl) ?_
    refine ax_q (q_mov rfl) ?_
    apply ax_and rfl rfl
    ·
     intro g
     refine ax_q (q_mov rfl) ?_
     refine ax_q (q_nilck_ptr rfl) ?_
     refine ax_q (q_fadr_ptr rfl) ?_
     refine ax_q (q_load1_ptr rfl rfl rfl) ?_
     first | refine ax_q (q_lenS_map rfl) ?_ | refine ax_q (q_lenS_osl rfl) ?_
     refine ax_q (q_ibin rfl rfl rfl) ?_
     exact ax_nil ⟨rfl, by repeat constructor⟩
    refine ax_q (q_mov rfl) ?_
    refine ax_q (q_mov rfl) ?_
    refine ax_q (q_mov rfl) ?_
    refine ax_nil (cx_keep rfl rfl ?_)
    refine cx_ret (retN (fun _ => 0) [19] rfl rfl rfl rfl rfl ?_)
    refine ⟨s.keys, _, e, ?_, rfl, rfl⟩
    rcases hor with ⟨rfl, hl⟩ | ⟨rfl, hl⟩
    ·
     rw [keysS_of hn hl, keysOf_b, Bool.true_and]
     cases hb : ((s.seen.all (fun b => b) && goodK s.keys) && decide ((s.keys.length : Int) ≤ 60)) with
     | true => exact .inl ⟨rfl, by simp⟩
     | false => exact .inr ⟨rfl, by simp⟩
    ·
     exact .inr ⟨by simp, keysS_no (.inr hl)⟩


/- loop.example/g00332/spec.l09Ask -/
def k_c_l09Ask : XCode :=
 .seq (.ops [.op (some 2) (.box (.t 0)),
   .op (some 4) (.mov (.k (.nils 1))),
   .op (some 5) (.mov (.k (.int .i64 0)))])
 (.keep [1, 2] (.seq (.seq (.ops [.op (some 9) (.mov (.t 1)),
   .op (some 10) (.lenT (.t 9)),
   .op (some 11) (.bin .gtr (.t 10) (.k (.int .i64 65536)))])
  (.keep [1, 2, 11] (.cond (.t 11)
  (.seq (.ops [.op (some 12) (.bslice 1 []),
    .op (some 4) (.mov (.t 12)),
    .op (some 5) (.mov (.k (.int .i64 2)))])
   (.keep [4, 5] (.ret)))
  (.skip))))
 (.keep [1, 2] (.seq (.ops [.op (some 14) (.loadN 2 (.t 2)),
   .call (some 15) 28 [.t 14],
   .op (some 13) (.mov (.t 15)),
   .op (some 16) (.ext (.t 13) 0),
   .op (some 17) (.ext (.t 13) 1),
   .op (some 18) (.ext (.t 13) 2),
   .op (some 6) (.mov (.t 16)),
   .op (some 7) (.mov (.t 17)),
   .op (some 8) (.mov (.t 18))])
 (.keep [1, 6, 8] (.seq (.seq (.ops [.op (some 19) (.mov (.t 8)),
   .op (some 20) (.not (.t 19))])
  (.keep [1, 6, 20] (.cond (.t 20)
  (.seq (.ops [.op (some 21) (.bslice 1 []),
    .op (some 4) (.mov (.t 21)),
    .op (some 5) (.mov (.k (.int .i64 1)))])
   (.keep [4, 5] (.ret)))
  (.skip))))
 (.keep [1, 6] (.seq (.seq (.ops [.op (some 22) (.mov (.t 1)),
   .call (some 23) 29 [.t 22],
   .op (some 24) (.not (.t 23))])
  (.keep [6, 24] (.cond (.t 24)
  (.seq (.ops [.op (some 25) (.bslice 1 []),
    .op (some 4) (.mov (.t 25)),
    .op (some 5) (.mov (.k (.int .i64 4)))])
   (.keep [4, 5] (.ret)))
  (.skip))))
 (.keep [6] (.seq (.ops [.op (some 26) (.mov (.t 6)),
   .op (some 4) (.mov (.t 26)),
   .op (some 5) (.mov (.k (.int .i64 0)))])
 (.keep [4, 5] (.ret))))))))))))
theorem k_c_l09Ask_fits : fitsF Try.prog 15 ⟨27, k_c_l09Ask, [.t 4, .t 5]⟩ = true := by kernel_rfl
theorem c_l09Ask {t : ITree} {key : Str} (hT : TB t) (hz : key.length ≤ 1048576) : Con Try.prog noMv 15 [.agg [.d (.int .i64 t.Root), .d (.sl 3 (t.Nodes.map INode.row))], str key] [] (fun r h => r = .tup [.osl 0 1 0 (askF t key).1.length, int (askF t key).2] ∧ h = [(0, .rows 1 ((askF t key).1.map strRow))]) := by
 refine con_of2 k_c_l09Ask_fits rfl fun C hP hmv => ?_
 unfold k_c_l09Ask
 refine cx_seq (cx_ops ?_)
 refine ax_e (e_box rfl rfl (by decide) rfl rfl rfl) ?_
 refine ax_q (q_mov rfl) ?_
 refine ax_q (q_mov rfl) ?_
 refine ax_nil (cx_keep rfl rfl (cx_seq (cx_seq (cx_ops ?_))))
 refine ax_q (q_mov rfl) ?_
 refine ax_q (q_lenT rfl) ?_
 refine ax_q (q_ibin rfl rfl rfl) ?_
 refine ax_nil (cx_keep rfl rfl ?_)
 refine cx_cond rfl (fun h0 => ?_) (fun h0 => ?_)
 ·
  have h0 := dT h0
  have hlg : 65536 < key.length := by omega
  refine cx_seq (cx_ops ?_)
  refine ax_e (e_bslice rfl (by decide) rfl rfl) ?_
  refine ax_q (q_mov rfl) ?_
  refine ax_q (q_mov rfl) ?_
  refine ax_nil (cx_keep rfl rfl ?_)
  refine cx_ret (retN (fun _ => 0) [12] rfl rfl rfl rfl rfl ?_)
  rw [askF_long hlg]; exact ⟨rfl, rfl⟩
 ·
  have h0 := dF h0
  have hlg : ¬ 65536 < key.length := by omega
  refine cx_skip ?_
  refine cx_keep rfl rfl (cx_seq (cx_ops ?_))
  refine ax_q (q_ldN rfl rfl rfl) ?_
  refine ax_call rfl (vc_pure (c_l09Walk  ?_) hP rfl ?_)
  ·
   assumption
  rintro r h ⟨KS9, OK9, DD9, HK9, rfl, rfl⟩
  refine ⟨fun i => 15 + 200 * i, [0], ⟨rfl, rfl, rfl, rfl, rfl, (by first | exact (fun h => absurd h Bool.false_ne_true) | exact (fun _ => ⟨rfl, (noisl_of (by repeat (first | exact trivial | refine ⟨noisl_map (fun _ => rfl), ?_⟩ | refine ⟨?_, ?_⟩)))⟩))⟩, ?_⟩
  skip
  refine ax_q (q_mov rfl) ?_
  refine ax_q (q_ext rfl rfl) ?_
  refine ax_q (q_ext rfl rfl) ?_
  refine ax_q (q_ext rfl rfl) ?_
  refine ax_q (q_mov rfl) ?_
  refine ax_q (q_mov rfl) ?_
  refine ax_q (q_mov rfl) ?_
  refine ax_nil (cx_keep rfl rfl (cx_seq (cx_seq (cx_ops ?_))))
  refine ax_q (q_mov rfl) ?_
  refine ax_q (q_not rfl) ?_
  refine ax_nil (cx_keep rfl rfl ?_)
  refine cx_cond rfl (fun h1 => ?_) (fun h1 => ?_)
  ·
   have hno : keysI t = none := (HK9.resolve_left (fun q => by rw [q.1] at h1; cases h1)).2
   refine cx_seq (cx_ops ?_)
   refine ax_e (e_bslice rfl (by decide) rfl rfl) ?_
   refine ax_q (q_mov rfl) ?_
   refine ax_q (q_mov rfl) ?_
   refine ax_nil (cx_keep rfl rfl ?_)
   refine cx_ret (retN (fun _ => 0) [21] rfl rfl rfl rfl rfl ?_)
   rw [askF_bad hlg hno]; exact ⟨rfl, rfl⟩
  ·
   have hsm : keysI t = some KS9 := (HK9.resolve_right (fun q => by rw [q.1] at h1; cases h1)).2
   refine cx_skip ?_
   refine cx_keep rfl rfl (cx_seq (cx_seq (cx_ops ?_)))
   refine ax_q (q_mov rfl) ?_
   refine ax_call rfl (vc_pure0 (c_l09Key  ) hP rfl rfl ?_)
   refine ax_q (q_not rfl) ?_
   refine ax_nil (cx_keep rfl rfl ?_)
   refine cx_cond rfl (fun h2 => ?_) (fun h2 => ?_)
   ·
    have h2 : ¬ inR key.length 1 30 = true := by rw [bT h2]; simp
    refine cx_seq (cx_ops ?_)
    refine ax_e (e_bslice rfl (by decide) rfl rfl) ?_
    refine ax_q (q_mov rfl) ?_
    refine ax_q (q_mov rfl) ?_
    refine ax_nil (cx_keep rfl rfl ?_)
    refine cx_ret (retN (fun _ => 0) [25] rfl rfl rfl rfl rfl ?_)
    rw [askF_some hlg hsm, if_neg h2]; exact ⟨rfl, rfl⟩
   ·
    have h2 : inR key.length 1 30 = true := bF h2
    refine cx_skip ?_
    refine cx_keep rfl rfl (cx_seq (cx_ops ?_))
    refine ax_q (q_mov rfl) ?_
    refine ax_q (q_mov rfl) ?_
    refine ax_q (q_mov rfl) ?_
    refine ax_nil (cx_keep rfl rfl ?_)
    refine cx_ret (retN (fun _ => 0) [15] rfl rfl rfl rfl rfl ?_)
    rw [askF_some hlg hsm, if_pos h2]; exact ⟨rfl, rfl⟩


/- loop.example/g00332/spec.l09At -/
def k_c_l09At : XCode :=
 .seq (.ops [.op (some 4) (.mov (.k (.int .i64 0)))])
 (.keep [0, 1] (.seq (.ops [.op (some 5) (.mov (.k (.int .i64 0)))])
 (.keep [0, 1, 5] (.seq (.block 0 (.loop (.seq (.seq (.ops [.op (some 6) (.mov (.t 5)),
     .op (some 7) (.mov (.t 0)),
     .op (some 8) (.lenS (.t 7)),
     .op (some 9) (.bin .lss (.t 6) (.t 8)),
     .op (some 10) (.mov (.t 9)),
     .andor 17 true 4 10 [.op (some 11) (.mov (.t 0)), .op (some 12) (.mov (.t 5)), .op (some 13) (.iadr 1 (.t 11) (.t 12)), .op (some 14) (.load1 (.t 13)), .op (some 15) (.mov (.t 1)), .op (some 16) (.bin .lss (.t 14) (.t 15))] (.t 16)])
   (.keep [0, 1, 5, 17] (.cond (.t 17)
    (.skip)
    (.exit 0))))
   (.keep [0, 1, 5] (.block 1 (.ops [.op (some 18) (.mov (.t 5)),
    .op (some 19) (.bin .add (.t 18) (.k (.int .i64 1))),
    .op (some 5) (.mov (.t 19))]))))))
 (.keep [5] (.seq (.ops [.op (some 20) (.mov (.t 5)),
   .op (some 4) (.mov (.t 20))])
 (.keep [4] (.ret))))))))
theorem k_c_l09At_fits : fitsF Try.prog 16 ⟨21, k_c_l09At, [.t 4]⟩ = true := by kernel_rfl
theorem c_l09At {xs : List Str} {key : Str} (ha : Asc xs) (hl : xs.length ≤ 1000000) : Con Try.prog noMv 16 [.d (.sl 1 (xs.map strRow)), str key] [] (fun r h => r = int (posS xs key : Nat) ∧ h = []) := by
 refine con_of2 k_c_l09At_fits rfl fun C hP hmv => ?_
 unfold k_c_l09At
 refine cx_seq (cx_ops ?_)
 refine ax_q (q_mov rfl) ?_
 refine ax_nil (cx_keep rfl rfl (cx_seq (cx_ops ?_)))
 refine ax_q (q_mov rfl) ?_
 refine ax_nil (cx_keep rfl rfl (cx_seq (cx_block ?_)))
 refine cx_loopU (fun n k => k ≤ xs.length ∧ n = xs.length - k ∧ ∀ j (h : j < xs.length), j < k → Op.bytesLess xs[j] key = true) (fun k : Nat => [(5, int k)]) (fun _ => []) ⟨_, 0, ⟨Nat.zero_le _, rfl, fun j h hj => by omega⟩, by repeat constructor⟩ ?_
 rintro n k ⟨hk, rfl, ht⟩
 refine cx_seq (cx_seq (cx_ops ?_))
 refine ax_q (q_mov rfl) ?_
 refine ax_q (q_mov rfl) ?_
 refine ax_q (q_lenS_map rfl) ?_
 refine ax_q (q_ibin rfl rfl rfl) ?_
 refine ax_q (q_mov rfl) ?_
 apply ax_and rfl rfl
 ·
  intro g
  have g := dT g
  refine ax_q (q_mov rfl) ?_
  refine ax_q (q_mov rfl) ?_
  refine ax_q (q_ix (row := strRow (xs.getD k [])) rfl rfl (strD (by omega))) ?_
  first | refine ax_q (q_load1_ptr rfl rfl rfl) ?_ | refine ax_q (q_load1_ip rfl) ?_
  refine ax_q (q_mov rfl) ?_
  refine ax_q (q_sbin rfl rfl rfl) ?_
  exact ax_nil ⟨rfl, by repeat constructor⟩
 refine ax_nil (cx_keep rfl rfl ?_)
 refine cx_cond rfl (fun h0 => ?_) (fun h0 => ?_)
 ·
  rw [Bool.and_eq_true] at h0
  have h0x : k < xs.length := by have := of_decide_eq_true h0.1; omega
  have hx0 : Op.bytesLess xs[k] key = true := by have h := h0.2; rw [show xs.getD k [] = xs[k] from by simp [h0x]] at h; exact h
  refine cx_skip ?_
  refine cx_keep rfl rfl (cx_block (cx_ops ?_))
  refine ax_q (q_mov rfl) ?_
  refine ax_qe (r' := int ((k + 1 : Nat) : Int)) (q_ibin rfl rfl rfl) (by rw [wi (by omega) (by omega)]; rfl) ?_
  refine ax_q (q_mov rfl) ?_
  refine ax_nil ?_
  exact ⟨_, k + 1, by omega, ⟨by omega, rfl, fun j h hj => by
   rcases Nat.lt_or_ge j k with h1 | h1
   ·
    exact ht j h h1
   ·
    obtain rfl : j = k := by omega
    exact hx0⟩, by repeat constructor⟩
 ·
  have e : k = posS xs key := posS_of ha hk (fun j h hj => ht j h hj) (fun h => by
   rw [Bool.and_eq_false_iff] at h0
   rcases h0 with h0 | h0
   ·
    exact absurd (show (k : Int) < (xs.length : Int) by omega) (of_decide_eq_false h0)
   ·
    rw [show xs.getD k [] = xs[k] from by simp [h]] at h0; exact h0)
  subst e
  refine cx_exit rfl ?_
  refine cx_keep rfl rfl (cx_seq (cx_ops ?_))
  refine ax_q (q_mov rfl) ?_
  refine ax_q (q_mov rfl) ?_
  refine ax_nil (cx_keep rfl rfl ?_)
  refine cx_ret (ret0 rfl rfl ?_)
  exact ⟨rfl, rfl⟩


/- loop.example/g00332/spec.l09Part -/
def k_c_l09Part : XCode :=
 .seq (.ops [.op (some 4) (.mov (.k (.int .i64 0)))])
 (.keep [0, 1] (.seq (.seq (.ops [.op (some 5) (.mov (.t 0)),
   .op (some 6) (.mov (.t 1)),
   .op (some 7) (.bin .add (.t 6) (.k (.int .i64 1))),
   .op (some 8) (.bin .eql (.t 5) (.t 7))])
  (.keep [0, 1, 8] (.cond (.t 8)
  (.seq (.ops [.op (some 9) (.mov (.t 1)),
    .op (some 10) (.bin .sub (.t 9) (.k (.int .i64 1))),
    .op (some 4) (.mov (.t 10))])
   (.keep [4] (.ret)))
  (.skip))))
 (.keep [0, 1] (.seq (.ops [.op (some 11) (.mov (.t 0)),
   .op (some 12) (.mov (.t 1)),
   .op (some 13) (.mx false (.t 11) (.t 12)),
   .op (some 4) (.mov (.t 13))])
 (.keep [4] (.ret))))))
theorem k_c_l09Part_fits : fitsF Try.prog 30 ⟨14, k_c_l09Part, [.t 4]⟩ = true := by kernel_rfl
theorem c_l09Part {a b : Nat} (ha : a ≤ 1000) (hb : 1 ≤ b ∧ b ≤ 100) : Con Try.prog noMv 30 [int a, int b] [] (fun r h => r = int (chunkN a b : Nat) ∧ h = []) := by
 refine con_of2 k_c_l09Part_fits rfl fun C hP hmv => ?_
 unfold k_c_l09Part
 refine cx_seq (cx_ops ?_)
 refine ax_q (q_mov rfl) ?_
 refine ax_nil (cx_keep rfl rfl (cx_seq (cx_seq (cx_ops ?_))))
 refine ax_q (q_mov rfl) ?_
 refine ax_q (q_mov rfl) ?_
 refine ax_q (q_add rfl rfl (by omega)) ?_
 refine ax_q (q_ibin rfl rfl rfl) ?_
 refine ax_nil (cx_keep rfl rfl ?_)
 refine cx_cond rfl (fun h0 => ?_) (fun h0 => ?_)
 ·
  have h0 := dT h0
  refine cx_seq (cx_ops ?_)
  refine ax_q (q_mov rfl) ?_
  refine ax_qe (r' := int ((b - 1 : Nat) : Int)) (q_ibin rfl rfl rfl) (by rw [wi (by omega) (by omega)]; exact congrArg AM.int (by omega)) ?_
  refine ax_q (q_mov rfl) ?_
  refine ax_nil (cx_keep rfl rfl ?_)
  refine cx_ret (ret0 rfl rfl ?_)
  exact ⟨by unfold chunkN; rw [if_neg (by omega), if_pos (by omega)]; rfl, rfl⟩
 ·
  have h0 := dF h0
  refine cx_skip ?_
  refine cx_keep rfl rfl (cx_seq (cx_ops ?_))
  refine ax_q (q_mov rfl) ?_
  refine ax_q (q_mov rfl) ?_
  refine ax_qe (r' := int (chunkN a b : Nat)) (q_mx rfl rfl) (congrArg AM.int (part_mx h0)) ?_
  refine ax_q (q_mov rfl) ?_
  refine ax_nil (cx_keep rfl rfl ?_)
  refine cx_ret (ret0 rfl rfl ?_)
  exact ⟨rfl, rfl⟩


/- loop.example/g00332/spec.l09Build -/
def k_c_l09Build0 : XCode :=
 .seq (.ops [.op (some 2) (.alloc [.int .i64 0, .nils 3])])
 (.keep [0, 2] (.seq (.ops [.op (some 12) (.bslice 3 []),
   .op (some 13) (.build [.int .i64 0, .nils 3] [(1, 1, .t 12)]),
   .op (some 3) (.alloc [.int .i64 0, .nils 3]),
   .op none (.store 2 (.t 3) (.t 13))])
 (.keep [0, 2, 3] (.seq (.ops [.op (some 14) (.bslice 1 []),
   .op (some 4) (.mov (.t 14))])
 (.keep [0, 2, 3, 4] (.seq (.ops [.op (some 15) (.bslice 1 []),
   .op (some 5) (.mov (.t 15))])
 (.keep [0, 2, 3, 4, 5] (.seq (.seq (.ops [.op (some 6) (.mov (.k (.int .i64 0)))])
  (.keep [0, 2, 3, 4, 5, 6] (.block 0 (.loop (.seq (.seq (.ops [.op (some 16) (.mov (.t 6)),
     .op (some 17) (.mov (.t 0)),
     .op (some 18) (.lenS (.t 17)),
     .op (some 19) (.bin .lss (.t 16) (.t 18)),
     .op (some 20) (.mov (.t 19)),
     .andor 23 false 4 20 [.op (some 21) (.mov (.t 6)), .op (some 22) (.bin .eql (.t 21) (.k (.int .i64 0)))] (.t 22)])
   (.keep [0, 2, 3, 4, 5, 6, 23] (.cond (.t 23)
    (.skip)
    (.exit 0))))
   (.keep [0, 2, 3, 4, 5, 6] (.block 1 (.seq (.ops [.op (some 24) (.mov (.t 0)),
     .op (some 25) (.lenS (.t 24)),
     .op (some 26) (.mov (.t 6)),
     .op (some 27) (.bin .sub (.t 25) (.t 26)),
     .call (some 28) 30 [.t 27, .k (.int .i64 4)],
     .op (some 7) (.mov (.t 28))])
   (.keep [0, 2, 3, 4, 5, 6, 7] (.seq (.drawE [[], [0], [], [], [], [], [], [5, 6], [3, 4, 5, 6, 7], [2, 3, 4, 5, 6, 7, 8], [], [2, 3, 4, 5, 6, 7, 8, 9, 10], [2, 3, 4, 5, 6, 7, 8, 9, 10, 11], [0, 1, 2, 3, 4, 5, 6, 7, 8, 9, 10, 11, 12], [0, 1, 2, 3, 4, 5, 6, 7, 8, 9, 10, 11, 12, 13], [0, 1, 2, 3, 4, 5, 6, 7, 8, 9, 10, 11, 12, 13, 14]] [.op (some 29) (.fadr (.t 3) 1),
     .op (some 30) (.load1 (.t 29)),
     .op (some 31) (.bslice 1 []),
     .op (some 32) (.mov (.t 0)),
     .op (some 33) (.mov (.t 6)),
     .op (some 34) (.mov (.t 6)),
     .op (some 35) (.mov (.t 7)),
     .op (some 36) (.bin .add (.t 34) (.t 35)),
     .op (some 37) (.slc 1 (.t 32) (some (.t 33)) (some (.t 36)) none),
     .op (some 38) (.app 1 16 [.str []] (.t 31) (.t 37)),
     .op (some 39) (.bslice 1 []),
     .op (some 40) (.build [.bool false, .nils 1, .nils 1] [(0, 1, .k (.bool true)), (1, 1, .t 38), (2, 1, .t 39)]),
     .op (some 41) (.bslice 3 [.t 40])]
    [.op (some 42) (.app 3 56 [.bool false, .nils 1, .nils 1] (.t 30) (.t 41)),
     .op (some 43) (.fadr (.t 3) 1),
     .op none (.store 1 (.t 43) (.t 42))])
   (.keep [0, 2, 3, 4, 5, 6, 7] (.seq (.ops [.op (some 44) (.mov (.t 4)),
     .op (some 45) (.fadr (.t 3) 1),
     .op (some 46) (.load1 (.t 45)),
     .op (some 47) (.lenS (.t 46)),
     .op (some 48) (.bin .sub (.t 47) (.k (.int .i64 1))),
     .op (some 49) (.bslice 1 [.t 48]),
     .op (some 50) (.app 1 8 [.int .i64 0] (.t 44) (.t 49)),
     .op (some 4) (.mov (.t 50))])
   (.keep [0, 2, 3, 4, 5, 6, 7] (.seq (.seq (.ops [.op (some 51) (.mov (.t 7)),
     .op (some 52) (.bin .eql (.t 51) (.k (.int .i64 0)))])
    (.keep [0, 2, 3, 4, 5, 6, 7, 52] (.cond (.t 52)
    (.exit 0)
    (.skip))))
   (.keep [0, 2, 3, 4, 5, 6, 7] (.seq (.ops [.op (some 53) (.mov (.t 5)),
     .op (some 54) (.mov (.t 0)),
     .op (some 55) (.mov (.t 6)),
     .op (some 56) (.iadr 1 (.t 54) (.t 55)),
     .op (some 57) (.load1 (.t 56)),
     .op (some 58) (.bslice 1 [.t 57]),
     .op (some 59) (.app 1 16 [.str []] (.t 53) (.t 58)),
     .op (some 5) (.mov (.t 59))])
   (.keep [0, 2, 3, 4, 5, 6, 7] (.ops [.op (some 60) (.mov (.t 6)),
    .op (some 61) (.mov (.t 7)),
    .op (some 62) (.bin .add (.t 60) (.t 61)),
    .op (some 6) (.mov (.t 62))]))))))))))))))))))
 (.keep [2, 3, 4, 5] (.seq (.block 2 (.loop (.seq (.seq (.ops [.op (some 63) (.mov (.t 4)),
     .op (some 64) (.lenS (.t 63)),
     .op (some 65) (.bin .gtr (.t 64) (.k (.int .i64 1)))])
   (.keep [2, 3, 4, 5, 65] (.cond (.t 65)
    (.skip)
    (.exit 2))))
   (.keep [2, 3, 4, 5] (.block 3 (.seq (.ops [.op (some 66) (.bslice 1 []),
     .op (some 8) (.mov (.t 66))])
   (.keep [2, 3, 4, 5, 8] (.seq (.ops [.op (some 67) (.bslice 1 []),
     .op (some 9) (.mov (.t 67))])
   (.keep [2, 3, 4, 5, 8, 9] (.seq (.seq (.ops [.op (some 10) (.mov (.k (.int .i64 0)))])
    (.keep [2, 3, 4, 5, 8, 9, 10] (.block 4 (.loop (.seq (.seq (.ops [.op (some 68) (.mov (.t 10)),
       .op (some 69) (.mov (.t 4)),
       .op (some 70) (.lenS (.t 69)),
       .op (some 71) (.bin .lss (.t 68) (.t 70))])
     (.keep [2, 3, 4, 5, 8, 9, 10, 71] (.cond (.t 71)
      (.skip)
      (.exit 4))))
     (.keep [2, 3, 4, 5, 8, 9, 10] (.block 5 (.seq (.ops [.op (some 72) (.mov (.t 4)),
       .op (some 73) (.lenS (.t 72)),
       .op (some 74) (.mov (.t 10)),
       .op (some 75) (.bin .sub (.t 73) (.t 74)),
       .call (some 76) 30 [.t 75, .k (.int .i64 5)],
       .op (some 11) (.mov (.t 76))])
     (.keep [2, 3, 4, 5, 8, 9, 10, 11] (.seq (.drawE [[], [0], [], [], [], [4], [], [], [6, 7], [3, 4, 5, 6, 7, 8], [2, 3, 4, 5, 6, 7, 8, 9], [], [], [], [], [], [14, 15], [12, 13, 14, 15, 16], [2, 3, 4, 5, 6, 7, 8, 9, 10, 11, 12, 13, 14, 15, 16, 17], [2, 3, 4, 5, 6, 7, 8, 9, 10, 11, 12, 13, 14, 15, 16, 17, 18], [2, 3, 4, 5, 6, 7, 8, 9, 10, 11, 12, 13, 14, 15, 16, 17, 18, 19], [0, 1, 2, 3, 4, 5, 6, 7, 8, 9, 10, 11, 12, 13, 14, 15, 16, 17, 18, 19, 20], [0, 1, 2, 3, 4, 5, 6, 7, 8, 9, 10, 11, 12, 13, 14, 15, 16, 17, 18, 19, 20, 21], [0, 1, 2, 3, 4, 5, 6, 7, 8, 9, 10, 11, 12, 13, 14, 15, 16, 17, 18, 19, 20, 21, 22]] [.op (some 77) (.fadr (.t 3) 1),
       .op (some 78) (.load1 (.t 77)),
       .op (some 79) (.bslice 1 []),
       .op (some 80) (.mov (.t 5)),
       .op (some 81) (.mov (.t 10)),
       .op (some 82) (.bin .add (.t 81) (.k (.int .i64 1))),
       .op (some 83) (.mov (.t 10)),
       .op (some 84) (.mov (.t 11)),
       .op (some 85) (.bin .add (.t 83) (.t 84)),
       .op (some 86) (.slc 1 (.t 80) (some (.t 82)) (some (.t 85)) none),
       .op (some 87) (.app 1 16 [.str []] (.t 79) (.t 86)),
       .op (some 88) (.bslice 1 []),
       .op (some 89) (.mov (.t 4)),
       .op (some 90) (.mov (.t 10)),
       .op (some 91) (.mov (.t 10)),
       .op (some 92) (.mov (.t 11)),
       .op (some 93) (.bin .add (.t 91) (.t 92)),
       .op (some 94) (.slc 1 (.t 89) (some (.t 90)) (some (.t 93)) none),
       .op (some 95) (.app 1 8 [.int .i64 0] (.t 88) (.t 94)),
       .op (some 96) (.build [.bool false, .nils 1, .nils 1] [(1, 1, .t 87), (2, 1, .t 95)]),
       .op (some 97) (.bslice 3 [.t 96])]
      [.op (some 98) (.app 3 56 [.bool false, .nils 1, .nils 1] (.t 78) (.t 97)),
       .op (some 99) (.fadr (.t 3) 1),
       .op none (.store 1 (.t 99) (.t 98))])
     (.keep [2, 3, 4, 5, 8, 9, 10, 11] (.seq (.ops [.op (some 100) (.mov (.t 8)),
       .op (some 101) (.fadr (.t 3) 1),
       .op (some 102) (.load1 (.t 101)),
       .op (some 103) (.lenS (.t 102)),
       .op (some 104) (.bin .sub (.t 103) (.k (.int .i64 1))),
       .op (some 105) (.bslice 1 [.t 104]),
       .op (some 106) (.app 1 8 [.int .i64 0] (.t 100) (.t 105)),
       .op (some 8) (.mov (.t 106))])
     (.keep [2, 3, 4, 5, 8, 9, 10, 11] (.seq (.ops [.op (some 107) (.mov (.t 9)),
       .op (some 108) (.mov (.t 5)),
       .op (some 109) (.mov (.t 10)),
       .op (some 110) (.iadr 1 (.t 108) (.t 109)),
       .op (some 111) (.load1 (.t 110)),
       .op (some 112) (.bslice 1 [.t 111]),
       .op (some 113) (.app 1 16 [.str []] (.t 107) (.t 112)),
       .op (some 9) (.mov (.t 113))])
     (.keep [2, 3, 4, 5, 8, 9, 10, 11] (.ops [.op (some 114) (.mov (.t 10)),
      .op (some 115) (.mov (.t 11)),
      .op (some 116) (.bin .add (.t 114) (.t 115)),
      .op (some 10) (.mov (.t 116))]))))))))))))))))
   (.keep [2, 3, 8, 9] (.seq (.ops [.op (some 117) (.mov (.t 8)),
     .op (some 4) (.mov (.t 117))])
   (.keep [2, 3, 4, 9] (.ops [.op (some 118) (.mov (.t 9)),
    .op (some 5) (.mov (.t 118))]))))))))))))))
 (.keep [2, 3, 4] (.seq (.ops [.op (some 119) (.mov (.t 4)),
   .op (some 120) (.iadr 1 (.t 119) (.k (.int .i64 0))),
   .op (some 121) (.load1 (.t 120)),
   .op (some 122) (.fadr (.t 3) 0),
   .op none (.store 1 (.t 122) (.t 121))])
 (.keep [2, 3] (.seq (.ops [.op (some 123) (.loadN 2 (.t 3)),
   .op none (.store 2 (.t 2) (.t 123))])
 (.keep [2] (.ret))))))))))))))))
theorem k_c_l09Build0_fits : fitsF Try.prog 17 ⟨124, k_c_l09Build0, [.cN 2 2]⟩ = true := by kernel_rfl
set_option maxHeartbeats 4000000 in
theorem c_l09Build0  : Con Try.prog noMv 17 [.d (.sl 1 (([] : List Str).map strRow))] [] (fun r h => r = .agg [.d (.int .i64 (treeT ([] : List Str)).root), .d (.sl 3 ((treeT ([] : List Str)).nodes.map TN.row))] ∧ h = []) := by
 refine con_of2 k_c_l09Build0_fits rfl fun C hP hmv => ?_
 unfold k_c_l09Build0
 refine cx_seq (cx_ops ?_)
 refine ax_e (e_alloc (by decide) rfl rfl) ?_
 refine ax_nil (cx_keep rfl rfl (cx_seq (cx_ops ?_)))
 refine ax_e (e_bslice rfl (by decide) rfl rfl) ?_
 refine ax_q (q_build rfl) ?_
 refine ax_e (e_alloc (by decide) rfl rfl) ?_
 refine ax_e (e_st rfl rfl rfl rfl rfl rfl rfl) ?_
 refine ax_nil (cx_keep rfl rfl (cx_seq (cx_ops ?_)))
 refine ax_e (e_bslice rfl (by decide) rfl rfl) ?_
 refine ax_q (q_mov rfl) ?_
 refine ax_nil (cx_keep rfl rfl (cx_seq (cx_ops ?_)))
 refine ax_e (e_bslice rfl (by decide) rfl rfl) ?_
 refine ax_q (q_mov rfl) ?_
 refine ax_nil (cx_keep rfl rfl (cx_seq (cx_seq (cx_ops ?_))))
 refine ax_q (q_mov rfl) ?_
 refine ax_nil (cx_keep rfl rfl (cx_block ?_))
 refine cx_loopU (fun n (_ : Unit) => n = 0) (fun _ => [(6, int (0 : Nat)), (4, .osl 14 1 0 ([] : List Nat).length), (5, .osl 15 1 0 ([] : List Str).length)]) (fun _ => [(2, .box [.d (.int .i64 0), .zs 3]), (3, .box [.d (.int .i64 0), .osl 12 3 0 ([] : List GNode).length]), (12, .rows 3 (([] : List GNode).map TN.row)), (14, .rows 1 (([] : List Nat).map kidRow)), (15, .rows 1 (([] : List Str).map strRow))]) ⟨_, (), rfl, by repeat constructor⟩ ?_
 rintro m u rfl
 refine cx_seq (cx_seq (cx_ops ?_))
 refine ax_q (q_mov rfl) ?_
 refine ax_q (q_mov rfl) ?_
 refine ax_q (q_lenS_map rfl) ?_
 refine ax_q (q_ibin rfl rfl rfl) ?_
 refine ax_q (q_mov rfl) ?_
 apply ax_or rfl rfl
 ·
  intro g
  have g := dF g
  refine ax_q (q_mov rfl) ?_
  refine ax_q (q_ibin rfl rfl rfl) ?_
  exact ax_nil ⟨rfl, by repeat constructor⟩
 refine ax_nil (cx_keep rfl rfl ?_)
 refine cx_cond rfl (fun h0 => ?_) (fun h0 => ?_)
 ·
  skip
  refine cx_skip ?_
  refine cx_keep rfl rfl (cx_block (cx_seq (cx_ops ?_)))
  refine ax_q (q_mov rfl) ?_
  refine ax_q (q_lenS_map rfl) ?_
  refine ax_q (q_mov rfl) ?_
  refine ax_qe (r' := int ((0 : Nat) : Int)) (q_ibin rfl rfl rfl) (by rw [wi (by simp) (by simp)]; rfl) ?_
  refine ax_call rfl (vc_pure0 (c_l09Part (a := 0) (b := 4) ?_ ?_) hP rfl rfl ?_)
  ·
   first | assumption | omega
  ·
   first | assumption | omega
  rw [show chunkN 0 4 = 0 from rfl]
  refine ax_q (q_mov rfl) ?_
  refine ax_nil (cx_keep rfl rfl (cx_seq ?_))
  refine cx_drawL 0 29 (fun _ => false) (fun _ => true) [] ([]) [[3], [29], [], [0], [6], [6], [7], [34, 35], [32, 33, 36], [31, 37], [], [38, 39], [40]] [[], [], [], [], [], [], [], [], [], [], [], [], []] rfl ?_
  first | refine ⟨⟨29, _, []⟩, .inl ⟨rfl, rfl, rfl, locl_of (loc_q (q_fadr_ptr rfl))⟩, ?_⟩
  first | refine ⟨_, .inr ⟨rfl, _, rfl, .inr ⟨rfl, rfl, .inl rfl, rfl, rfl⟩, loc_q (q_load1_ptr rfl rfl rfl)⟩, ?_⟩
  first | refine ⟨_, .inr ⟨rfl, _, rfl, .inr ⟨rfl, rfl, .inr rfl, rfl, rfl⟩, loc_bsliceZ⟩, ?_⟩
  first | refine ⟨_, .inr ⟨rfl, _, rfl, .inr ⟨rfl, rfl, .inr rfl, rfl, rfl⟩, loc_q (q_mov rfl)⟩, ?_⟩
  first | refine ⟨_, .inr ⟨rfl, _, rfl, .inr ⟨rfl, rfl, .inr rfl, rfl, rfl⟩, loc_q (q_mov rfl)⟩, ?_⟩
  first | refine ⟨_, .inr ⟨rfl, _, rfl, .inr ⟨rfl, rfl, .inr rfl, rfl, rfl⟩, loc_q (q_mov rfl)⟩, ?_⟩
  first | refine ⟨_, .inr ⟨rfl, _, rfl, .inr ⟨rfl, rfl, .inr rfl, rfl, rfl⟩, loc_q (q_mov rfl)⟩, ?_⟩
  first | refine ⟨_, .inr ⟨rfl, _, rfl, .inr ⟨rfl, rfl, .inr rfl, rfl, rfl⟩, loc_qe (r' := int ((0 : Nat) : Int)) (q_ibin rfl rfl rfl) (by rw [wi (by simp) (by simp)]; rfl)⟩, ?_⟩
  first | refine ⟨_, .inr ⟨rfl, _, rfl, .inr ⟨rfl, rfl, .inr rfl, rfl, rfl⟩, loc_qe (r' := .d (.sl 1 (([] : List Str).map strRow))) (q_slc rfl rfl rfl (by simp) (by simp) (by simp)) (rfl)⟩, ?_⟩
  first | refine ⟨_, .inr ⟨rfl, _, rfl, .inr ⟨rfl, rfl, .inr rfl, rfl, rfl⟩, loc_appZD (rs := ([] : List Str).map strRow) rfl rfl (fun _ _ h => src_sl 1 _) (bnd0 (by simp) (by decide)) rfl⟩, ?_⟩
  first | refine ⟨_, .inr ⟨rfl, _, rfl, .inr ⟨rfl, rfl, .inr rfl, rfl, rfl⟩, loc_bsliceZ⟩, ?_⟩
  first | refine ⟨_, .inr ⟨rfl, _, rfl, .inr ⟨rfl, rfl, .inr rfl, rfl, rfl⟩, loc_q (q_build rfl)⟩, ?_⟩
  first | refine ⟨_, .inr ⟨rfl, _, rfl, .inr ⟨rfl, rfl, .inr rfl, rfl, rfl⟩, loc_bsliceD (rows := [TN.row (⟨true, [], []⟩ : GNode)]) rfl⟩, ?_⟩
  refine ⟨rfl, ?_⟩
  refine ax_e (e_appn (n' := (([] : List GNode) ++ [(⟨true, [], []⟩ : GNode)]).length) (rs' := (([] : List GNode) ++ [(⟨true, [], []⟩ : GNode)]).map TN.row) rfl rfl (by simp) rfl (src_sl 3 _) (.inl (by decide)) (hbnd (by simp) (by simp) (by decide)) (by simp) (app_all (ys := [(⟨true, [], []⟩ : GNode)]) (row := TN.row))) ?_
  refine ax_q (q_fadr_ptr rfl) ?_
  refine ax_e (e_st rfl rfl rfl rfl rfl rfl rfl) ?_
  refine ax_nil (cx_keep rfl rfl (cx_seq (cx_ops ?_)))
  refine ax_q (q_mov rfl) ?_
  refine ax_q (q_fadr_ptr rfl) ?_
  refine ax_q (q_load1_ptr rfl rfl rfl) ?_
  first | refine ax_q (q_lenS_map rfl) ?_ | refine ax_q (q_lenS_osl rfl) ?_
  refine ax_qe (r' := int ((0 : Nat) : Int)) (q_ibin rfl rfl rfl) (by rw [wi (by simp) (by simp)]; rfl) ?_
  refine ax_e (e_bsliceD (rows := [kidRow 0]) rfl) ?_
  refine ax_e (e_appn (n' := (([] : List Nat) ++ [0]).length) (rs' := (([] : List Nat) ++ [0]).map kidRow) rfl rfl (by simp) rfl (src_sl 1 _) (.inl (by decide)) (hbnd (by simp) (by simp) (by decide)) (by simp) (app_all (ys := [0]) (row := kidRow))) ?_
  refine ax_q (q_mov rfl) ?_
  refine ax_nil (cx_keep rfl rfl (cx_seq (cx_seq (cx_ops ?_))))
  refine ax_q (q_mov rfl) ?_
  refine ax_q (q_ibin rfl rfl rfl) ?_
  refine ax_nil (cx_keep rfl rfl ?_)
  refine cx_cond rfl (fun h1 => ?_) (fun h1 => ?_)
  ·
   skip
   refine cx_exit rfl ?_
   refine cx_keep rfl rfl (cx_seq (cx_block ?_))
   refine cx_wk (wk_frz 4 14 rfl rfl (.whole (by simp)) rfl) ?_
   refine cx_wk (wk_frz 5 15 rfl rfl (.whole (by simp)) rfl) ?_
   refine cx_loopU (fun n (_ : Unit) => n = 0) (fun _ => [(4, .d (.sl 1 ([0].map kidRow))), (5, .d (.sl 1 (([] : List Str).map strRow)))]) (fun _ => [(2, .box [.d (.int .i64 0), .zs 3]), (3, .box [.d (.int .i64 0), .osl 12 3 0 [(⟨true, [], []⟩ : GNode)].length]), (12, .rows 3 ([(⟨true, [], []⟩ : GNode)].map TN.row))]) ⟨_, (), rfl, by repeat constructor⟩ ?_
   rintro m u rfl
   refine cx_seq (cx_seq (cx_ops ?_))
   refine ax_q (q_mov rfl) ?_
   refine ax_q (q_lenS_map rfl) ?_
   refine ax_q (q_ibin rfl rfl rfl) ?_
   refine ax_nil (cx_keep rfl rfl ?_)
   refine cx_cond rfl (fun h2 => ?_) (fun h2 => ?_)
   ·
    skip
    cases h2
   ·
    skip
    refine cx_exit rfl ?_
    refine cx_keep rfl rfl (cx_seq (cx_ops ?_))
    refine ax_q (q_mov rfl) ?_
    refine ax_q (q_ixI (row := kidRow 0) rfl rfl (by simp) rfl) ?_
    first | refine ax_q (q_load1_ptr rfl rfl rfl) ?_ | refine ax_q (q_load1_ip rfl) ?_
    refine ax_q (q_fadr_ptr rfl) ?_
    refine ax_e (e_st rfl rfl rfl rfl rfl rfl rfl) ?_
    refine ax_nil (cx_keep rfl rfl (cx_seq (cx_ops ?_)))
    refine ax_q (q_ldN rfl rfl rfl) ?_
    refine ax_wk (wk_frz 123 12 rfl rfl (.agg (.cons (.same rfl) (.cons (.whole (by simp)) .nil))) rfl) ?_
    refine ax_e (e_st rfl rfl rfl rfl rfl rfl rfl) ?_
    refine ax_nil (cx_keep rfl rfl ?_)
    refine cx_ret (ret0 rfl rfl ?_)
    exact ⟨rfl, rfl⟩
  ·
   skip
   cases h1
 ·
  skip
  cases h0

/- loop.example/g00332/spec.l09Build -/
def k_c_l09Build : XCode :=
 .seq (.ops [.op (some 2) (.alloc [.int .i64 0, .nils 3])])
 (.keep [0, 2] (.seq (.ops [.op (some 12) (.bslice 3 []),
   .op (some 13) (.build [.int .i64 0, .nils 3] [(1, 1, .t 12)]),
   .op (some 3) (.alloc [.int .i64 0, .nils 3]),
   .op none (.store 2 (.t 3) (.t 13))])
 (.keep [0, 2, 3] (.seq (.ops [.op (some 14) (.bslice 1 []),
   .op (some 4) (.mov (.t 14))])
 (.keep [0, 2, 3, 4] (.seq (.ops [.op (some 15) (.bslice 1 []),
   .op (some 5) (.mov (.t 15))])
 (.keep [0, 2, 3, 4, 5] (.seq (.seq (.ops [.op (some 6) (.mov (.k (.int .i64 0)))])
  (.keep [0, 2, 3, 4, 5, 6] (.block 0 (.loop (.seq (.seq (.ops [.op (some 16) (.mov (.t 6)),
     .op (some 17) (.mov (.t 0)),
     .op (some 18) (.lenS (.t 17)),
     .op (some 19) (.bin .lss (.t 16) (.t 18)),
     .op (some 20) (.mov (.t 19)),
     .andor 23 false 4 20 [.op (some 21) (.mov (.t 6)), .op (some 22) (.bin .eql (.t 21) (.k (.int .i64 0)))] (.t 22)])
   (.keep [0, 2, 3, 4, 5, 6, 23] (.cond (.t 23)
    (.skip)
    (.exit 0))))
   (.keep [0, 2, 3, 4, 5, 6] (.block 1 (.seq (.ops [.op (some 24) (.mov (.t 0)),
     .op (some 25) (.lenS (.t 24)),
     .op (some 26) (.mov (.t 6)),
     .op (some 27) (.bin .sub (.t 25) (.t 26)),
     .call (some 28) 30 [.t 27, .k (.int .i64 4)],
     .op (some 7) (.mov (.t 28))])
   (.keep [0, 2, 3, 4, 5, 6, 7] (.seq (.drawE [[], [0], [], [], [], [], [], [5, 6], [3, 4, 5, 6, 7], [2, 3, 4, 5, 6, 7, 8], [], [2, 3, 4, 5, 6, 7, 8, 9, 10], [2, 3, 4, 5, 6, 7, 8, 9, 10, 11], [0, 1, 2, 3, 4, 5, 6, 7, 8, 9, 10, 11, 12], [0, 1, 2, 3, 4, 5, 6, 7, 8, 9, 10, 11, 12, 13], [0, 1, 2, 3, 4, 5, 6, 7, 8, 9, 10, 11, 12, 13, 14]] [.op (some 29) (.fadr (.t 3) 1),
     .op (some 30) (.load1 (.t 29)),
     .op (some 31) (.bslice 1 []),
     .op (some 32) (.mov (.t 0)),
     .op (some 33) (.mov (.t 6)),
     .op (some 34) (.mov (.t 6)),
     .op (some 35) (.mov (.t 7)),
     .op (some 36) (.bin .add (.t 34) (.t 35)),
     .op (some 37) (.slc 1 (.t 32) (some (.t 33)) (some (.t 36)) none),
     .op (some 38) (.app 1 16 [.str []] (.t 31) (.t 37)),
     .op (some 39) (.bslice 1 []),
     .op (some 40) (.build [.bool false, .nils 1, .nils 1] [(0, 1, .k (.bool true)), (1, 1, .t 38), (2, 1, .t 39)]),
     .op (some 41) (.bslice 3 [.t 40])]
    [.op (some 42) (.app 3 56 [.bool false, .nils 1, .nils 1] (.t 30) (.t 41)),
     .op (some 43) (.fadr (.t 3) 1),
     .op none (.store 1 (.t 43) (.t 42))])
   (.keep [0, 2, 3, 4, 5, 6, 7] (.seq (.ops [.op (some 44) (.mov (.t 4)),
     .op (some 45) (.fadr (.t 3) 1),
     .op (some 46) (.load1 (.t 45)),
     .op (some 47) (.lenS (.t 46)),
     .op (some 48) (.bin .sub (.t 47) (.k (.int .i64 1))),
     .op (some 49) (.bslice 1 [.t 48]),
     .op (some 50) (.app 1 8 [.int .i64 0] (.t 44) (.t 49)),
     .op (some 4) (.mov (.t 50))])
   (.keep [0, 2, 3, 4, 5, 6, 7] (.seq (.seq (.ops [.op (some 51) (.mov (.t 7)),
     .op (some 52) (.bin .eql (.t 51) (.k (.int .i64 0)))])
    (.keep [0, 2, 3, 4, 5, 6, 7, 52] (.cond (.t 52)
    (.exit 0)
    (.skip))))
   (.keep [0, 2, 3, 4, 5, 6, 7] (.seq (.ops [.op (some 53) (.mov (.t 5)),
     .op (some 54) (.mov (.t 0)),
     .op (some 55) (.mov (.t 6)),
     .op (some 56) (.iadr 1 (.t 54) (.t 55)),
     .op (some 57) (.load1 (.t 56)),
     .op (some 58) (.bslice 1 [.t 57]),
     .op (some 59) (.app 1 16 [.str []] (.t 53) (.t 58)),
     .op (some 5) (.mov (.t 59))])
   (.keep [0, 2, 3, 4, 5, 6, 7] (.ops [.op (some 60) (.mov (.t 6)),
    .op (some 61) (.mov (.t 7)),
    .op (some 62) (.bin .add (.t 60) (.t 61)),
    .op (some 6) (.mov (.t 62))]))))))))))))))))))
 (.keep [2, 3, 4, 5] (.seq (.block 2 (.loop (.seq (.seq (.ops [.op (some 63) (.mov (.t 4)),
     .op (some 64) (.lenS (.t 63)),
     .op (some 65) (.bin .gtr (.t 64) (.k (.int .i64 1)))])
   (.keep [2, 3, 4, 5, 65] (.cond (.t 65)
    (.skip)
    (.exit 2))))
   (.keep [2, 3, 4, 5] (.block 3 (.seq (.ops [.op (some 66) (.bslice 1 []),
     .op (some 8) (.mov (.t 66))])
   (.keep [2, 3, 4, 5, 8] (.seq (.ops [.op (some 67) (.bslice 1 []),
     .op (some 9) (.mov (.t 67))])
   (.keep [2, 3, 4, 5, 8, 9] (.seq (.seq (.ops [.op (some 10) (.mov (.k (.int .i64 0)))])
    (.keep [2, 3, 4, 5, 8, 9, 10] (.block 4 (.loop (.seq (.seq (.ops [.op (some 68) (.mov (.t 10)),
       .op (some 69) (.mov (.t 4)),
       .op (some 70) (.lenS (.t 69)),
       .op (some 71) (.bin .lss (.t 68) (.t 70))])
     (.keep [2, 3, 4, 5, 8, 9, 10, 71] (.cond (.t 71)
      (.skip)
      (.exit 4))))
     (.keep [2, 3, 4, 5, 8, 9, 10] (.block 5 (.seq (.ops [.op (some 72) (.mov (.t 4)),
       .op (some 73) (.lenS (.t 72)),
       .op (some 74) (.mov (.t 10)),
       .op (some 75) (.bin .sub (.t 73) (.t 74)),
       .call (some 76) 30 [.t 75, .k (.int .i64 5)],
       .op (some 11) (.mov (.t 76))])
     (.keep [2, 3, 4, 5, 8, 9, 10, 11] (.seq (.drawE [[], [0], [], [], [], [4], [], [], [6, 7], [3, 4, 5, 6, 7, 8], [2, 3, 4, 5, 6, 7, 8, 9], [], [], [], [], [], [14, 15], [12, 13, 14, 15, 16], [2, 3, 4, 5, 6, 7, 8, 9, 10, 11, 12, 13, 14, 15, 16, 17], [2, 3, 4, 5, 6, 7, 8, 9, 10, 11, 12, 13, 14, 15, 16, 17, 18], [2, 3, 4, 5, 6, 7, 8, 9, 10, 11, 12, 13, 14, 15, 16, 17, 18, 19], [0, 1, 2, 3, 4, 5, 6, 7, 8, 9, 10, 11, 12, 13, 14, 15, 16, 17, 18, 19, 20], [0, 1, 2, 3, 4, 5, 6, 7, 8, 9, 10, 11, 12, 13, 14, 15, 16, 17, 18, 19, 20, 21], [0, 1, 2, 3, 4, 5, 6, 7, 8, 9, 10, 11, 12, 13, 14, 15, 16, 17, 18, 19, 20, 21, 22]] [.op (some 77) (.fadr (.t 3) 1),
       .op (some 78) (.load1 (.t 77)),
       .op (some 79) (.bslice 1 []),
       .op (some 80) (.mov (.t 5)),
       .op (some 81) (.mov (.t 10)),
       .op (some 82) (.bin .add (.t 81) (.k (.int .i64 1))),
       .op (some 83) (.mov (.t 10)),
       .op (some 84) (.mov (.t 11)),
       .op (some 85) (.bin .add (.t 83) (.t 84)),
       .op (some 86) (.slc 1 (.t 80) (some (.t 82)) (some (.t 85)) none),
       .op (some 87) (.app 1 16 [.str []] (.t 79) (.t 86)),
       .op (some 88) (.bslice 1 []),
       .op (some 89) (.mov (.t 4)),
       .op (some 90) (.mov (.t 10)),
       .op (some 91) (.mov (.t 10)),
       .op (some 92) (.mov (.t 11)),
       .op (some 93) (.bin .add (.t 91) (.t 92)),
       .op (some 94) (.slc 1 (.t 89) (some (.t 90)) (some (.t 93)) none),
       .op (some 95) (.app 1 8 [.int .i64 0] (.t 88) (.t 94)),
       .op (some 96) (.build [.bool false, .nils 1, .nils 1] [(1, 1, .t 87), (2, 1, .t 95)]),
       .op (some 97) (.bslice 3 [.t 96])]
      [.op (some 98) (.app 3 56 [.bool false, .nils 1, .nils 1] (.t 78) (.t 97)),
       .op (some 99) (.fadr (.t 3) 1),
       .op none (.store 1 (.t 99) (.t 98))])
     (.keep [2, 3, 4, 5, 8, 9, 10, 11] (.seq (.ops [.op (some 100) (.mov (.t 8)),
       .op (some 101) (.fadr (.t 3) 1),
       .op (some 102) (.load1 (.t 101)),
       .op (some 103) (.lenS (.t 102)),
       .op (some 104) (.bin .sub (.t 103) (.k (.int .i64 1))),
       .op (some 105) (.bslice 1 [.t 104]),
       .op (some 106) (.app 1 8 [.int .i64 0] (.t 100) (.t 105)),
       .op (some 8) (.mov (.t 106))])
     (.keep [2, 3, 4, 5, 8, 9, 10, 11] (.seq (.ops [.op (some 107) (.mov (.t 9)),
       .op (some 108) (.mov (.t 5)),
       .op (some 109) (.mov (.t 10)),
       .op (some 110) (.iadr 1 (.t 108) (.t 109)),
       .op (some 111) (.load1 (.t 110)),
       .op (some 112) (.bslice 1 [.t 111]),
       .op (some 113) (.app 1 16 [.str []] (.t 107) (.t 112)),
       .op (some 9) (.mov (.t 113))])
     (.keep [2, 3, 4, 5, 8, 9, 10, 11] (.ops [.op (some 114) (.mov (.t 10)),
      .op (some 115) (.mov (.t 11)),
      .op (some 116) (.bin .add (.t 114) (.t 115)),
      .op (some 10) (.mov (.t 116))]))))))))))))))))
   (.keep [2, 3, 8, 9] (.seq (.ops [.op (some 117) (.mov (.t 8)),
     .op (some 4) (.mov (.t 117))])
   (.keep [2, 3, 4, 9] (.ops [.op (some 118) (.mov (.t 9)),
    .op (some 5) (.mov (.t 118))]))))))))))))))
 (.keep [2, 3, 4] (.seq (.ops [.op (some 119) (.mov (.t 4)),
   .op (some 120) (.iadr 1 (.t 119) (.k (.int .i64 0))),
   .op (some 121) (.load1 (.t 120)),
   .op (some 122) (.fadr (.t 3) 0),
   .op none (.store 1 (.t 122) (.t 121))])
 (.keep [2, 3] (.seq (.ops [.op (some 123) (.loadN 2 (.t 3)),
   .op none (.store 2 (.t 2) (.t 123))])
 (.keep [2] (.ret))))))))))))))))
theorem k_c_l09Build_fits : fitsF Try.prog 17 ⟨124, k_c_l09Build, [.cN 2 2]⟩ = true := by kernel_rfl
set_option maxHeartbeats 4000000 in
theorem c_l09Build {ks : List Str} (hl : ks.length ≤ 61) (h0k : 0 < ks.length) : Con Try.prog noMv 17 [.d (.sl 1 (ks.map strRow))] [] (fun r h => r = .agg [.d (.int .i64 (treeT ks).root), .d (.sl 3 ((treeT ks).nodes.map TN.row))] ∧ h = []) := by
 refine con_of2 k_c_l09Build_fits rfl fun C hP hmv => ?_
 unfold k_c_l09Build
 have K := look_tree ([] : Str) (ks := ks) (by omega)
 obtain ⟨nsF, lvF_, leF, hL, hT⟩ := tree_start h0k K.tr
 generalize treeT ks = T at hT ⊢
 refine cx_seq (cx_ops ?_)
 refine ax_e (e_alloc (by decide) rfl rfl) ?_
 refine ax_nil (cx_keep rfl rfl (cx_seq (cx_ops ?_)))
 refine ax_e (e_bslice rfl (by decide) rfl rfl) ?_
 refine ax_q (q_build rfl) ?_
 refine ax_e (e_alloc (by decide) rfl rfl) ?_
 refine ax_e (e_st rfl rfl rfl rfl rfl rfl rfl) ?_
 refine ax_nil (cx_keep rfl rfl (cx_seq (cx_ops ?_)))
 refine ax_e (e_bslice rfl (by decide) rfl rfl) ?_
 refine ax_q (q_mov rfl) ?_
 refine ax_nil (cx_keep rfl rfl (cx_seq (cx_ops ?_)))
 refine ax_e (e_bslice rfl (by decide) rfl rfl) ?_
 refine ax_q (q_mov rfl) ?_
 refine ax_nil (cx_keep rfl rfl (cx_seq (cx_seq (cx_ops ?_))))
 refine ax_q (q_mov rfl) ?_
 refine ax_nil (cx_keep rfl rfl (cx_block ?_))
 refine cx_loopU (fun m (p : Nat × List GNode × List Nat × List Str) => p.1 ≤ ks.length ∧ lvF m (ks.drop p.1) p.2.1 p.2.2.1 p.2.2.2 = some (nsF, lvF_, leF)) (fun p => [(6, int p.1), (4, .osl 14 1 0 p.2.2.1.length), (5, .osl 15 1 0 p.2.2.2.length)]) (fun p => [(2, .box [.d (.int .i64 0), .zs 3]), (3, .box [.d (.int .i64 0), .osl 12 3 0 p.2.1.length]), (12, .rows 3 (p.2.1.map TN.row)), (14, .rows 1 (p.2.2.1.map kidRow)), (15, .rows 1 (p.2.2.2.map strRow))])
  ⟨_, (0, [], [], []), ⟨Nat.zero_le _, hL⟩, by repeat constructor⟩ ?_
 rintro m ⟨i, ns, lv, le⟩ ⟨hi, hs⟩
 simp only at hi hs ⊢
 have hdl : (ks.drop i).length = ks.length - i := List.length_drop
 refine cx_seq (cx_seq (cx_ops ?_))
 refine ax_q (q_mov rfl) ?_
 refine ax_q (q_mov rfl) ?_
 refine ax_q (q_lenS_map rfl) ?_
 refine ax_q (q_ibin rfl rfl rfl) ?_
 refine ax_q (q_mov rfl) ?_
 apply ax_or rfl rfl
 ·
  intro g
  have g := dF g
  refine ax_q (q_mov rfl) ?_
  refine ax_q (q_ibin rfl rfl rfl) ?_
  exact ax_nil ⟨rfl, by repeat constructor⟩
 refine ax_nil (cx_keep rfl rfl ?_)
 refine cx_cond rfl (fun h0 => ?_) (fun h0 => ?_)
 ·
  have h1x : i < ks.length := by
   rw [Bool.or_eq_true] at h0
   rcases h0 with h | h
   ·
    have := of_decide_eq_true h; omega
   ·
    have := of_decide_eq_true h; omega
  obtain ⟨g, c, rfl, hc, s1, s2, s3, s4, s5, hs2⟩ := lv_step (by omega) hs
  rw [List.drop_drop, getD_drop0] at hs2
  rw [hdl] at hc s5
  refine cx_skip ?_
  refine cx_keep rfl rfl (cx_block (cx_seq (cx_ops ?_)))
  refine ax_q (q_mov rfl) ?_
  refine ax_q (q_lenS_map rfl) ?_
  refine ax_q (q_mov rfl) ?_
  refine ax_qe (r' := int ((ks.length - i : Nat) : Int)) (q_ibin rfl rfl rfl) (by rw [wi (by omega) (by omega)]; exact congrArg AM.int (by omega)) ?_
  refine ax_call rfl (vc_pure0 (c_l09Part (a := ks.length - i) (b := 4) ?_ ?_) hP rfl rfl ?_)
  ·
   first | assumption | omega
  ·
   first | assumption | omega
  rw [← hc]
  refine ax_q (q_mov rfl) ?_
  refine ax_nil (cx_keep rfl rfl (cx_seq ?_))
  refine cx_drawL 0 29 (fun _ => false) (fun _ => true) [] ([]) [[3], [29], [], [0], [6], [6], [7], [34, 35], [32, 33, 36], [31, 37], [], [38, 39], [40]] [[], [], [], [], [], [], [], [], [], [], [], [], []] rfl ?_
  first | refine ⟨⟨29, _, []⟩, .inl ⟨rfl, rfl, rfl, locl_of (loc_q (q_fadr_ptr rfl))⟩, ?_⟩
  first | refine ⟨_, .inr ⟨rfl, _, rfl, .inr ⟨rfl, rfl, .inl rfl, rfl, rfl⟩, loc_q (q_load1_ptr rfl rfl rfl)⟩, ?_⟩
  first | refine ⟨_, .inr ⟨rfl, _, rfl, .inr ⟨rfl, rfl, .inr rfl, rfl, rfl⟩, loc_bsliceZ⟩, ?_⟩
  first | refine ⟨_, .inr ⟨rfl, _, rfl, .inr ⟨rfl, rfl, .inr rfl, rfl, rfl⟩, loc_q (q_mov rfl)⟩, ?_⟩
  first | refine ⟨_, .inr ⟨rfl, _, rfl, .inr ⟨rfl, rfl, .inr rfl, rfl, rfl⟩, loc_q (q_mov rfl)⟩, ?_⟩
  first | refine ⟨_, .inr ⟨rfl, _, rfl, .inr ⟨rfl, rfl, .inr rfl, rfl, rfl⟩, loc_q (q_mov rfl)⟩, ?_⟩
  first | refine ⟨_, .inr ⟨rfl, _, rfl, .inr ⟨rfl, rfl, .inr rfl, rfl, rfl⟩, loc_q (q_mov rfl)⟩, ?_⟩
  first | refine ⟨_, .inr ⟨rfl, _, rfl, .inr ⟨rfl, rfl, .inr rfl, rfl, rfl⟩, loc_qe (r' := int ((i + c : Nat) : Int)) (q_ibin rfl rfl rfl) (by rw [wi (by omega) (by omega)]; rfl)⟩, ?_⟩
  first | refine ⟨_, .inr ⟨rfl, _, rfl, .inr ⟨rfl, rfl, .inr rfl, rfl, rfl⟩, loc_qe (r' := .d (.sl 1 (((ks.drop i).take c).map strRow))) (q_slc rfl rfl rfl (by omega) (by omega) (by simp; omega)) (slR_mid (by omega) (by omega))⟩, ?_⟩
  first | refine ⟨_, .inr ⟨rfl, _, rfl, .inr ⟨rfl, rfl, .inr rfl, rfl, rfl⟩, loc_appZD (rs := ((ks.drop i).take c).map strRow) rfl rfl (fun _ _ h => src_sl 1 _) (bnd0 (by simp; omega) (by decide)) rfl⟩, ?_⟩
  first | refine ⟨_, .inr ⟨rfl, _, rfl, .inr ⟨rfl, rfl, .inr rfl, rfl, rfl⟩, loc_bsliceZ⟩, ?_⟩
  first | refine ⟨_, .inr ⟨rfl, _, rfl, .inr ⟨rfl, rfl, .inr rfl, rfl, rfl⟩, loc_q (q_build rfl)⟩, ?_⟩
  first | refine ⟨_, .inr ⟨rfl, _, rfl, .inr ⟨rfl, rfl, .inr rfl, rfl, rfl⟩, loc_bsliceD (rows := [TN.row (⟨true, ((ks.drop i).take c), []⟩ : GNode)]) rfl⟩, ?_⟩
  refine ⟨rfl, ?_⟩
  refine ax_e (e_appn (n' := (ns ++ [(⟨true, ((ks.drop i).take c), []⟩ : GNode)]).length) (rs' := (ns ++ [(⟨true, ((ks.drop i).take c), []⟩ : GNode)]).map TN.row) rfl rfl (by simp) rfl (src_sl 3 _) (.inl (by decide)) (hbnd (by omega) (by simp) (by decide)) (by simp) (app_all (ys := [(⟨true, ((ks.drop i).take c), []⟩ : GNode)]) (row := TN.row))) ?_
  refine ax_q (q_fadr_ptr rfl) ?_
  refine ax_e (e_st rfl rfl rfl rfl rfl rfl rfl) ?_
  refine ax_nil (cx_keep rfl rfl (cx_seq (cx_ops ?_)))
  refine ax_q (q_mov rfl) ?_
  refine ax_q (q_fadr_ptr rfl) ?_
  refine ax_q (q_load1_ptr rfl rfl rfl) ?_
  first | refine ax_q (q_lenS_map rfl) ?_ | refine ax_q (q_lenS_osl rfl) ?_
  refine ax_qe (r' := int (ns.length : Nat)) (q_ibin rfl rfl rfl) (by rw [List.length_append, List.length_singleton, wi (by omega) (by omega)]; exact congrArg AM.int (by omega)) ?_
  refine ax_e (e_bsliceD (rows := [kidRow ns.length]) rfl) ?_
  refine ax_e (e_appn (n' := (lv ++ [ns.length]).length) (rs' := (lv ++ [ns.length]).map kidRow) rfl rfl (by simp) rfl (src_sl 1 _) (.inl (by decide)) (hbnd (by omega) (by simp) (by decide)) (by simp) (app_all (ys := [ns.length]) (row := kidRow))) ?_
  refine ax_q (q_mov rfl) ?_
  refine ax_nil (cx_keep rfl rfl (cx_seq (cx_seq (cx_ops ?_))))
  refine ax_q (q_mov rfl) ?_
  refine ax_q (q_ibin rfl rfl rfl) ?_
  refine ax_nil (cx_keep rfl rfl ?_)
  refine cx_cond rfl (fun h1 => ?_) (fun h1 => ?_)
  ·
   have h1 := dT h1
   exfalso; omega
  ·
   have h1 := dF h1
   refine cx_skip ?_
   refine cx_keep rfl rfl (cx_seq (cx_ops ?_))
   refine ax_q (q_mov rfl) ?_
   refine ax_q (q_mov rfl) ?_
   refine ax_q (q_mov rfl) ?_
   refine ax_q (q_ix (row := strRow (ks.getD i [])) rfl rfl (strD h1x)) ?_
   first | refine ax_q (q_load1_ptr rfl rfl rfl) ?_ | refine ax_q (q_load1_ip rfl) ?_
   refine ax_e (e_bsliceD (rows := [strRow (ks.getD i [])]) rfl) ?_
   refine ax_e (e_appn (n' := (le ++ [ks.getD i []]).length) (rs' := (le ++ [ks.getD i []]).map strRow) rfl rfl (by simp) rfl (src_sl 1 _) (.inl (by decide)) (hbnd (by omega) (by simp) (by decide)) (by simp) (app_all (ys := [ks.getD i []]) (row := strRow))) ?_
   refine ax_q (q_mov rfl) ?_
   refine ax_nil (cx_keep rfl rfl (cx_ops ?_))
   refine ax_q (q_mov rfl) ?_
   refine ax_q (q_mov rfl) ?_
   refine ax_qe (r' := int ((i + c : Nat) : Int)) (q_ibin rfl rfl rfl) (by rw [wi (by omega) (by omega)]; rfl) ?_
   refine ax_q (q_mov rfl) ?_
   refine ax_nil ?_
   exact ⟨_, (i + c, ns ++ [(⟨true, ((ks.drop i).take c), []⟩ : GNode)], lv ++ [ns.length], le ++ [ks.getD i []]), Nat.lt_succ_self _, ⟨by simp only; omega, hs2⟩, by repeat constructor⟩
 ·
  have h1x : ¬ i < ks.length := by
   rw [Bool.or_eq_false_iff] at h0
   have := of_decide_eq_false h0.1; omega
  have hs3 := lv_end (by omega) hs
  rw [Prod.mk.injEq, Prod.mk.injEq] at hs3
  obtain ⟨rfl, rfl, rfl⟩ := hs3
  refine cx_exit rfl ?_
  refine cx_keep rfl rfl (cx_seq (cx_block ?_))
  refine cx_wk (wk_frz 4 14 rfl rfl (.whole (by simp)) rfl) ?_
  refine cx_wk (wk_frz 5 15 rfl rfl (.whole (by simp)) rfl) ?_
  refine cx_loopU (fun m (p : List GNode × List Nat × List Str) => topF m p.1 p.2.1 p.2.2 = some T) (fun p => [(4, .d (.sl 1 (p.2.1.map kidRow))), (5, .d (.sl 1 (p.2.2.map strRow)))]) (fun p => [(2, .box [.d (.int .i64 0), .zs 3]), (3, .box [.d (.int .i64 0), .osl 12 3 0 p.1.length]), (12, .rows 3 (p.1.map TN.row))])
   ⟨_, (nsF, lvF_, leF), hT, by repeat constructor⟩ ?_
  rintro m ⟨ns, lv, le⟩ hs
  simp only at hs ⊢
  refine cx_seq (cx_seq (cx_ops ?_))
  refine ax_q (q_mov rfl) ?_
  refine ax_q (q_lenS_map rfl) ?_
  refine ax_q (q_ibin rfl rfl rfl) ?_
  refine ax_nil (cx_keep rfl rfl ?_)
  refine cx_cond rfl (fun h2 => ?_) (fun h2 => ?_)
  ·
   have h2 := dT h2
   obtain ⟨g, nsU, abU, alU, rfl, s1, s2, hU, hs3⟩ := top_step (by omega) hs
   refine cx_skip ?_
   refine cx_keep rfl rfl (cx_block (cx_seq (cx_ops ?_)))
   refine ax_e (e_bslice rfl (by decide) rfl rfl) ?_
   refine ax_q (q_mov rfl) ?_
   refine ax_nil (cx_keep rfl rfl (cx_seq (cx_ops ?_)))
   refine ax_e (e_bslice rfl (by decide) rfl rfl) ?_
   refine ax_q (q_mov rfl) ?_
   refine ax_nil (cx_keep rfl rfl (cx_seq (cx_seq (cx_ops ?_))))
   refine ax_q (q_mov rfl) ?_
   refine ax_nil (cx_keep rfl rfl (cx_block ?_))
   refine cx_loopU (fun m (p : Nat × List GNode × List Nat × List Str) => p.1 ≤ lv.length ∧ upF m (lv.drop p.1) (le.drop p.1) p.2.1 p.2.2.1 p.2.2.2 = some (nsU, abU, alU)) (fun p => [(10, int p.1), (8, .osl 66 1 0 p.2.2.1.length), (9, .osl 67 1 0 p.2.2.2.length)]) (fun p => [(2, .box [.d (.int .i64 0), .zs 3]), (3, .box [.d (.int .i64 0), .osl 12 3 0 p.2.1.length]), (12, .rows 3 (p.2.1.map TN.row)), (66, .rows 1 (p.2.2.1.map kidRow)), (67, .rows 1 (p.2.2.2.map strRow))])
    ⟨_, (0, ns, [], []), ⟨Nat.zero_le _, hU⟩, by repeat constructor⟩ ?_
   rintro m ⟨i, ns, ab, al⟩ ⟨hi, hs⟩
   simp only at hi hs ⊢
   have hdl : (lv.drop i).length = lv.length - i := List.length_drop
   have hdl2 : (le.drop i).length = le.length - i := List.length_drop
   refine cx_seq (cx_seq (cx_ops ?_))
   refine ax_q (q_mov rfl) ?_
   refine ax_q (q_mov rfl) ?_
   refine ax_q (q_lenS_map rfl) ?_
   refine ax_q (q_ibin rfl rfl rfl) ?_
   refine ax_nil (cx_keep rfl rfl ?_)
   refine cx_cond rfl (fun h3 => ?_) (fun h3 => ?_)
   ·
    have h3 := dT h3
    obtain ⟨g2, c, rfl, hc, u1, u2, u3, u4, u5, u6, hu2⟩ := up_step (by omega) hs
    rw [List.drop_drop, List.drop_drop, List.drop_drop, getD_drop0] at hu2
    rw [hdl] at hc u6
    refine cx_skip ?_
    refine cx_keep rfl rfl (cx_block (cx_seq (cx_ops ?_)))
    refine ax_q (q_mov rfl) ?_
    refine ax_q (q_lenS_map rfl) ?_
    refine ax_q (q_mov rfl) ?_
    refine ax_qe (r' := int ((lv.length - i : Nat) : Int)) (q_ibin rfl rfl rfl) (by rw [wi (by omega) (by omega)]; exact congrArg AM.int (by omega)) ?_
    refine ax_call rfl (vc_pure0 (c_l09Part (a := lv.length - i) (b := 5) ?_ ?_) hP rfl rfl ?_)
    ·
     first | assumption | omega
    ·
     first | assumption | omega
    rw [← hc]
    refine ax_q (q_mov rfl) ?_
    refine ax_nil (cx_keep rfl rfl (cx_seq ?_))
    refine cx_drawL 0 77 (fun _ => false) (fun _ => true) [] ([]) [[3], [77], [], [5], [10], [81], [10], [11], [83, 84], [80, 82, 85], [79, 86], [], [4], [10], [10], [11], [91, 92], [89, 90, 93], [88, 94], [87, 95], [96]] [[], [], [], [], [], [], [], [], [], [], [], [], [], [], [], [], [], [], [], [], []] rfl ?_
    first | refine ⟨⟨77, _, []⟩, .inl ⟨rfl, rfl, rfl, locl_of (loc_q (q_fadr_ptr rfl))⟩, ?_⟩
    first | refine ⟨_, .inr ⟨rfl, _, rfl, .inr ⟨rfl, rfl, .inl rfl, rfl, rfl⟩, loc_q (q_load1_ptr rfl rfl rfl)⟩, ?_⟩
    first | refine ⟨_, .inr ⟨rfl, _, rfl, .inr ⟨rfl, rfl, .inr rfl, rfl, rfl⟩, loc_bsliceZ⟩, ?_⟩
    first | refine ⟨_, .inr ⟨rfl, _, rfl, .inr ⟨rfl, rfl, .inr rfl, rfl, rfl⟩, loc_q (q_mov rfl)⟩, ?_⟩
    first | refine ⟨_, .inr ⟨rfl, _, rfl, .inr ⟨rfl, rfl, .inr rfl, rfl, rfl⟩, loc_q (q_mov rfl)⟩, ?_⟩
    first | refine ⟨_, .inr ⟨rfl, _, rfl, .inr ⟨rfl, rfl, .inr rfl, rfl, rfl⟩, loc_qe (r' := int ((i + 1 : Nat) : Int)) (q_ibin rfl rfl rfl) (by rw [wi (by omega) (by omega)]; rfl)⟩, ?_⟩
    first | refine ⟨_, .inr ⟨rfl, _, rfl, .inr ⟨rfl, rfl, .inr rfl, rfl, rfl⟩, loc_q (q_mov rfl)⟩, ?_⟩
    first | refine ⟨_, .inr ⟨rfl, _, rfl, .inr ⟨rfl, rfl, .inr rfl, rfl, rfl⟩, loc_q (q_mov rfl)⟩, ?_⟩
    first | refine ⟨_, .inr ⟨rfl, _, rfl, .inr ⟨rfl, rfl, .inr rfl, rfl, rfl⟩, loc_qe (r' := int ((i + c : Nat) : Int)) (q_ibin rfl rfl rfl) (by rw [wi (by omega) (by omega)]; rfl)⟩, ?_⟩
    first | refine ⟨_, .inr ⟨rfl, _, rfl, .inr ⟨rfl, rfl, .inr rfl, rfl, rfl⟩, loc_qe (r' := .d (.sl 1 (((le.drop (i + 1)).take (c - 1)).map strRow))) (q_slc rfl rfl rfl (by omega) (by omega) (by simp; omega)) (slR_mid (by omega) (by omega))⟩, ?_⟩
    first | refine ⟨_, .inr ⟨rfl, _, rfl, .inr ⟨rfl, rfl, .inr rfl, rfl, rfl⟩, loc_appZD (rs := ((le.drop (i + 1)).take (c - 1)).map strRow) rfl rfl (fun _ _ h => src_sl 1 _) (bnd0 (by simp; omega) (by decide)) rfl⟩, ?_⟩
    first | refine ⟨_, .inr ⟨rfl, _, rfl, .inr ⟨rfl, rfl, .inr rfl, rfl, rfl⟩, loc_bsliceZ⟩, ?_⟩
    first | refine ⟨_, .inr ⟨rfl, _, rfl, .inr ⟨rfl, rfl, .inr rfl, rfl, rfl⟩, loc_q (q_mov rfl)⟩, ?_⟩
    first | refine ⟨_, .inr ⟨rfl, _, rfl, .inr ⟨rfl, rfl, .inr rfl, rfl, rfl⟩, loc_q (q_mov rfl)⟩, ?_⟩
    first | refine ⟨_, .inr ⟨rfl, _, rfl, .inr ⟨rfl, rfl, .inr rfl, rfl, rfl⟩, loc_q (q_mov rfl)⟩, ?_⟩
    first | refine ⟨_, .inr ⟨rfl, _, rfl, .inr ⟨rfl, rfl, .inr rfl, rfl, rfl⟩, loc_q (q_mov rfl)⟩, ?_⟩
    first | refine ⟨_, .inr ⟨rfl, _, rfl, .inr ⟨rfl, rfl, .inr rfl, rfl, rfl⟩, loc_qe (r' := int ((i + c : Nat) : Int)) (q_ibin rfl rfl rfl) (by rw [wi (by omega) (by omega)]; rfl)⟩, ?_⟩
    first | refine ⟨_, .inr ⟨rfl, _, rfl, .inr ⟨rfl, rfl, .inr rfl, rfl, rfl⟩, loc_qe (r' := .d (.sl 1 (((lv.drop i).take c).map kidRow))) (q_slc rfl rfl rfl (by omega) (by omega) (by simp; omega)) (slR_mid (by omega) (by omega))⟩, ?_⟩
    first | refine ⟨_, .inr ⟨rfl, _, rfl, .inr ⟨rfl, rfl, .inr rfl, rfl, rfl⟩, loc_appZD (rs := ((lv.drop i).take c).map kidRow) rfl rfl (fun _ _ h => src_sl 1 _) (bnd0 (by simp; omega) (by decide)) rfl⟩, ?_⟩
    first | refine ⟨_, .inr ⟨rfl, _, rfl, .inr ⟨rfl, rfl, .inr rfl, rfl, rfl⟩, loc_q (q_build rfl)⟩, ?_⟩
    first | refine ⟨_, .inr ⟨rfl, _, rfl, .inr ⟨rfl, rfl, .inr rfl, rfl, rfl⟩, loc_bsliceD (rows := [TN.row (⟨false, ((le.drop (i + 1)).take (c - 1)), ((lv.drop i).take c)⟩ : GNode)]) rfl⟩, ?_⟩
    refine ⟨rfl, ?_⟩
    refine ax_e (e_appn (n' := (ns ++ [(⟨false, ((le.drop (i + 1)).take (c - 1)), ((lv.drop i).take c)⟩ : GNode)]).length) (rs' := (ns ++ [(⟨false, ((le.drop (i + 1)).take (c - 1)), ((lv.drop i).take c)⟩ : GNode)]).map TN.row) rfl rfl (by simp) rfl (src_sl 3 _) (.inl (by decide)) (hbnd (by omega) (by simp) (by decide)) (by simp) (app_all (ys := [(⟨false, ((le.drop (i + 1)).take (c - 1)), ((lv.drop i).take c)⟩ : GNode)]) (row := TN.row))) ?_
    refine ax_q (q_fadr_ptr rfl) ?_
    refine ax_e (e_st rfl rfl rfl rfl rfl rfl rfl) ?_
    refine ax_nil (cx_keep rfl rfl (cx_seq (cx_ops ?_)))
    refine ax_q (q_mov rfl) ?_
    refine ax_q (q_fadr_ptr rfl) ?_
    refine ax_q (q_load1_ptr rfl rfl rfl) ?_
    first | refine ax_q (q_lenS_map rfl) ?_ | refine ax_q (q_lenS_osl rfl) ?_
    refine ax_qe (r' := int (ns.length : Nat)) (q_ibin rfl rfl rfl) (by rw [List.length_append, List.length_singleton, wi (by omega) (by omega)]; exact congrArg AM.int (by omega)) ?_
    refine ax_e (e_bsliceD (rows := [kidRow ns.length]) rfl) ?_
    refine ax_e (e_appn (n' := (ab ++ [ns.length]).length) (rs' := (ab ++ [ns.length]).map kidRow) rfl rfl (by simp) rfl (src_sl 1 _) (.inl (by decide)) (hbnd (by omega) (by simp) (by decide)) (by simp) (app_all (ys := [ns.length]) (row := kidRow))) ?_
    refine ax_q (q_mov rfl) ?_
    refine ax_nil (cx_keep rfl rfl (cx_seq (cx_ops ?_)))
    refine ax_q (q_mov rfl) ?_
    refine ax_q (q_mov rfl) ?_
    refine ax_q (q_mov rfl) ?_
    refine ax_q (q_ix (row := strRow (le.getD i [])) rfl rfl (strD (by omega))) ?_
    first | refine ax_q (q_load1_ptr rfl rfl rfl) ?_ | refine ax_q (q_load1_ip rfl) ?_
    refine ax_e (e_bsliceD (rows := [strRow (le.getD i [])]) rfl) ?_
    refine ax_e (e_appn (n' := (al ++ [le.getD i []]).length) (rs' := (al ++ [le.getD i []]).map strRow) rfl rfl (by simp) rfl (src_sl 1 _) (.inl (by decide)) (hbnd (by omega) (by simp) (by decide)) (by simp) (app_all (ys := [le.getD i []]) (row := strRow))) ?_
    refine ax_q (q_mov rfl) ?_
    refine ax_nil (cx_keep rfl rfl (cx_ops ?_))
    refine ax_q (q_mov rfl) ?_
    refine ax_q (q_mov rfl) ?_
    refine ax_qe (r' := int ((i + c : Nat) : Int)) (q_ibin rfl rfl rfl) (by rw [wi (by omega) (by omega)]; rfl) ?_
    refine ax_q (q_mov rfl) ?_
    refine ax_nil ?_
    exact ⟨_, (i + c, ns ++ [(⟨false, ((le.drop (i + 1)).take (c - 1)), ((lv.drop i).take c)⟩ : GNode)], ab ++ [ns.length], al ++ [le.getD i []]), Nat.lt_succ_self _, ⟨by simp only; omega, hu2⟩, by repeat constructor⟩
   ·
    have h3 := dF h3
    have hs4 := up_end (by omega) hs
    rw [Prod.mk.injEq, Prod.mk.injEq] at hs4
    obtain ⟨rfl, rfl, rfl⟩ := hs4
    refine cx_exit rfl ?_
    refine cx_keep rfl rfl (cx_seq (cx_ops ?_))
    refine ax_wk (wk_frz 8 66 rfl rfl (.whole (by simp)) rfl) ?_
    refine ax_wk (wk_frz 9 67 rfl rfl (.whole (by simp)) rfl) ?_
    refine ax_q (q_mov rfl) ?_
    refine ax_q (q_mov rfl) ?_
    refine ax_nil (cx_keep rfl rfl (cx_ops ?_))
    refine ax_q (q_mov rfl) ?_
    refine ax_q (q_mov rfl) ?_
    refine ax_nil ?_
    exact ⟨_, (nsU, abU, alU), Nat.lt_succ_self _, hs3, by repeat constructor⟩
  ·
   have h2 := dF h2
   obtain ⟨s1, s2, rfl⟩ := top_end (by omega) hs
   refine cx_exit rfl ?_
   refine cx_keep rfl rfl (cx_seq (cx_ops ?_))
   refine ax_q (q_mov rfl) ?_
   refine ax_q (q_ixI rfl rfl (by omega) (kidD (by omega))) ?_
   first | refine ax_q (q_load1_ptr rfl rfl rfl) ?_ | refine ax_q (q_load1_ip rfl) ?_
   refine ax_q (q_fadr_ptr rfl) ?_
   refine ax_e (e_st rfl rfl rfl rfl rfl rfl rfl) ?_
   refine ax_nil (cx_keep rfl rfl (cx_seq (cx_ops ?_)))
   refine ax_q (q_ldN rfl rfl rfl) ?_
   refine ax_wk (wk_frz 123 12 rfl rfl (.agg (.cons (.same rfl) (.cons (.whole (by simp)) .nil))) rfl) ?_
   refine ax_e (e_st rfl rfl rfl rfl rfl rfl rfl) ?_
   refine ax_nil (cx_keep rfl rfl ?_)
   refine cx_ret (ret0 rfl rfl ?_)
   exact ⟨rfl, rfl⟩


theorem c_l09BuildA {ks : List Str} (hl : ks.length ≤ 61) : Con Try.prog noMv 17 [.d (.sl 1 (ks.map strRow))] [] (fun r h => r = .agg [.d (.int .i64 (treeT ks).root), .d (.sl 3 ((treeT ks).nodes.map TN.row))] ∧ h = []) := by
 rcases Nat.eq_zero_or_pos ks.length with h | h
 ·
  obtain rfl := List.eq_nil_of_length_eq_zero h
  exact c_l09Build0
 ·
  exact c_l09Build hl h
/- loop.example/g00332/spec.TreeDelete -/
def k_c_sTreeDelete : XCode :=
 .seq (.ops [.op (some 2) (.box (.t 0)),
   .op (some 4) (.alloc [.int .i64 0, .nils 3]),
   .op (some 5) (.mov (.k (.int .i64 0)))])
 (.keep [1, 2, 4] (.seq (.seq (.ops [.op (some 9) (.mov (.t 1)),
   .op (some 10) (.lenT (.t 9)),
   .op (some 11) (.bin .gtr (.t 10) (.k (.int .i64 65536)))])
  (.keep [1, 2, 4, 11] (.cond (.t 11)
  (.seq (.ops [.op (some 12) (.build [.int .i64 0, .nils 3] []),
    .op none (.store 2 (.t 4) (.t 12)),
    .op (some 5) (.mov (.k (.int .i64 2)))])
   (.keep [4, 5] (.ret)))
  (.skip))))
 (.keep [1, 2, 4] (.seq (.ops [.op (some 14) (.loadN 2 (.t 2)),
   .op (some 15) (.mov (.t 1)),
   .call (some 16) 15 [.t 14, .t 15],
   .op (some 13) (.mov (.t 16)),
   .op (some 17) (.ext (.t 13) 0),
   .op (some 18) (.ext (.t 13) 1),
   .op (some 6) (.mov (.t 17)),
   .op (some 7) (.mov (.t 18))])
 (.keep [1, 4, 6, 7] (.seq (.seq (.ops [.op (some 19) (.mov (.t 7)),
   .op (some 20) (.bin .neq (.t 19) (.k (.int .i64 0)))])
  (.keep [1, 4, 6, 7, 20] (.cond (.t 20)
  (.seq (.ops [.op (some 21) (.build [.int .i64 0, .nils 3] []),
    .op (some 22) (.mov (.t 7)),
    .op none (.store 2 (.t 4) (.t 21)),
    .op (some 5) (.mov (.t 22))])
   (.keep [4, 5] (.ret)))
  (.skip))))
 (.keep [1, 4, 6] (.seq (.ops [.op (some 23) (.mov (.t 6)),
   .op (some 24) (.mov (.t 1)),
   .call (some 25) 16 [.t 23, .t 24],
   .op (some 8) (.mov (.t 25))])
 (.keep [1, 4, 6, 8] (.seq (.seq (.ops [.op (some 26) (.mov (.t 8)),
   .op (some 27) (.mov (.t 6)),
   .op (some 28) (.lenS (.t 27)),
   .op (some 29) (.bin .eql (.t 26) (.t 28)),
   .op (some 30) (.mov (.t 29)),
   .andor 37 false 4 30 [.op (some 31) (.mov (.t 6)), .op (some 32) (.mov (.t 8)), .op (some 33) (.iadr 1 (.t 31) (.t 32)), .op (some 34) (.load1 (.t 33)), .op (some 35) (.mov (.t 1)), .op (some 36) (.bin .neq (.t 34) (.t 35))] (.t 36)])
  (.keep [4, 6, 8, 37] (.cond (.t 37)
  (.seq (.ops [.op (some 38) (.build [.int .i64 0, .nils 3] []),
    .op none (.store 2 (.t 4) (.t 38)),
    .op (some 5) (.mov (.k (.int .i64 5)))])
   (.keep [4, 5] (.ret)))
  (.skip))))
 (.keep [4, 6, 8] (.seq (.drawE [[], [], [], [1, 2], [0, 1, 2, 3], [], [], [6], [5, 6, 7], [0, 1, 2, 3, 4, 5, 6, 7, 8], [0, 1, 2, 3, 4, 5, 6, 7, 8, 9], [0, 1, 2, 3, 4, 5, 6, 7, 8, 9, 10], [0, 1, 2, 3, 4, 5, 6, 7, 8, 9, 10, 11]] [.op (some 39) (.bslice 1 []),
   .op (some 40) (.mov (.t 6)),
   .op (some 41) (.mov (.t 8)),
   .op (some 42) (.slc 1 (.t 40) none (some (.t 41)) none),
   .op (some 43) (.app 1 16 [.str []] (.t 39) (.t 42)),
   .op (some 44) (.mov (.t 6)),
   .op (some 45) (.mov (.t 8)),
   .op (some 46) (.bin .add (.t 45) (.k (.int .i64 1))),
   .op (some 47) (.slc 1 (.t 44) (some (.t 46)) none none)]
  [.op (some 48) (.app 1 16 [.str []] (.t 43) (.t 47)),
   .call (some 49) 17 [.t 48],
   .op none (.store 2 (.t 4) (.t 49)),
   .op (some 5) (.mov (.k (.int .i64 0)))])
 (.keep [4, 5] (.ret))))))))))))))
theorem k_c_sTreeDelete_fits : fitsF Try.prog 12 ⟨50, k_c_sTreeDelete, [.cN 4 2, .t 5]⟩ = true := by kernel_rfl
set_option maxHeartbeats 4000000 in
theorem c_sTreeDelete {t : ITree} {key : Str} (hT : TB t) (hz : key.length ≤ 1048576) : Con Try.prog noMv 12 [.agg [.d (.int .i64 t.Root), .d (.sl 3 (t.Nodes.map INode.row))], str key] [] (fun r h => r = .tup [(delF t key).1.av, int (delF t key).2] ∧ h = []) := by
 refine con_of2 k_c_sTreeDelete_fits rfl fun C hP hmv => ?_
 unfold k_c_sTreeDelete
 refine cx_seq (cx_ops ?_)
 refine ax_e (e_box rfl rfl (by decide) rfl rfl rfl) ?_
 refine ax_e (e_alloc (by decide) rfl rfl) ?_
 refine ax_q (q_mov rfl) ?_
 refine ax_nil (cx_keep rfl rfl (cx_seq (cx_seq (cx_ops ?_))))
 refine ax_q (q_mov rfl) ?_
 refine ax_q (q_lenT rfl) ?_
 refine ax_q (q_ibin rfl rfl rfl) ?_
 refine ax_nil (cx_keep rfl rfl ?_)
 refine cx_cond rfl (fun h0 => ?_) (fun h0 => ?_)
 ·
  have h0 := dT h0
  have hlg : 65536 < key.length := by omega
  have ha := askF_long (t := t) hlg
  refine cx_seq (cx_ops ?_)
  refine ax_q (q_build rfl) ?_
  refine ax_wk (wk_virt 903 3 rfl rfl rfl) ?_
  refine ax_wk (wk_zs 12 903 [1] rfl rfl) ?_
  refine ax_wk (wk_frz 12 903 rfl rfl (.agg (.cons (.same rfl) (.cons (.whole rfl) .nil))) rfl) ?_
  refine ax_e (e_st rfl rfl rfl rfl rfl rfl rfl) ?_
  refine ax_q (q_mov rfl) ?_
  refine ax_nil (cx_keep rfl rfl ?_)
  refine cx_ret (ret0 rfl rfl ?_)
  exact ⟨by rw [delF_no (by rw [ha]; decide), ha]; rfl, rfl⟩
 ·
  have h0 := dF h0
  have hlg : ¬ 65536 < key.length := by omega
  refine cx_skip ?_
  refine cx_keep rfl rfl (cx_seq (cx_ops ?_))
  refine ax_q (q_ldN rfl rfl rfl) ?_
  refine ax_q (q_mov rfl) ?_
  refine ax_call rfl (vc_pure (c_l09Ask  ?_ ?_) hP rfl ?_)
  ·
   assumption
  ·
   assumption
  rintro r h ⟨rfl, rfl⟩
  refine ⟨fun i => 16 + 200 * i, [0], ⟨rfl, rfl, rfl, rfl, rfl, (by first | exact (fun h => absurd h Bool.false_ne_true) | exact (fun _ => ⟨rfl, (noisl_of (by repeat (first | exact trivial | refine ⟨noisl_map (fun _ => rfl), ?_⟩ | refine ⟨?_, ?_⟩)))⟩))⟩, ?_⟩
  skip
  refine ax_q (q_mov rfl) ?_
  refine ax_q (q_ext rfl rfl) ?_
  refine ax_q (q_ext rfl rfl) ?_
  refine ax_q (q_mov rfl) ?_
  refine ax_q (q_mov rfl) ?_
  refine ax_nil (cx_keep rfl rfl (cx_seq (cx_seq (cx_ops ?_))))
  refine ax_q (q_mov rfl) ?_
  refine ax_q (q_ibin rfl rfl rfl) ?_
  refine ax_nil (cx_keep rfl rfl ?_)
  refine cx_cond rfl (fun h1 => ?_) (fun h1 => ?_)
  ·
   have h1 := nT h1
   refine cx_seq (cx_ops ?_)
   refine ax_q (q_build rfl) ?_
   refine ax_wk (wk_virt 903 3 rfl rfl rfl) ?_
   refine ax_wk (wk_zs 21 903 [1] rfl rfl) ?_
   refine ax_wk (wk_frz 21 903 rfl rfl (.agg (.cons (.same rfl) (.cons (.whole rfl) .nil))) rfl) ?_
   refine ax_q (q_mov rfl) ?_
   refine ax_e (e_st rfl rfl rfl rfl rfl rfl rfl) ?_
   refine ax_q (q_mov rfl) ?_
   refine ax_nil (cx_keep rfl rfl ?_)
   refine cx_ret (ret0 rfl rfl ?_)
   exact ⟨by rw [delF_no h1]; rfl, rfl⟩
  ·
   have h1 := nF h1
   obtain ⟨hk, hz1, hz2⟩ := askF_ks h1
   obtain ⟨ks, hks⟩ : ∃ ks, (askF t key).1 = ks := ⟨_, rfl⟩
   rw [hks] at hk ⊢
   have q3 := hk.ln
   have hpl := @posS_le ks key
   refine cx_skip ?_
   refine cx_keep rfl rfl (cx_seq (cx_ops ?_))
   refine ax_q (q_mov rfl) ?_
   refine ax_q (q_mov rfl) ?_
   refine ax_call rfl (vc_lend0 (c_l09At (xs := ks) (key := key) hk.asc (by omega)) hP (.cons (.lend (lend_whole rfl (by simp))) (.cons (.d _) .nil)) rfl rfl ?_)
   refine ax_q (q_mov rfl) ?_
   refine ax_nil (cx_keep rfl rfl (cx_seq (cx_seq (cx_ops ?_))))
   refine ax_q (q_mov rfl) ?_
   refine ax_q (q_mov rfl) ?_
   first | refine ax_q (q_lenS_map rfl) ?_ | refine ax_q (q_lenS_osl rfl) ?_
   refine ax_q (q_ibin rfl rfl rfl) ?_
   refine ax_q (q_mov rfl) ?_
   apply ax_or rfl rfl
   ·
    intro g
    have g := dF g
    refine ax_q (q_mov rfl) ?_
    refine ax_q (q_mov rfl) ?_
    refine ax_q (q_ixo rfl rfl (by omega)) ?_
    refine ax_q (q_load1_rptr (r := strRow (ks.getD (posS ks key) [])) rfl rfl (strD (by omega)) rfl) ?_
    refine ax_q (q_mov rfl) ?_
    refine ax_q (q_sbin rfl rfl rfl) ?_
    exact ax_nil ⟨rfl, by repeat constructor⟩
   refine ax_nil (cx_keep rfl rfl ?_)
   refine cx_cond rfl (fun h2 => ?_) (fun h2 => ?_)
   ·
    rw [hit_or hk.asc] at h2
    have h2 : hitS ks key = false := bT h2
    refine cx_seq (cx_ops ?_)
    refine ax_q (q_build rfl) ?_
    refine ax_wk (wk_virt 903 3 rfl rfl rfl) ?_
    refine ax_wk (wk_zs 38 903 [1] rfl rfl) ?_
    refine ax_wk (wk_frz 38 903 rfl rfl (.agg (.cons (.same rfl) (.cons (.whole rfl) .nil))) rfl) ?_
    refine ax_e (e_st rfl rfl rfl rfl rfl rfl rfl) ?_
    refine ax_q (q_mov rfl) ?_
    refine ax_nil (cx_keep rfl rfl ?_)
    refine cx_ret (ret0 rfl rfl ?_)
    exact ⟨by rw [delF_2 h1 (by rw [hks]; exact h2)]; rfl, rfl⟩
   ·
    rw [hit_or hk.asc] at h2
    have h2 : hitS ks key = true := bF h2
    obtain ⟨hp, hpe⟩ := (posS_mem hk.asc).1 (of_decide_eq_true h2)
    refine cx_wk (wk_frz 6 16 rfl rfl (.whole (by simp)) rfl) ?_
    refine cx_skip ?_
    refine cx_keep rfl rfl (cx_seq ?_)
    refine cx_drawL 1 40 (fun _ => false) (fun _ => true) [] ([]) [[], [6], [8], [40, 41], [39, 42], [6], [8], [45], [44, 46]] [[], [], [], [], [], [], [], [], []] rfl ?_
    first | refine ⟨_, .inr ⟨rfl, _, rfl, .inr ⟨rfl, rfl, .inr rfl, rfl, rfl⟩, loc_bsliceZ⟩, ?_⟩
    first | refine ⟨⟨40, _, []⟩, .inl ⟨rfl, rfl, rfl, locl_of (loc_q (q_mov rfl))⟩, ?_⟩
    first | refine ⟨_, .inr ⟨rfl, _, rfl, .inr ⟨rfl, rfl, .inr rfl, rfl, rfl⟩, loc_q (q_mov rfl)⟩, ?_⟩
    first | refine ⟨_, .inr ⟨rfl, _, rfl, .inr ⟨rfl, rfl, .inl rfl, rfl, rfl⟩, loc_qe (r' := .d (.sl 1 ((ks.take (posS ks key)).map strRow))) (q_slc rfl rfl rfl (by omega) (by omega) (by simp; omega)) (slR_take (by omega))⟩, ?_⟩
    first | refine ⟨_, .inr ⟨rfl, _, rfl, .inr ⟨rfl, rfl, .inl rfl, rfl, rfl⟩, loc_appZ (n := posS ks key) (rs := (ks.take (posS ks key)).map strRow) rfl rfl (fun _ _ h => src_sl 1 _) (bnd0 (by simp; omega) (by decide)) (by simp; omega) rfl⟩, ?_⟩
    first | refine ⟨_, .inr ⟨rfl, _, rfl, .inr ⟨rfl, rfl, .inr rfl, rfl, rfl⟩, loc_q (q_mov rfl)⟩, ?_⟩
    first | refine ⟨_, .inr ⟨rfl, _, rfl, .inr ⟨rfl, rfl, .inr rfl, rfl, rfl⟩, loc_q (q_mov rfl)⟩, ?_⟩
    first | refine ⟨_, .inr ⟨rfl, _, rfl, .inr ⟨rfl, rfl, .inr rfl, rfl, rfl⟩, loc_qe (r' := int ((posS ks key + 1 : Nat) : Int)) (q_ibin rfl rfl rfl) (by rw [wi (by omega) (by omega)]; rfl)⟩, ?_⟩
    first | refine ⟨_, .inr ⟨rfl, _, rfl, .inr ⟨rfl, rfl, .inr rfl, rfl, rfl⟩, loc_qe (r' := .d (.sl 1 ((ks.drop (posS ks key + 1)).map strRow))) (q_slc rfl rfl rfl (by omega) (by simp; omega) (by simp)) (slR_drop (by omega))⟩, ?_⟩
    refine ⟨rfl, ?_⟩
    refine ax_e (e_appn (n' := (delA ks (posS ks key)).length) (rs' := (delA ks (posS ks key)).map strRow) rfl rfl (by simp; omega) rfl (src_sl 1 _) (.inl (by decide)) (hbnd (by omega) (by simp; omega) (by decide)) (by rw [delA_len hp]; simp; omega) (by rw [List.take_of_length_le (by simp; omega), ← List.map_append]; rfl)) ?_
    refine ax_wk (wk_frz 48 43 rfl rfl (.whole (by simp)) rfl) ?_
    refine ax_call rfl (vc_pure0 (c_l09BuildA (ks := (delA ks (posS ks key))) (by rw [delA_len hp]; omega)) hP rfl rfl ?_)
    refine ax_e (e_st rfl rfl rfl rfl rfl rfl rfl) ?_
    refine ax_q (q_mov rfl) ?_
    refine ax_nil (cx_keep rfl rfl ?_)
    refine cx_ret (ret0 rfl rfl ?_)
    refine ⟨?_, rfl⟩
    rw [delF_1 h1 hks h2]
    show _ = AV.tup [.agg [_, .d (.sl 3 (((treeT (delA ks (posS ks key))).nodes.map embN).map INode.row))], _]
    rw [emb_rows]; rfl


/- slices.IndexFunc[[]string,string] -/
def k_c_IndexFunc_Str : XCode :=
 .seq (.ops [.op (some 4) (.mov (.k (.int .i64 0)))])
 (.keep [0, 1] (.seq (.seq (.ops [.op (some 6) (.mov (.t 0)),
   .op (some 7) (.lenS (.t 6)),
   .op (some 8) (.mov (.k (.int .i64 0)))])
  (.keep [0, 1, 7, 8] (.block 0 (.loop (.seq (.ops [.op (some 9) (.bin .lss (.t 8) (.t 7))])
   (.keep [0, 1, 7, 8, 9] (.seq (.cond (.t 9)
    (.skip)
    (.exit 0))
   (.keep [0, 1, 7, 8] (.seq (.block 1 (.seq (.ops [.op (some 10) (.mov (.t 8)),
     .op (some 5) (.mov (.t 10))])
    (.keep [0, 1, 5, 7, 8] (.seq (.ops [.op (some 11) (.mov (.t 1)),
     .op (some 12) (.mov (.t 0)),
     .op (some 13) (.mov (.t 5)),
     .op (some 14) (.iadr 1 (.t 12) (.t 13)),
     .op (some 15) (.load1 (.t 14)),
     .callv (some 16) (.t 11) [.t 15]])
    (.keep [0, 1, 5, 7, 8, 16] (.cond (.t 16)
    (.seq (.ops [.op (some 17) (.mov (.t 5)),
      .op (some 4) (.mov (.t 17))])
     (.keep [4] (.ret)))
    (.skip)))))))
   (.keep [0, 1, 7, 8] (.ops [.op (some 18) (.bin .add (.t 8) (.k (.int .i64 1))),
    .op (some 8) (.mov (.t 18))])))))))))))
 (.keep [] (.seq (.ops [.op (some 4) (.mov (.k (.int .i64 (-1))))])
 (.keep [4] (.ret))))))
theorem k_c_IndexFunc_Str_fits : fitsF Try.prog 64 ⟨19, k_c_IndexFunc_Str, [.t 4]⟩ = true := by kernel_rfl
theorem c_IndexFunc_Str {xs : List Str} {f : Nat} {ds : List D} (p : Str → Bool) (hw : xs.length ≤ 9223372036854775807) (hb : hasBody Try.prog f = true) (hf : ∀ s ∈ xs, Con Try.prog noMv f (str s :: ds.map AV.d) [] (fun r h => r = bool (p s) ∧ h = [])) : Con Try.prog noMv 64 [.d (.sl 1 (xs.map strRow)), .d (.fn (.func f) ds)] [] (fun r h => r = int (idxOf p xs 0) ∧ h = []) := by
 refine con_of2 k_c_IndexFunc_Str_fits rfl fun C hP hmv => ?_
 unfold k_c_IndexFunc_Str
 refine cx_seq (cx_ops ?_)
 refine ax_q (q_mov rfl) ?_
 refine ax_nil (cx_keep rfl rfl (cx_seq (cx_seq (cx_ops ?_))))
 refine ax_q (q_mov rfl) ?_
 refine ax_q (q_lenS_map rfl) ?_
 refine ax_q (q_mov rfl) ?_
 refine ax_nil (cx_keep rfl rfl (cx_block ?_))
 refine cx_loopU (fun n k => k ≤ xs.length ∧ n = xs.length - k ∧ ∀ i, i < k → ∀ x, xs[i]? = some x → p x = false) (fun k : Nat => [(8, int k)]) (fun _ => []) ⟨_, 0, ⟨by omega, rfl, fun i hi => by omega⟩, by repeat constructor⟩ ?_
 rintro n k ⟨hk, rfl, ht⟩
 refine cx_seq (cx_ops ?_)
 refine ax_q (q_ibin rfl rfl rfl) ?_
 refine ax_nil (cx_keep rfl rfl (cx_seq ?_))
 refine cx_cond rfl (fun h0 => ?_) (fun h0 => ?_)
 ·
  have h0 := dT h0
  have h0x : k < xs.length := by omega
  refine cx_skip ?_
  refine cx_keep rfl rfl (cx_seq (cx_block (cx_seq (cx_ops ?_))))
  refine ax_q (q_mov rfl) ?_
  refine ax_q (q_mov rfl) ?_
  refine ax_nil (cx_keep rfl rfl (cx_seq (cx_ops ?_)))
  refine ax_q (q_mov rfl) ?_
  refine ax_q (q_mov rfl) ?_
  refine ax_q (q_mov rfl) ?_
  refine ax_q (q_ix rfl rfl (mapAt h0x)) ?_
  first | refine ax_q (q_load1_ptr rfl rfl rfl) ?_ | refine ax_q (q_load1_ip rfl) ?_
  refine ax_callvD rfl (by rw [hP]; exact hb) rfl (vc_pure0 (hf _ (List.getElem_mem h0x)) hP (refs_cons rfl ds) rfl ?_)
  refine ax_nil (cx_keep rfl rfl ?_)
  refine cx_cond rfl (fun h1 => ?_) (fun h1 => ?_)
  ·
   skip
   refine cx_seq (cx_ops ?_)
   refine ax_q (q_mov rfl) ?_
   refine ax_q (q_mov rfl) ?_
   refine ax_nil (cx_keep rfl rfl ?_)
   refine cx_ret (ret0 rfl rfl ?_)
   exact ⟨by rw [idxOf_hit h0x ht h1]; rfl, rfl⟩
  ·
   skip
   refine cx_skip ?_
   refine cx_keep rfl rfl (cx_ops ?_)
   refine ax_qe (r' := int ((k + 1 : Nat) : Int)) (q_ibin rfl rfl rfl) (by rw [wi (by omega) (by omega)]; rfl) ?_
   refine ax_q (q_mov rfl) ?_
   refine ax_nil ?_
   exact ⟨_, k + 1, by omega, ⟨by omega, rfl, before_step h0x ht h1⟩, by repeat constructor⟩
 ·
  have h0 := dF h0
  have h0x : k = xs.length := by omega
  refine cx_exit rfl ?_
  refine cx_keep rfl rfl (cx_seq (cx_ops ?_))
  refine ax_q (q_mov rfl) ?_
  refine ax_nil (cx_keep rfl rfl ?_)
  refine cx_ret (ret0 rfl rfl ?_)
  exact ⟨by rw [idxOf_none (fun i hi => ht i (by omega))]; rfl, rfl⟩


/- slices.ContainsFunc[[]string,string] -/
def k_c_ContainsFunc_Str : XCode :=
 .seq (.ops [.op (some 4) (.mov (.k (.bool false)))])
 (.keep [0, 1] (.seq (.ops [.op (some 5) (.mov (.t 0)),
   .op (some 6) (.mov (.t 1)),
   .call (some 7) 64 [.t 5, .t 6],
   .op (some 8) (.bin .geq (.t 7) (.k (.int .i64 0))),
   .op (some 4) (.mov (.t 8))])
 (.keep [4] (.ret))))
theorem k_c_ContainsFunc_Str_fits : fitsF Try.prog 54 ⟨9, k_c_ContainsFunc_Str, [.t 4]⟩ = true := by kernel_rfl
theorem c_ContainsFunc_Str {xs : List Str} {f : Nat} {ds : List D} (p : Str → Bool) (hw : xs.length ≤ 9223372036854775807) (hb : hasBody Try.prog f = true) (hf : ∀ s ∈ xs, Con Try.prog noMv f (str s :: ds.map AV.d) [] (fun r h => r = bool (p s) ∧ h = [])) : Con Try.prog noMv 54 [.d (.sl 1 (xs.map strRow)), .d (.fn (.func f) ds)] [] (fun r h => r = bool (xs.any p) ∧ h = []) := by
 refine con_of2 k_c_ContainsFunc_Str_fits rfl fun C hP hmv => ?_
 unfold k_c_ContainsFunc_Str
 refine cx_seq (cx_ops ?_)
 refine ax_q (q_mov rfl) ?_
 refine ax_nil (cx_keep rfl rfl (cx_seq (cx_ops ?_)))
 refine ax_q (q_mov rfl) ?_
 refine ax_q (q_mov rfl) ?_
 refine ax_call rfl (vc_pure0 (c_IndexFunc_Str p hw hb hf) hP rfl rfl ?_)
 refine ax_qe (r' := bool (xs.any p)) (q_ibin rfl rfl rfl) (congrArg AM.bool any_idxOf) ?_
 refine ax_q (q_mov rfl) ?_
 refine ax_nil (cx_keep rfl rfl ?_)
 refine cx_ret (ret0 rfl rfl ?_)
 exact ⟨rfl, rfl⟩


/- loop.example/g00332/impl.isLong$1 -/
def k_c_isLong1 : XCode :=
 .seq (.ops [.op (some 2) (.mov (.k (.bool false)))])
 (.keep [0] (.seq (.ops [.op (some 3) (.mov (.t 0)),
   .op (some 4) (.lenT (.t 3)),
   .op (some 5) (.bin .gtr (.t 4) (.k (.int .i64 65536))),
   .op (some 2) (.mov (.t 5))])
 (.keep [2] (.ret))))
theorem k_c_isLong1_fits : fitsF Try.prog 55 ⟨6, k_c_isLong1, [.t 2]⟩ = true := by kernel_rfl
theorem c_isLong1 {s : Str} : Con Try.prog noMv 55 [str s] [] (fun r h => r = bool (long64 s) ∧ h = []) := by
 refine con_of2 k_c_isLong1_fits rfl fun C hP hmv => ?_
 unfold k_c_isLong1
 refine cx_seq (cx_ops ?_)
 refine ax_q (q_mov rfl) ?_
 refine ax_nil (cx_keep rfl rfl (cx_seq (cx_ops ?_)))
 refine ax_q (q_mov rfl) ?_
 refine ax_q (q_lenT rfl) ?_
 refine ax_q (q_ibin rfl rfl rfl) ?_
 refine ax_q (q_mov rfl) ?_
 refine ax_nil (cx_keep rfl rfl ?_)
 refine cx_ret (ret0 rfl rfl ?_)
 exact ⟨rfl, rfl⟩


/- loop.example/g00332/impl.isLong -/
def k_c_isLong : XCode :=
 .seq (.ops [.op (some 2) (.mov (.k (.bool false)))])
 (.keep [0] (.seq (.ops [.op (some 3) (.mov (.t 0)),
   .call (some 4) 54 [.t 3, .f 55],
   .op (some 2) (.mov (.t 4))])
 (.keep [2] (.ret))))
theorem k_c_isLong_fits : fitsF Try.prog 32 ⟨5, k_c_isLong, [.t 2]⟩ = true := by kernel_rfl
theorem c_isLong {xs : List Str} (hw : xs.length ≤ 1048576) : Con Try.prog noMv 32 [.d (.sl 1 (xs.map strRow))] [] (fun r h => r = bool (xs.any long64) ∧ h = []) := by
 refine con_of2 k_c_isLong_fits rfl fun C hP hmv => ?_
 unfold k_c_isLong
 refine cx_seq (cx_ops ?_)
 refine ax_q (q_mov rfl) ?_
 refine ax_nil (cx_keep rfl rfl (cx_seq (cx_ops ?_)))
 refine ax_q (q_mov rfl) ?_
 refine ax_call rfl (vc_lend0 (c_ContainsFunc_Str (xs := xs) (ds := []) long64 (by omega) (by kernel_rfl) (fun s _ => c_isLong1)) hP (by repeat (first | exact lal_id _ rfl | exact LAL.nil | refine LAL.cons ?_ ?_ | exact la_id _ rfl | exact LA.lend (lend_whole rfl (by first | (simp; done) | (rw [List.length_map]; rfl))) | refine LA.agg ?_ | refine LA.fn ?_ | refine LA.lend ?_ | exact Lend.d _ | exact Lend.zs _ | exact lend_whole rfl (by first | (simp; done) | (rw [List.length_map]; rfl)) | refine Lend.ptr rfl ?_ | refine Lend.fn ?_ | exact Lend.osld rfl (by simp [mkNs_len]) (nn_map (fun _ => rfl)) | exact LendL.nil | refine LendL.cons ?_ ?_)) rfl rfl ?_)
 refine ax_q (q_mov rfl) ?_
 refine ax_nil (cx_keep rfl rfl ?_)
 refine cx_ret (ret0 rfl rfl ?_)
 exact ⟨rfl, rfl⟩


/- loop.example/g00332/impl.inRange -/
def k_c_inRange : XCode :=
 .seq (.ops [.op (some 6) (.mov (.k (.bool false)))])
 (.keep [0, 1, 2] (.seq (.ops [.op (some 7) (.mov (.t 1)),
   .op (some 8) (.mov (.t 0)),
   .op (some 9) (.bin .leq (.t 7) (.t 8)),
   .op (some 10) (.mov (.t 9)),
   .andor 14 true 3 10 [.op (some 11) (.mov (.t 0)), .op (some 12) (.mov (.t 2)), .op (some 13) (.bin .leq (.t 11) (.t 12))] (.t 13),
   .op (some 6) (.mov (.t 14))])
 (.keep [6] (.ret))))
theorem k_c_inRange_fits : fitsF Try.prog 58 ⟨15, k_c_inRange, [.t 6]⟩ = true := by kernel_rfl
theorem c_inRange {n lo hi : Int} : Con Try.prog noMv 58 [int n, int lo, int hi] [] (fun r h => r = bool (inR n lo hi) ∧ h = []) := by
 refine con_of2 k_c_inRange_fits rfl fun C hP hmv => ?_
 unfold k_c_inRange
 refine cx_seq (cx_ops ?_)
 refine ax_q (q_mov rfl) ?_
 refine ax_nil (cx_keep rfl rfl (cx_seq (cx_ops ?_)))
 refine ax_q (q_mov rfl) ?_
 refine ax_q (q_mov rfl) ?_
 refine ax_q (q_ibin rfl rfl rfl) ?_
 refine ax_q (q_mov rfl) ?_
 apply ax_and rfl rfl
 ·
  intro g
  have g := dT g
  refine ax_q (q_mov rfl) ?_
  refine ax_q (q_mov rfl) ?_
  refine ax_q (q_ibin rfl rfl rfl) ?_
  exact ax_nil ⟨rfl, by repeat constructor⟩
 refine ax_q (q_mov rfl) ?_
 refine ax_nil (cx_keep rfl rfl ?_)
 refine cx_ret (ret0 rfl rfl ?_)
 exact ⟨rfl, rfl⟩


/- loop.example/g00332/impl.isKey -/
def k_c_isKey : XCode :=
 .seq (.ops [.op (some 2) (.mov (.k (.bool false)))])
 (.keep [0] (.seq (.ops [.op (some 3) (.mov (.t 0)),
   .op (some 4) (.lenT (.t 3)),
   .call (some 5) 58 [.t 4, .k (.int .i64 1), .k (.int .i64 30)],
   .op (some 2) (.mov (.t 5))])
 (.keep [2] (.ret))))
theorem k_c_isKey_fits : fitsF Try.prog 34 ⟨6, k_c_isKey, [.t 2]⟩ = true := by kernel_rfl
theorem c_isKey {s : Str} : Con Try.prog noMv 34 [str s] [] (fun r h => r = bool (inR s.length 1 30) ∧ h = []) := by
 refine con_of2 k_c_isKey_fits rfl fun C hP hmv => ?_
 unfold k_c_isKey
 refine cx_seq (cx_ops ?_)
 refine ax_q (q_mov rfl) ?_
 refine ax_nil (cx_keep rfl rfl (cx_seq (cx_ops ?_)))
 refine ax_q (q_mov rfl) ?_
 refine ax_q (q_lenT rfl) ?_
 refine ax_call rfl (vc_pure0 (c_inRange  ) hP rfl rfl ?_)
 refine ax_q (q_mov rfl) ?_
 refine ax_nil (cx_keep rfl rfl ?_)
 refine cx_ret (ret0 rfl rfl ?_)
 exact ⟨rfl, rfl⟩


/- loop.example/g00332/impl.isPlace -/
def k_c_isPlace : XCode :=
 .seq (.ops [.op (some 4) (.mov (.k (.bool false)))])
 (.keep [0, 1] (.seq (.ops [.op (some 5) (.mov (.t 0)),
   .op (some 6) (.mov (.t 1)),
   .op (some 7) (.bin .sub (.t 6) (.k (.int .i64 1))),
   .call (some 8) 58 [.t 5, .k (.int .i64 0), .t 7],
   .op (some 4) (.mov (.t 8))])
 (.keep [4] (.ret))))
theorem k_c_isPlace_fits : fitsF Try.prog 65 ⟨9, k_c_isPlace, [.t 4]⟩ = true := by kernel_rfl
theorem c_isPlace {n k : Int} (hk : 0 ≤ k ∧ k ≤ 1048576) : Con Try.prog noMv 65 [int n, int k] [] (fun r h => r = bool (inR n 0 (k - 1)) ∧ h = []) := by
 refine con_of2 k_c_isPlace_fits rfl fun C hP hmv => ?_
 unfold k_c_isPlace
 refine cx_seq (cx_ops ?_)
 refine ax_q (q_mov rfl) ?_
 refine ax_nil (cx_keep rfl rfl (cx_seq (cx_ops ?_)))
 refine ax_q (q_mov rfl) ?_
 refine ax_q (q_mov rfl) ?_
 refine ax_q (q_sub rfl rfl (by omega)) ?_
 refine ax_call rfl (vc_pure0 (c_inRange  ) hP rfl rfl ?_)
 refine ax_q (q_mov rfl) ?_
 refine ax_nil (cx_keep rfl rfl ?_)
 refine cx_ret (ret0 rfl rfl ?_)
 exact ⟨rfl, rfl⟩


/- (ptr loop.example/g00332/impl.treeLook).node -/
def k_c_node_look : XCode :=
 .seq (.ops [.op (some 8) (.mov (.k (.int .i64 0)))])
 (.keep [0, 1, 2, 3] (.seq (.ops [.op (some 14) (.mov (.t 0)),
   .op (some 15) (.nilck (.t 14)),
   .op (some 16) (.fadr (.t 15) 3),
   .op (some 17) (.load1 (.t 16)),
   .op (some 18) (.lenS (.t 17)),
   .op (some 9) (.mov (.t 18))])
 (.keep [0, 1, 2, 3, 9] (.seq (.seq (.ops [.op (some 19) (.mov (.t 0)),
   .op (some 20) (.nilck (.t 19)),
   .op (some 21) (.fadr (.t 20) 5),
   .op (some 22) (.load1 (.t 21)),
   .op (some 23) (.mov (.t 22)),
   .andor 33 false 4 23 [.op (some 24) (.mov (.t 1)), .op (some 25) (.mov (.t 0)), .op (some 26) (.nilck (.t 25)), .op (some 27) (.fadr (.t 26) 0), .op (some 28) (.fadr (.t 27) 1), .op (some 29) (.load1 (.t 28)), .op (some 30) (.lenS (.t 29)), .call (some 31) 65 [.t 24, .t 30], .op (some 32) (.not (.t 31))] (.t 32),
   .op (some 34) (.mov (.t 33)),
   .andor 42 false 15 34 [.op (some 35) (.mov (.t 0)), .op (some 36) (.nilck (.t 35)), .op (some 37) (.fadr (.t 36) 2), .op (some 38) (.load1 (.t 37)), .op (some 39) (.mov (.t 1)), .op (some 40) (.iadr 1 (.t 38) (.t 39)), .op (some 41) (.load1 (.t 40))] (.t 41)])
  (.keep [0, 1, 2, 3, 9, 42] (.cond (.t 42)
  (.seq (.ops [.op (some 43) (.mov (.t 0)),
    .op (some 44) (.nilck (.t 43)),
    .op (some 45) (.fadr (.t 44) 5),
    .op none (.store 1 (.t 45) (.k (.bool true)))])
   (.keep [9] (.seq (.ops [.op (some 46) (.mov (.t 9)),
    .op (some 8) (.mov (.t 46))])
   (.keep [8] (.ret)))))
  (.skip))))
 (.keep [0, 1, 2, 3, 9] (.seq (.ops [.op (some 47) (.mov (.t 0)),
   .op (some 48) (.nilck (.t 47)),
   .op (some 49) (.fadr (.t 48) 2),
   .op (some 50) (.load1 (.t 49)),
   .op (some 51) (.mov (.t 1)),
   .op (some 52) (.iadr 1 (.t 50) (.t 51)),
   .op none (.store 1 (.t 52) (.k (.bool true)))])
 (.keep [0, 1, 2, 3, 9] (.seq (.ops [.op (some 53) (.mov (.t 0)),
   .op (some 54) (.nilck (.t 53)),
   .op (some 55) (.fadr (.t 54) 0),
   .op (some 56) (.fadr (.t 55) 1),
   .op (some 57) (.load1 (.t 56)),
   .op (some 58) (.mov (.t 1)),
   .op (some 59) (.iadr 3 (.t 57) (.t 58)),
   .op (some 60) (.loadN 3 (.t 59)),
   .op (some 10) (.alloc [.bool false, .nils 1, .nils 1]),
   .op none (.store 3 (.t 10) (.t 60))])
 (.keep [0, 2, 3, 9, 10] (.seq (.seq (.ops [.op (some 61) (.fadr (.t 10) 0),
   .op (some 62) (.load1 (.t 61))])
  (.keep [0, 2, 3, 9, 10, 62] (.cond (.t 62)
  (.seq (.ops [.op (some 63) (.mov (.t 0)),
    .op (some 64) (.fadr (.t 10) 2),
    .op (some 65) (.load1 (.t 64)),
    .op (some 66) (.lenS (.t 65)),
    .op (some 67) (.bin .gtr (.t 66) (.k (.int .i64 0))),
    .op (some 68) (.mov (.t 67)),
    .andor 73 false 5 68 [.op (some 69) (.fadr (.t 10) 1), .op (some 70) (.load1 (.t 69)), .op (some 71) (.lenS (.t 70)), .op (some 72) (.bin .gtr (.t 71) (.k (.int .i64 4)))] (.t 72),
    .op (some 74) (.mov (.t 73)),
    .andor 83 false 11 74 [.op (some 75) (.fadr (.t 10) 1), .op (some 76) (.load1 (.t 75)), .op (some 77) (.lenS (.t 76)), .op (some 78) (.bin .eql (.t 77) (.k (.int .i64 0))), .op (some 79) (.mov (.t 78)), .andor 82 true 16 79 [.op (some 80) (.mov (.t 3)), .op (some 81) (.not (.t 80))] (.t 81)] (.t 82),
    .op (some 84) (.mov (.t 83)),
    .andor 98 false 21 84 [.op (some 85) (.mov (.t 0)), .op (some 86) (.nilck (.t 85)), .op (some 87) (.fadr (.t 86) 4), .op (some 88) (.load1 (.t 87)), .op (some 89) (.bin .neq (.t 88) (.k (.int .i64 0))), .op (some 90) (.mov (.t 89)), .andor 97 true 27 90 [.op (some 91) (.mov (.t 0)), .op (some 92) (.nilck (.t 91)), .op (some 93) (.fadr (.t 92) 4), .op (some 94) (.load1 (.t 93)), .op (some 95) (.mov (.t 2)), .op (some 96) (.bin .neq (.t 94) (.t 95))] (.t 96)] (.t 97),
    .op (some 99) (.nilck (.t 63)),
    .op (some 100) (.fadr (.t 99) 5),
    .op none (.store 1 (.t 100) (.t 98))])
   (.keep [0, 2, 9, 10] (.seq (.ops [.op (some 101) (.mov (.t 0)),
    .op (some 102) (.mov (.t 2)),
    .op (some 103) (.nilck (.t 101)),
    .op (some 104) (.fadr (.t 103) 4),
    .op none (.store 1 (.t 104) (.t 102))])
   (.keep [0, 9, 10] (.seq (.drawE [[], [], [1], [1, 2], [1, 2, 3], [], [5], [1, 2, 3, 4, 5, 6], [0, 1, 2, 3, 4, 5, 6, 7], [0, 1, 2, 3, 4, 5, 6, 7, 8], [0, 1, 2, 3, 4, 5, 6, 7, 8, 9]] [.op (some 105) (.mov (.t 0)),
    .op (some 106) (.mov (.t 0)),
    .op (some 107) (.nilck (.t 106)),
    .op (some 108) (.fadr (.t 107) 3),
    .op (some 109) (.load1 (.t 108)),
    .op (some 110) (.fadr (.t 10) 1),
    .op (some 111) (.load1 (.t 110)),
    .op (some 112) (.app 1 16 [.str []] (.t 109) (.t 111))]
    [.op (some 113) (.nilck (.t 105)),
    .op (some 114) (.fadr (.t 113) 3),
    .op none (.store 1 (.t 114) (.t 112))])
   (.keep [9] (.seq (.ops [.op (some 115) (.mov (.t 9)),
    .op (some 8) (.mov (.t 115))])
   (.keep [8] (.ret)))))))))
  (.skip))))
 (.keep [0, 2, 9, 10] (.seq (.seq (.ops [.op (some 116) (.mov (.t 0)),
   .op (some 117) (.fadr (.t 10) 1),
   .op (some 118) (.load1 (.t 117)),
   .op (some 119) (.lenS (.t 118)),
   .op (some 120) (.bin .gtr (.t 119) (.k (.int .i64 4))),
   .op (some 121) (.mov (.t 120)),
   .andor 130 false 5 121 [.op (some 122) (.fadr (.t 10) 2), .op (some 123) (.load1 (.t 122)), .op (some 124) (.lenS (.t 123)), .op (some 125) (.fadr (.t 10) 1), .op (some 126) (.load1 (.t 125)), .op (some 127) (.lenS (.t 126)), .op (some 128) (.bin .add (.t 127) (.k (.int .i64 1))), .op (some 129) (.bin .neq (.t 124) (.t 128))] (.t 129),
   .op (some 131) (.mov (.t 130)),
   .andor 136 false 15 131 [.op (some 132) (.fadr (.t 10) 2), .op (some 133) (.load1 (.t 132)), .op (some 134) (.lenS (.t 133)), .op (some 135) (.bin .lss (.t 134) (.k (.int .i64 2)))] (.t 135),
   .op (some 137) (.nilck (.t 116)),
   .op (some 138) (.fadr (.t 137) 5),
   .op none (.store 1 (.t 138) (.t 136))])
  (.keep [0, 2, 9, 10] (.seq (.ops [.op (some 139) (.mov (.t 0)),
   .op (some 140) (.nilck (.t 139)),
   .op (some 141) (.fadr (.t 140) 5),
   .op (some 142) (.load1 (.t 141))])
  (.keep [0, 2, 9, 10, 142] (.cond (.t 142)
  (.seq (.ops [.op (some 143) (.mov (.t 9)),
    .op (some 8) (.mov (.t 143))])
   (.keep [8] (.ret)))
  (.skip))))))
 (.keep [0, 2, 9, 10] (.seq (.seq (.ops [.op (some 144) (.fadr (.t 10) 2),
   .op (some 145) (.load1 (.t 144)),
   .op (some 146) (.lenS (.t 145)),
   .op (some 147) (.mov (.k (.int .i64 0)))])
  (.keep [0, 2, 9, 10, 145, 146, 147] (.block 0 (.loop (.seq (.ops [.op (some 148) (.bin .lss (.t 147) (.t 146))])
   (.keep [0, 2, 9, 10, 145, 146, 147, 148] (.seq (.cond (.t 148)
    (.skip)
    (.exit 0))
   (.keep [0, 2, 9, 10, 145, 146, 147] (.seq (.block 1 (.seq (.ops [.op (some 149) (.mov (.t 147)),
     .op (some 150) (.iadr 1 (.t 145) (.t 147)),
     .op (some 151) (.load1 (.t 150)),
     .op (some 11) (.mov (.t 149)),
     .op (some 12) (.mov (.t 151))])
    (.keep [0, 2, 9, 10, 11, 12, 145, 146, 147] (.seq (.ops [.op (some 152) (.mov (.t 0)),
     .op (some 153) (.mov (.t 12)),
     .op (some 154) (.mov (.t 2)),
     .op (some 155) (.bin .add (.t 154) (.k (.int .i64 1))),
     .call (some 156) 56 [.t 152, .t 153, .t 155, .k (.bool false)],
     .op (some 13) (.mov (.t 156))])
    (.keep [0, 2, 9, 10, 11, 13, 145, 146, 147] (.seq (.draw [.op (some 157) (.mov (.t 0)),
     .op (some 158) (.nilck (.t 157)),
     .op (some 159) (.fadr (.t 158) 5),
     .op (some 160) (.load1 (.t 159)),
     .op (some 161) (.mov (.t 160)),
     .andor 180 false 4 161 [.op (some 162) (.mov (.t 11)), .op (some 163) (.bin .gtr (.t 162) (.k (.int .i64 0))), .op (some 164) (.mov (.t 163)), .andor 179 true 7 164 [.op (some 165) (.mov (.t 0)), .op (some 166) (.nilck (.t 165)), .op (some 167) (.fadr (.t 166) 3), .op (some 168) (.load1 (.t 167)), .op (some 169) (.mov (.t 13)), .op (some 170) (.iadr 1 (.t 168) (.t 169)), .op (some 171) (.load1 (.t 170)), .op (some 172) (.fadr (.t 10) 1), .op (some 173) (.load1 (.t 172)), .op (some 174) (.mov (.t 11)), .op (some 175) (.bin .sub (.t 174) (.k (.int .i64 1))), .op (some 176) (.iadr 1 (.t 173) (.t 175)), .op (some 177) (.load1 (.t 176)), .op (some 178) (.bin .neq (.t 171) (.t 177))] (.t 178)] (.t 179)])
    (.keep [0, 2, 9, 10, 145, 146, 147, 180] (.cond (.t 180)
    (.seq (.ops [.op (some 181) (.mov (.t 0)),
      .op (some 182) (.nilck (.t 181)),
      .op (some 183) (.fadr (.t 182) 5),
      .op none (.store 1 (.t 183) (.k (.bool true)))])
     (.keep [9] (.seq (.ops [.op (some 184) (.mov (.t 9)),
      .op (some 8) (.mov (.t 184))])
     (.keep [8] (.ret)))))
    (.skip)))))))))
   (.keep [0, 2, 9, 10, 145, 146, 147] (.ops [.op (some 185) (.bin .add (.t 147) (.k (.int .i64 1))),
    .op (some 147) (.mov (.t 185))])))))))))))
 (.keep [9] (.seq (.ops [.op (some 186) (.mov (.t 9)),
   .op (some 8) (.mov (.t 186))])
 (.keep [8] (.ret))))))))))))))))))
theorem k_c_node_look_fits : fitsF Try.prog 56 ⟨187, k_c_node_look, [.t 8]⟩ = true := by kernel_rfl
set_option maxHeartbeats 4000000 in
theorem c_node_look {t : ITree} {f d : Nat} {k : Int} {rt : Bool} {st : LK Str} (hn : t.Nodes.length ≤ 200) (hT : TB t) (hs : st.seen.length = t.Nodes.length) (hu : unseen st.seen < f) (hd : d + unseen st.seen ≤ 300) (hk : st.keys.length + 4 * unseen st.seen ≤ 1000) : Con Try.prog (fun e => Nat.beq e 1002) 56 [.ptr 1000 0, int k, int d, bool rt] [(1000, .box [.d (.int .i64 t.Root), .d (.sl 3 (t.Nodes.map INode.row)), .osl 1001 1 0 st.seen.length, .osl 1002 1 0 st.keys.length, .d (.int .i64 st.deep), .d (.bool false)]), (1001, .rows 1 (st.seen.map boolRow)), (1002, .rows 1 (st.keys.map strRow))] (fun r h => ∃ (s : LK Str) (bad : Bool), r = int (st.keys.length : Nat) ∧ h = [(1000, .box [.d (.int .i64 t.Root), .d (.sl 3 (t.Nodes.map INode.row)), .osl 1001 1 0 s.seen.length, .osl 1002 1 0 s.keys.length, .d (.int .i64 s.deep), .d (.bool bad)]), (1001, .rows 1 (s.seen.map boolRow)), (1002, .rows 1 (s.keys.map strRow))] ∧ s.seen.length = st.seen.length ∧ s.keys.length ≤ 2000000 ∧ ((bad = false ∧ iLook t f k d rt st = some s) ∨ (bad = true ∧ iLook t f k d rt st = none))) := by
 induction f generalizing k d rt st with
 | zero => exact absurd hu (Nat.not_lt_zero _)
 | succ f ih =>
  refine con_of2 k_c_node_look_fits rfl fun C hP hmv => ?_
  unfold k_c_node_look
  refine cx_seq (cx_ops ?_)
  refine ax_q (q_mov rfl) ?_
  refine ax_nil (cx_keep rfl rfl (cx_seq (cx_ops ?_)))
  refine ax_q (q_mov rfl) ?_
  refine ax_q (q_nilck_ptr rfl) ?_
  refine ax_q (q_fadr_ptr rfl) ?_
  refine ax_q (q_load1_ptr rfl rfl rfl) ?_
  first | refine ax_q (q_lenS_map rfl) ?_ | refine ax_q (q_lenS_osl rfl) ?_
  refine ax_q (q_mov rfl) ?_
  refine ax_nil (cx_keep rfl rfl (cx_seq (cx_seq (cx_ops ?_))))
  refine ax_q (q_mov rfl) ?_
  refine ax_q (q_nilck_ptr rfl) ?_
  refine ax_q (q_fadr_ptr rfl) ?_
  refine ax_q (q_load1_ptr rfl rfl rfl) ?_
  refine ax_q (q_mov rfl) ?_
  apply ax_or rfl rfl
  ·
   intro g
   refine ax_q (q_mov rfl) ?_
   refine ax_q (q_mov rfl) ?_
   refine ax_q (q_nilck_ptr rfl) ?_
   refine ax_q (q_fadr_ptr rfl) ?_
   refine ax_q (q_fadr_ptr rfl) ?_
   refine ax_q (q_load1_ptr rfl rfl rfl) ?_
   refine ax_q (q_lenS_map rfl) ?_
   refine ax_call rfl (vc_pure0 (c_isPlace  ?_) hP rfl rfl ?_)
   ·
    first | assumption | omega
   refine ax_q (q_not rfl) ?_
   exact ax_nil ⟨rfl, by repeat constructor⟩
  refine ax_q (q_mov rfl) ?_
  apply ax_or rfl rfl
  ·
   intro g
   have g := (fun h => And.intro (id (or_F h).1) (bF (or_F h).2)) g
   have hq := inR_iff.1 (show inR k 0 ((t.Nodes.length : Int) - 1) = true from by simpa using g)
   have q2 : k.toNat < st.seen.length := by omega
   refine ax_q (q_mov rfl) ?_
   refine ax_q (q_nilck_ptr rfl) ?_
   refine ax_q (q_fadr_ptr rfl) ?_
   refine ax_q (q_load1_ptr rfl rfl rfl) ?_
   refine ax_q (q_mov rfl) ?_
   refine ax_q (q_ixoI rfl rfl (by omega) q2) ?_
   refine ax_q (q_load1_rptr (r := boolRow (st.seen.getD k.toNat true)) rfl rfl (boolD q2) rfl) ?_
   exact ax_nil ⟨rfl, by repeat constructor⟩
  refine ax_nil (cx_keep rfl rfl ?_)
  refine cx_cond rfl (fun h0 => ?_) (fun h0 => ?_)
  ·
   have hF : ¬ Fresh t k st.seen := of_decide_eq_false (bT (fresh_or.symm.trans h0))
   refine cx_seq (cx_ops ?_)
   refine ax_q (q_mov rfl) ?_
   refine ax_q (q_nilck_ptr rfl) ?_
   refine ax_q (q_fadr_ptr rfl) ?_
   refine ax_e (e_st rfl rfl rfl rfl rfl rfl rfl) ?_
   refine ax_nil (cx_keep rfl rfl (cx_seq (cx_ops ?_)))
   refine ax_q (q_mov rfl) ?_
   refine ax_q (q_mov rfl) ?_
   refine ax_nil (cx_keep rfl rfl ?_)
   refine cx_ret (retN id [1000, 1001, 1002] rfl rfl rfl rfl rfl ?_)
   exact ⟨st, true, rfl, rfl, rfl, by omega, .inr ⟨rfl, iLook_no hF⟩⟩
  ·
   have hF : Fresh t k st.seen := of_decide_eq_true (bF (fresh_or.symm.trans h0))
   obtain ⟨n, hN⟩ := fresh_node hF
   obtain ⟨q2, q3⟩ := unseen_set hF.2
   have hk0 := hF.1
   have w1 := hT.ks n hN.mem
   have w2 := hT.kd n hN.mem
   have hL := iLook_at (f := f) (d := d) (r := rt) hF hN
   refine cx_skip ?_
   refine cx_keep rfl rfl (cx_seq (cx_ops ?_))
   refine ax_q (q_mov rfl) ?_
   refine ax_q (q_nilck_ptr rfl) ?_
   refine ax_q (q_fadr_ptr rfl) ?_
   refine ax_q (q_load1_ptr rfl rfl rfl) ?_
   refine ax_q (q_mov rfl) ?_
   refine ax_q (q_ixoI rfl rfl (by omega) q2) ?_
   refine ax_e (e_str (rs' := (st.seen.set k.toNat true).map boolRow) (row := boolRow (st.seen.getD k.toNat true)) (q := boolRow true) rfl rfl rfl rfl rfl rfl (boolD q2) rfl rfl List.map_set.symm) ?_
   refine ax_nil (cx_keep rfl rfl (cx_seq (cx_ops ?_)))
   refine ax_q (q_mov rfl) ?_
   refine ax_q (q_nilck_ptr rfl) ?_
   refine ax_q (q_fadr_ptr rfl) ?_
   refine ax_q (q_fadr_ptr rfl) ?_
   refine ax_q (q_load1_ptr rfl rfl rfl) ?_
   refine ax_q (q_mov rfl) ?_
   refine ax_q (q_ixI rfl rfl (by omega) hN.row) ?_
   first | refine ax_q (q_ldN rfl rfl rfl) ?_ | refine ax_q (q_loadN_ip rfl (Nat.le_refl _)) ?_
   refine ax_e (e_alloc (by decide) rfl rfl) ?_
   refine ax_e (e_st rfl rfl rfl rfl rfl rfl rfl) ?_
   refine ax_nil (cx_keep rfl rfl (cx_seq (cx_seq (cx_ops ?_))))
   refine ax_q (q_fadr_ptr rfl) ?_
   refine ax_q (q_load1_ptr rfl rfl rfl) ?_
   refine ax_nil (cx_keep rfl rfl ?_)
   refine cx_cond rfl (fun h1 => ?_) (fun h1 => ?_)
   ·
    have h1 : n.Leaf = true := h1
    rw [if_pos h1] at hL
    refine cx_seq (cx_ops ?_)
    refine ax_q (q_mov rfl) ?_
    refine ax_q (q_fadr_ptr rfl) ?_
    refine ax_q (q_load1_ptr rfl rfl rfl) ?_
    refine ax_q (q_lenS_map rfl) ?_
    refine ax_q (q_ibin rfl rfl rfl) ?_
    refine ax_q (q_mov rfl) ?_
    apply ax_or rfl rfl
    ·
     intro g
     have g := dF g
     refine ax_q (q_fadr_ptr rfl) ?_
     refine ax_q (q_load1_ptr rfl rfl rfl) ?_
     refine ax_q (q_lenS_map rfl) ?_
     refine ax_q (q_ibin rfl rfl rfl) ?_
     exact ax_nil ⟨rfl, by repeat constructor⟩
    refine ax_q (q_mov rfl) ?_
    apply ax_or rfl rfl
    ·
     intro g
     have g := (fun h => And.intro (dF (or_F h).1) (dF (or_F h).2)) g
     refine ax_q (q_fadr_ptr rfl) ?_
     refine ax_q (q_load1_ptr rfl rfl rfl) ?_
     refine ax_q (q_lenS_map rfl) ?_
     refine ax_q (q_ibin rfl rfl rfl) ?_
     refine ax_q (q_mov rfl) ?_
     apply ax_and rfl rfl
     ·
      intro g
      have g := dT g
      refine ax_q (q_mov rfl) ?_
      refine ax_q (q_not rfl) ?_
      exact ax_nil ⟨rfl, by repeat constructor⟩
     exact ax_nil ⟨rfl, by repeat constructor⟩
    refine ax_q (q_mov rfl) ?_
    apply ax_or rfl rfl
    ·
     intro g
     have g := (fun h => And.intro ((fun h => And.intro (dF (or_F h).1) (dF (or_F h).2)) (or_F h).1) ((fun h => (and_F h).imp dF bF) (or_F h).2)) g
     refine ax_q (q_mov rfl) ?_
     refine ax_q (q_nilck_ptr rfl) ?_
     refine ax_q (q_fadr_ptr rfl) ?_
     refine ax_q (q_load1_ptr rfl rfl rfl) ?_
     refine ax_q (q_ibin rfl rfl rfl) ?_
     refine ax_q (q_mov rfl) ?_
     apply ax_and rfl rfl
     ·
      intro g
      have g := nT g
      refine ax_q (q_mov rfl) ?_
      refine ax_q (q_nilck_ptr rfl) ?_
      refine ax_q (q_fadr_ptr rfl) ?_
      refine ax_q (q_load1_ptr rfl rfl rfl) ?_
      refine ax_q (q_mov rfl) ?_
      refine ax_q (q_ibin rfl rfl rfl) ?_
      exact ax_nil ⟨rfl, by repeat constructor⟩
     exact ax_nil ⟨rfl, by repeat constructor⟩
    rw [leaf_bad]
    refine ax_q (q_nilck_ptr rfl) ?_
    refine ax_q (q_fadr_ptr rfl) ?_
    refine ax_e (e_st rfl rfl rfl rfl rfl rfl rfl) ?_
    refine ax_nil (cx_keep rfl rfl (cx_seq (cx_ops ?_)))
    refine ax_q (q_mov rfl) ?_
    refine ax_q (q_mov rfl) ?_
    refine ax_q (q_nilck_ptr rfl) ?_
    refine ax_q (q_fadr_ptr rfl) ?_
    refine ax_e (e_st rfl rfl rfl rfl rfl rfl rfl) ?_
    refine ax_nil (cx_keep rfl rfl (cx_seq ?_))
    refine cx_drawL 7 112 (Nat.beq 1002) (nrA 1002) [] ([(1002, .rows 1 ((st.keys ++ n.Keys).map strRow))]) [[0], [0], [106], [107], [108], [10], [110], [109, 111]] [[1002, 1000], [], [], [], [], [], [], [1002, 1000]] rfl ?_
    first | refine ⟨_, .inr ⟨rfl, _, rfl, .inr ⟨rfl, rfl, .inr rfl, rfl, rfl⟩, loc_q (q_mov rfl)⟩, ?_⟩
    first | refine ⟨_, .inr ⟨rfl, _, rfl, .inl rfl, loc_q (q_mov rfl)⟩, ?_⟩
    refine ⟨_, .inr ⟨rfl, _, rfl, .inl rfl, loc_q (q_nilck_ptr rfl)⟩, ?_⟩
    refine ⟨_, .inr ⟨rfl, _, rfl, .inl rfl, loc_q (q_fadr_ptr rfl)⟩, ?_⟩
    refine ⟨_, .inr ⟨rfl, _, rfl, .inl rfl, loc_q (q_load1_ptr rfl rfl rfl)⟩, ?_⟩
    first | refine ⟨_, .inr ⟨rfl, _, rfl, .inl rfl, loc_q (q_fadr_ptr rfl)⟩, ?_⟩
    first | refine ⟨_, .inr ⟨rfl, _, rfl, .inl rfl, loc_q (q_load1_ptr rfl rfl rfl)⟩, ?_⟩
    refine ⟨⟨112, _, []⟩, .inl ⟨rfl, rfl, rfl, locl_app (n' := (st.keys ++ n.Keys).length) (rs' := (st.keys ++ n.Keys).map strRow) rfl rfl (by simp) rfl (fun _ _ h => src_sl 1 _) (.inr (by rw [hmv]; rfl)) (hbnd (by omega) (by rw [List.length_map]; omega) (by decide)) (by simp) app_all⟩, ?_⟩
    refine ⟨rfl, ?_⟩
    refine ax_q (q_nilck_ptr rfl) ?_
    refine ax_q (q_fadr_ptr rfl) ?_
    refine ax_e (e_st rfl rfl rfl rfl rfl rfl rfl) ?_
    refine ax_nil (cx_keep rfl rfl (cx_seq (cx_ops ?_)))
    refine ax_q (q_mov rfl) ?_
    refine ax_q (q_mov rfl) ?_
    refine ax_nil (cx_keep rfl rfl ?_)
    refine cx_ret (retN id [1000, 1001, 1002] rfl rfl rfl rfl rfl ?_)
    refine ⟨⟨(st.seen.set k.toNat true), st.keys ++ n.Keys, d⟩, !decide (LeafOK n rt st.deep d), rfl, ?_, by simp, by simp; omega, ?_⟩
    ·
     simp only [List.length_set]; rfl
    ·
     by_cases hO : LeafOK n rt st.deep d
     ·
      exact .inl ⟨by rw [decide_eq_true hO]; rfl, by rw [hL, if_pos hO]⟩
     ·
      exact .inr ⟨by rw [decide_eq_false hO]; rfl, by rw [hL, if_neg hO]⟩
   ·
    have h1 : n.Leaf = false := h1
    rw [if_neg (by rw [h1]; simp)] at hL
    refine cx_skip ?_
    refine cx_keep rfl rfl (cx_seq (cx_seq (cx_ops ?_)))
    refine ax_q (q_mov rfl) ?_
    refine ax_q (q_fadr_ptr rfl) ?_
    refine ax_q (q_load1_ptr rfl rfl rfl) ?_
    refine ax_q (q_lenS_map rfl) ?_
    refine ax_q (q_ibin rfl rfl rfl) ?_
    refine ax_q (q_mov rfl) ?_
    apply ax_or rfl rfl
    ·
     intro g
     have g := dF g
     refine ax_q (q_fadr_ptr rfl) ?_
     refine ax_q (q_load1_ptr rfl rfl rfl) ?_
     refine ax_q (q_lenS_map rfl) ?_
     refine ax_q (q_fadr_ptr rfl) ?_
     refine ax_q (q_load1_ptr rfl rfl rfl) ?_
     refine ax_q (q_lenS_map rfl) ?_
     refine ax_q (q_add rfl rfl (by omega)) ?_
     refine ax_q (q_ibin rfl rfl rfl) ?_
     exact ax_nil ⟨rfl, by repeat constructor⟩
    refine ax_q (q_mov rfl) ?_
    apply ax_or rfl rfl
    ·
     intro g
     have g := (fun h => And.intro (dF (or_F h).1) (nF (or_F h).2)) g
     refine ax_q (q_fadr_ptr rfl) ?_
     refine ax_q (q_load1_ptr rfl rfl rfl) ?_
     refine ax_q (q_lenS_map rfl) ?_
     refine ax_q (q_ibin rfl rfl rfl) ?_
     exact ax_nil ⟨rfl, by repeat constructor⟩
    rw [inn_bad]
    refine ax_q (q_nilck_ptr rfl) ?_
    refine ax_q (q_fadr_ptr rfl) ?_
    refine ax_e (e_st rfl rfl rfl rfl rfl rfl rfl) ?_
    refine ax_nil (cx_keep rfl rfl (cx_seq (cx_ops ?_)))
    refine ax_q (q_mov rfl) ?_
    refine ax_q (q_nilck_ptr rfl) ?_
    refine ax_q (q_fadr_ptr rfl) ?_
    refine ax_q (q_load1_ptr rfl rfl rfl) ?_
    refine ax_nil (cx_keep rfl rfl ?_)
    refine cx_cond rfl (fun h2 => ?_) (fun h2 => ?_)
    ·
     rw [h2]
     have hI : ¬ InnOK n := of_decide_eq_false (bT h2)
     rw [if_neg hI] at hL
     refine cx_seq (cx_ops ?_)
     refine ax_q (q_mov rfl) ?_
     refine ax_q (q_mov rfl) ?_
     refine ax_nil (cx_keep rfl rfl ?_)
     refine cx_ret (retN id [1000, 1001, 1002] rfl rfl rfl rfl rfl ?_)
     refine ⟨⟨(st.seen.set k.toNat true), st.keys, st.deep⟩, true, rfl, ?_, by simp, by simp only; omega, .inr ⟨rfl, hL⟩⟩
     simp only [List.length_set]; rfl
    ·
     rw [h2]
     have hI : InnOK n := of_decide_eq_true (bF h2)
     rw [if_pos hI] at hL
     have hI1 := hI.1
     have hI2 := hI.2.1
     obtain ⟨mt1, mt2⟩ := mono_tick0 hF.2
     have mt3 := mt1.kb
     simp only at mt3
     refine cx_skip ?_
     refine cx_keep rfl rfl (cx_seq (cx_seq (cx_ops ?_)))
     refine ax_q (q_fadr_ptr rfl) ?_
     refine ax_q (q_load1_ptr rfl rfl rfl) ?_
     refine ax_q (q_lenS_map rfl) ?_
     refine ax_q (q_mov rfl) ?_
     refine ax_nil (cx_keep rfl rfl (cx_block ?_))
     generalize hR0 : iKids _ n.Keys 0 n.Kids _ = R0 at hL
     refine cx_loopU (fun m (p : Nat × LK Str) => p.1 ≤ n.Kids.length ∧ m = n.Kids.length - p.1 ∧ p.2.seen.length = st.seen.length ∧ unseen p.2.seen < f ∧ d + 1 + unseen p.2.seen ≤ 300 ∧ p.2.keys.length + 4 * unseen p.2.seen ≤ 1000 ∧ iKids (fun k st => iLook t f k (d + 1) false st) n.Keys p.1 (n.Kids.drop p.1) p.2 = R0) (fun p => [(147, int p.1)]) (fun p => (10, .box [.d (.bool n.Leaf), .d (.sl 1 (n.Keys.map strRow)), .d (.sl 1 (n.Kids.map intRow))]) :: [(1000, .box [.d (.int .i64 t.Root), .d (.sl 3 (t.Nodes.map INode.row)), .osl 1001 1 0 p.2.seen.length, .osl 1002 1 0 p.2.keys.length, .d (.int .i64 p.2.deep), .d (.bool false)]), (1001, .rows 1 (p.2.seen.map boolRow)), (1002, .rows 1 (p.2.keys.map strRow))])
      ⟨_, (0, ⟨(st.seen.set k.toNat true), st.keys, st.deep⟩), ⟨Nat.zero_le _, rfl, by simp, by simp only; omega, by simp only; omega, by simp only; omega, hR0⟩, by simp only [List.length_set]; exact (by repeat constructor)⟩ ?_
     rintro m ⟨i, s⟩ ⟨hi, rfl, hsl, hsu, hsd, hsk, hR⟩
     simp only at hi hsl hsu hsd hsk hR ⊢
     refine cx_seq (cx_ops ?_)
     refine ax_q (q_ibin rfl rfl rfl) ?_
     refine ax_nil (cx_keep rfl rfl (cx_seq ?_))
     refine cx_cond rfl (fun h3 => ?_) (fun h3 => ?_)
     ·
      have h3 := dT h3
      have h3x : i < n.Kids.length := by omega
      refine cx_skip ?_
      refine cx_keep rfl rfl (cx_seq (cx_block (cx_seq (cx_ops ?_))))
      refine ax_q (q_mov rfl) ?_
      refine ax_q (q_ix rfl rfl (mapAt h3x)) ?_
      first | refine ax_q (q_load1_ptr rfl rfl rfl) ?_ | refine ax_q (q_load1_ip rfl) ?_
      refine ax_q (q_mov rfl) ?_
      refine ax_q (q_mov rfl) ?_
      refine ax_nil (cx_keep rfl rfl (cx_seq (cx_ops ?_)))
      refine ax_q (q_mov rfl) ?_
      refine ax_q (q_mov rfl) ?_
      refine ax_q (q_mov rfl) ?_
      refine ax_qe (r' := int ((d + 1 : Nat) : Int)) (q_ibin rfl rfl rfl) (by rw [wi (by omega) (by omega)]; rfl) ?_
      refine ax_call rfl (vcall_own (ih (k := n.Kids[i]) (d := d + 1) (rt := false) (st := s) (by omega) (by omega) (by omega) (by omega)) hP hmv false (fun e => bif Nat.beq e 1000 then 1000 else bif Nat.beq e 1001 then 1001 else 1002) [1000, 1001, 1002] ⟨rfl, rfl, rfl, rfl, ⟨rfl, rfl, rfl, trivial⟩, rfl, rfl, rfl⟩ (.pass rfl rfl (.pass rfl rfl (.pass rfl rfl (.pass rfl rfl .nil)))) ?_)
      rintro r h ⟨s2, bad, rfl, rfl, hsl2, hkl2, hor⟩
      refine ⟨(fun e => bif Nat.beq e 1000 then 1000 else bif Nat.beq e 1001 then 1001 else 1002), [], ⟨rfl, rfl, rfl, rfl, mem3 rfl rfl rfl, rfl, rfl, fun h => absurd h Bool.false_ne_true⟩, ?_⟩
      obtain ⟨hS1, hS2⟩ := iKids_s (rec := fun k st => iLook t f k (d + 1) false st) (keys := n.Keys) (i := i) h3x hor
      refine ax_q (q_mov rfl) ?_
      refine ax_nil (cx_keep rfl rfl (cx_seq (cx_draw ?_)))
      refine ax_q (q_mov rfl) ?_
      refine ax_q (q_nilck_ptr rfl) ?_
      refine ax_q (q_fadr_ptr rfl) ?_
      refine ax_q (q_load1_ptr rfl rfl rfl) ?_
      refine ax_q (q_mov rfl) ?_
      apply ax_or rfl rfl
      ·
       intro g
       have hbf : bad = false := by simpa using g
       have hlk := (hor.resolve_right (fun q => by rw [q.1] at hbf; cases hbf)).2
       obtain ⟨mm1, mm2, mm3⟩ := iLook_mono hlk
       have mm3 := mm3 rfl
       refine ax_q (q_mov rfl) ?_
       refine ax_q (q_ibin rfl rfl rfl) ?_
       refine ax_q (q_mov rfl) ?_
       apply ax_and rfl rfl
       ·
        intro g
        have g := dT g
        refine ax_q (q_mov rfl) ?_
        refine ax_q (q_nilck_ptr rfl) ?_
        refine ax_q (q_fadr_ptr rfl) ?_
        refine ax_q (q_load1_ptr rfl rfl rfl) ?_
        refine ax_q (q_mov rfl) ?_
        refine ax_q (q_ixo rfl rfl (by omega)) ?_
        refine ax_q (q_load1_rptr (r := strRow (s2.keys.getD s.keys.length [])) rfl rfl (strD (by omega)) rfl) ?_
        refine ax_q (q_fadr_ptr rfl) ?_
        refine ax_q (q_load1_ptr rfl rfl rfl) ?_
        refine ax_q (q_mov rfl) ?_
        refine ax_qe (r' := int ((i - 1 : Nat) : Int)) (q_ibin rfl rfl rfl) (by rw [wi (by omega) (by omega)]; exact congrArg AM.int (by omega)) ?_
        refine ax_q (q_ix (row := strRow (n.Keys.getD (i - 1) [])) rfl rfl (strD (by omega))) ?_
        first | refine ax_q (q_load1_ptr rfl rfl rfl) ?_ | refine ax_q (q_load1_ip rfl) ?_
        refine ax_q (q_sbin rfl rfl rfl) ?_
        exact ax_nil ⟨rfl, by repeat constructor⟩
       exact ax_nil ⟨rfl, by repeat constructor⟩
      refine ax_nil (cx_keep rfl rfl ?_)
      refine cx_cond rfl (fun h4 => ?_) (fun h4 => ?_)
      ·
       have hRn := hS1 h4
       rw [hR] at hRn
       refine cx_seq (cx_ops ?_)
       refine ax_q (q_mov rfl) ?_
       refine ax_q (q_nilck_ptr rfl) ?_
       refine ax_q (q_fadr_ptr rfl) ?_
       refine ax_e (e_st rfl rfl rfl rfl rfl rfl rfl) ?_
       refine ax_nil (cx_keep rfl rfl (cx_seq (cx_ops ?_)))
       refine ax_q (q_mov rfl) ?_
       refine ax_q (q_mov rfl) ?_
       refine ax_nil (cx_keep rfl rfl ?_)
       refine cx_ret (retN id [1000, 1001, 1002] rfl rfl rfl rfl rfl ?_)
       exact ⟨s2, true, rfl, rfl, by omega, hkl2, .inr ⟨rfl, by rw [hL, hRn]⟩⟩
      ·
       obtain ⟨rfl, hlk, hS3⟩ := hS2 h4
       obtain ⟨mm1, mm2, mm3⟩ := iLook_mono hlk
       have mm4 := mm1.kb
       have mm5 := mm1.sl
       refine cx_skip ?_
       refine cx_keep rfl rfl (cx_ops ?_)
       refine ax_qe (r' := int ((i + 1 : Nat) : Int)) (q_ibin rfl rfl rfl) (by rw [wi (by omega) (by omega)]; rfl) ?_
       refine ax_q (q_mov rfl) ?_
       refine ax_nil ?_
       exact ⟨_, (i + 1, s2), by simp only; omega, ⟨by simp only; omega, rfl, by simp only; omega, by simp only; omega, by simp only; omega, by simp only; omega, hS3.symm.trans hR⟩, by repeat constructor⟩
     ·
      have h3 := dF h3
      have h3x : i = n.Kids.length := by omega
      subst h3x
      rw [List.drop_length] at hR
      refine cx_exit rfl ?_
      refine cx_keep rfl rfl (cx_seq (cx_ops ?_))
      refine ax_q (q_mov rfl) ?_
      refine ax_q (q_mov rfl) ?_
      refine ax_nil (cx_keep rfl rfl ?_)
      refine cx_ret (retN id [1000, 1001, 1002] rfl rfl rfl rfl rfl ?_)
      exact ⟨s, false, rfl, rfl, hsl, by omega, .inl ⟨rfl, by rw [hL, ← hR]; rfl⟩⟩


/- slices.Index[[]bool,bool] -/
def k_c_Index_Bool : XCode :=
 .seq (.ops [.op (some 4) (.mov (.k (.int .i64 0)))])
 (.keep [0, 1] (.seq (.seq (.ops [.op (some 6) (.mov (.t 0)),
   .op (some 7) (.lenS (.t 6)),
   .op (some 8) (.mov (.k (.int .i64 0)))])
  (.keep [0, 1, 7, 8] (.block 0 (.loop (.seq (.ops [.op (some 9) (.bin .lss (.t 8) (.t 7))])
   (.keep [0, 1, 7, 8, 9] (.seq (.cond (.t 9)
    (.skip)
    (.exit 0))
   (.keep [0, 1, 7, 8] (.seq (.block 1 (.seq (.ops [.op (some 10) (.mov (.t 8)),
     .op (some 5) (.mov (.t 10))])
    (.keep [0, 1, 5, 7, 8] (.seq (.ops [.op (some 11) (.mov (.t 1)),
     .op (some 12) (.mov (.t 0)),
     .op (some 13) (.mov (.t 5)),
     .op (some 14) (.iadr 1 (.t 12) (.t 13)),
     .op (some 15) (.load1 (.t 14)),
     .op (some 16) (.eqb false (.t 11) (.t 15))])
    (.keep [0, 1, 5, 7, 8, 16] (.cond (.t 16)
    (.seq (.ops [.op (some 17) (.mov (.t 5)),
      .op (some 4) (.mov (.t 17))])
     (.keep [4] (.ret)))
    (.skip)))))))
   (.keep [0, 1, 7, 8] (.ops [.op (some 18) (.bin .add (.t 8) (.k (.int .i64 1))),
    .op (some 8) (.mov (.t 18))])))))))))))
 (.keep [] (.seq (.ops [.op (some 4) (.mov (.k (.int .i64 (-1))))])
 (.keep [4] (.ret))))))
theorem k_c_Index_Bool_fits : fitsF Try.prog 66 ⟨19, k_c_Index_Bool, [.t 4]⟩ = true := by kernel_rfl
theorem c_Index_Bool {xs : List Bool} {v : Bool} (hw : xs.length ≤ 9223372036854775807) : Con Try.prog noMv 66 [.d (.sl 1 (xs.map boolRow)), bool v] [] (fun r h => r = int (idxOf (fun s => eqb v s) xs 0) ∧ h = []) := by
 refine con_of2 k_c_Index_Bool_fits rfl fun C hP hmv => ?_
 unfold k_c_Index_Bool
 refine cx_seq (cx_ops ?_)
 refine ax_q (q_mov rfl) ?_
 refine ax_nil (cx_keep rfl rfl (cx_seq (cx_seq (cx_ops ?_))))
 refine ax_q (q_mov rfl) ?_
 refine ax_q (q_lenS_map rfl) ?_
 refine ax_q (q_mov rfl) ?_
 refine ax_nil (cx_keep rfl rfl (cx_block ?_))
 refine cx_loopU (fun n k => k ≤ xs.length ∧ n = xs.length - k ∧ ∀ i, i < k → ∀ x, xs[i]? = some x → (fun s => eqb v s) x = false) (fun k : Nat => [(8, int k)]) (fun _ => []) ⟨_, 0, ⟨by omega, rfl, fun i hi => by omega⟩, by repeat constructor⟩ ?_
 rintro n k ⟨hk, rfl, ht⟩
 refine cx_seq (cx_ops ?_)
 refine ax_q (q_ibin rfl rfl rfl) ?_
 refine ax_nil (cx_keep rfl rfl (cx_seq ?_))
 refine cx_cond rfl (fun h0 => ?_) (fun h0 => ?_)
 ·
  have h0 := dT h0
  have h0x : k < xs.length := by omega
  refine cx_skip ?_
  refine cx_keep rfl rfl (cx_seq (cx_block (cx_seq (cx_ops ?_))))
  refine ax_q (q_mov rfl) ?_
  refine ax_q (q_mov rfl) ?_
  refine ax_nil (cx_keep rfl rfl (cx_seq (cx_ops ?_)))
  refine ax_q (q_mov rfl) ?_
  refine ax_q (q_mov rfl) ?_
  refine ax_q (q_mov rfl) ?_
  refine ax_q (q_ix rfl rfl (mapAt h0x)) ?_
  first | refine ax_q (q_load1_ptr rfl rfl rfl) ?_ | refine ax_q (q_load1_ip rfl) ?_
  refine ax_q (q_eqb rfl rfl) ?_
  refine ax_nil (cx_keep rfl rfl ?_)
  refine cx_cond rfl (fun h1 => ?_) (fun h1 => ?_)
  ·
   have h1 : eqb v xs[k] = true := eqb_t (dT h1)
   refine cx_seq (cx_ops ?_)
   refine ax_q (q_mov rfl) ?_
   refine ax_q (q_mov rfl) ?_
   refine ax_nil (cx_keep rfl rfl ?_)
   refine cx_ret (ret0 rfl rfl ?_)
   exact ⟨by rw [idxOf_hit h0x ht h1]; rfl, rfl⟩
  ·
   have h1 : eqb v xs[k] = false := eqb_f (dF h1)
   refine cx_skip ?_
   refine cx_keep rfl rfl (cx_ops ?_)
   refine ax_qe (r' := int ((k + 1 : Nat) : Int)) (q_ibin rfl rfl rfl) (by rw [wi (by omega) (by omega)]; rfl) ?_
   refine ax_q (q_mov rfl) ?_
   refine ax_nil ?_
   exact ⟨_, k + 1, by omega, ⟨by omega, rfl, before_step h0x ht h1⟩, by repeat constructor⟩
 ·
  have h0 := dF h0
  have h0x : k = xs.length := by omega
  refine cx_exit rfl ?_
  refine cx_keep rfl rfl (cx_seq (cx_ops ?_))
  refine ax_q (q_mov rfl) ?_
  refine ax_nil (cx_keep rfl rfl ?_)
  refine cx_ret (ret0 rfl rfl ?_)
  exact ⟨by rw [idxOf_none (fun i hi => ht i (by omega))]; rfl, rfl⟩


/- slices.Contains[[]bool,bool] -/
def k_c_Contains_Bool : XCode :=
 .seq (.ops [.op (some 4) (.mov (.k (.bool false)))])
 (.keep [0, 1] (.seq (.ops [.op (some 5) (.mov (.t 0)),
   .op (some 6) (.mov (.t 1)),
   .call (some 7) 66 [.t 5, .t 6],
   .op (some 8) (.bin .geq (.t 7) (.k (.int .i64 0))),
   .op (some 4) (.mov (.t 8))])
 (.keep [4] (.ret))))
theorem k_c_Contains_Bool_fits : fitsF Try.prog 57 ⟨9, k_c_Contains_Bool, [.t 4]⟩ = true := by kernel_rfl
theorem c_Contains_Bool {xs : List Bool} {v : Bool} (hw : xs.length ≤ 9223372036854775807) : Con Try.prog noMv 57 [.d (.sl 1 (xs.map boolRow)), bool v] [] (fun r h => r = bool (xs.any (fun s => eqb v s)) ∧ h = []) := by
 refine con_of2 k_c_Contains_Bool_fits rfl fun C hP hmv => ?_
 unfold k_c_Contains_Bool
 refine cx_seq (cx_ops ?_)
 refine ax_q (q_mov rfl) ?_
 refine ax_nil (cx_keep rfl rfl (cx_seq (cx_ops ?_)))
 refine ax_q (q_mov rfl) ?_
 refine ax_q (q_mov rfl) ?_
 refine ax_call rfl (vc_pure0 (c_Index_Bool (v := v) ?_) hP rfl rfl ?_)
 ·
  assumption
 refine ax_qe (r' := bool (xs.any (fun s => eqb v s))) (q_ibin rfl rfl rfl) (congrArg AM.bool any_idxOf) ?_
 refine ax_q (q_mov rfl) ?_
 refine ax_nil (cx_keep rfl rfl ?_)
 refine cx_ret (ret0 rfl rfl ?_)
 exact ⟨rfl, rfl⟩

end Go.Proofs.Ytenfhamolacdaaa
