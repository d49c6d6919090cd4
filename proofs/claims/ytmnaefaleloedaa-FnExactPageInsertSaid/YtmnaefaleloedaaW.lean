/- The walks: what each function of the pages computes, as a contract without a world. -/
import Derived.Test.YtmnaefaleloedaaProg
import Derived.Test.YtmnaefaleloedaaC
namespace Go.Proofs.Ytmnaefaleloedaa
open Go Go.AM
set_option maxRecDepth 10000
set_option linter.unusedVariables false
/- loop.example/g00332/laws.szStringS -/
def k_c_szStringS : XCode :=
  .seq (.ops [.op (some 4) (.mov (.k (.int .i64 0)))])
  (.keep [0, 1] (.seq (.ops [.op (some 6) (.mov (.t 1)),
     .op (some 7) (.mov (.t 0)),
     .op (some 8) (.lenS (.t 7)),
     .op (some 9) (.bin .sub (.t 6) (.t 8)),
     .op (some 1) (.mov (.t 9))])
  (.keep [0, 1] (.seq (.seq (.ops [.op (some 10) (.mov (.t 1)),
      .op (some 11) (.bin .lss (.t 10) (.k (.int .i64 0)))])
   (.keep [0, 1, 11] (.cond (.t 11)
    (.seq (.ops [.op (some 4) (.mov (.k (.int .i64 (-1))))])
     (.keep [4] (.ret)))
    (.skip))))
  (.keep [0, 1] (.seq (.seq (.ops [.op (some 5) (.mov (.k (.int .i64 0)))])
   (.keep [0, 1, 5] (.block 0 (.loop (.seq (.seq (.ops [.op (some 12) (.mov (.t 5)),
         .op (some 13) (.mov (.t 0)),
         .op (some 14) (.lenS (.t 13)),
         .op (some 15) (.bin .lss (.t 12) (.t 14))])
      (.keep [0, 1, 5, 15] (.cond (.t 15)
       (.skip)
       (.exit 0))))
     (.keep [0, 1, 5] (.seq (.block 1 (.seq (.ops [.op (some 18) (.mov (.t 1)),
          .op (some 19) (.mov (.t 0)),
          .op (some 20) (.mov (.t 5)),
          .op (some 21) (.iadr 1 (.t 19) (.t 20)),
          .op (some 22) (.load1 (.t 21)),
          .op (some 23) (.lenT (.t 22)),
          .op (some 24) (.bin .sub (.t 18) (.t 23)),
          .op (some 1) (.mov (.t 24))])
       (.keep [0, 1, 5] (.seq (.ops [.op (some 25) (.mov (.t 1)),
          .op (some 26) (.bin .lss (.t 25) (.k (.int .i64 0)))])
       (.keep [0, 1, 5, 26] (.cond (.t 26)
        (.seq (.ops [.op (some 4) (.mov (.k (.int .i64 (-1))))])
         (.keep [4] (.ret)))
        (.skip)))))))
     (.keep [0, 1, 5] (.ops [.op (some 16) (.mov (.t 5)),
       .op (some 17) (.bin .add (.t 16) (.k (.int .i64 1))),
       .op (some 5) (.mov (.t 17))])))))))))
  (.keep [1] (.seq (.ops [.op (some 27) (.mov (.t 1)),
     .op (some 4) (.mov (.t 27))])
  (.keep [4] (.ret))))))))))
theorem k_c_szStringS_fits : fitsF Try.prog 14 ⟨28, k_c_szStringS, [.t 4]⟩ = true := by kernel_rfl
theorem c_szStringS {xs : List Str} {left : Int} (h0 : 0 ≤ left) (hl : left ≤ 1048576) (hw : wfStrs xs) : Con Try.prog noMv 14 [.d (strs xs), int left] [] (fun r h => r = int (szF left (szStrs xs)) ∧ h = []) := by
  refine con_of2 k_c_szStringS_fits rfl fun C hP hmv => ?_
  unfold k_c_szStringS
  have hw1 := hw.1; have hw2 := hw.2
  refine cx_seq ?_
  refine cx_ops ?_
  refine ax_q (q_mov rfl) ?_
  refine ax_nil ?_
  refine cx_keep rfl rfl ?_
  refine cx_seq ?_
  refine cx_ops ?_
  refine ax_q (q_mov rfl) ?_
  refine ax_q (q_mov rfl) ?_
  first | refine ax_q (q_lenS rfl) ?_ | refine ax_q (q_lenS_osl rfl) ?_ | refine ax_q (q_lenS_zs rfl) ?_
  refine ax_qe (r' := int (left - xs.length)) (q_ibin rfl rfl rfl) (by rw [strs_len]; exact wi (by omega) (by omega)) ?_
  refine ax_q (q_mov rfl) ?_
  refine ax_nil ?_
  refine cx_keep rfl rfl ?_
  refine cx_seq ?_
  refine cx_seq ?_
  refine cx_ops ?_
  refine ax_q (q_mov rfl) ?_
  first | refine ax_q (q_ibin rfl rfl rfl) ?_ | refine ax_q (q_sbin rfl rfl rfl) ?_
  refine ax_nil ?_
  refine cx_keep rfl rfl ?_
  refine cx_cond rfl (fun h1 => ?_) (fun h1 => ?_)
  · have h1 := of_decide_eq_true h1
    refine cx_seq ?_
    refine cx_ops ?_
    refine ax_q (q_mov rfl) ?_
    refine ax_nil ?_
    refine cx_keep rfl rfl ?_
    refine cx_ret (ret0 rfl rfl ?_)
    exact ⟨by rw [szF, if_neg (by unfold szStrs; omega)]; rfl, rfl⟩
  · have h1 := of_decide_eq_false h1
    refine cx_skip ?_
    refine cx_keep rfl rfl ?_
    refine cx_seq ?_
    refine cx_seq ?_
    refine cx_ops ?_
    refine ax_q (q_mov rfl) ?_
    refine ax_nil ?_
    refine cx_keep rfl rfl ?_
    refine cx_block ?_
    refine cx_loopU (fun n k => k ≤ xs.length ∧ n = xs.length - k ∧ 0 ≤ left - xs.length - sumL (xs.take k)) (fun k : Nat => [(1, int (left - xs.length - sumL (xs.take k))), (5, int k)]) (fun _ => [])
      ⟨_, 0, ⟨Nat.zero_le _, rfl, by simp [sumL]; omega⟩, ⟨⟨rfl, congrArg (fun n => some (int n)) (by simp only [List.take_zero, sumL]; omega), rfl, trivial⟩, trivial⟩⟩ ?_
    rintro n k ⟨hk, rfl, hs⟩
    refine cx_seq ?_
    refine cx_seq ?_
    refine cx_ops ?_
    refine ax_q (q_mov rfl) ?_
    refine ax_q (q_mov rfl) ?_
    first | refine ax_q (q_lenS rfl) ?_ | refine ax_q (q_lenS_osl rfl) ?_ | refine ax_q (q_lenS_zs rfl) ?_
    first | refine ax_q (q_ibin rfl rfl rfl) ?_ | refine ax_q (q_sbin rfl rfl rfl) ?_
    refine ax_nil ?_
    refine cx_keep rfl rfl ?_
    refine cx_cond rfl (fun h2 => ?_) (fun h2 => ?_)
    · have h2 : k < xs.length := by have := of_decide_eq_true h2; simpa using this
      refine cx_skip ?_
      refine cx_keep rfl rfl ?_
      refine cx_seq ?_
      refine cx_block ?_
      refine cx_seq ?_
      refine cx_ops ?_
      refine ax_q (q_mov rfl) ?_
      refine ax_q (q_mov rfl) ?_
      refine ax_q (q_mov rfl) ?_
      refine ax_q (q_ix rfl rfl (mapAt h2)) ?_
      first | refine ax_q (q_load1_ptr rfl rfl rfl) ?_ | refine ax_q (q_load1_ip rfl) ?_
      refine ax_q (q_lenT rfl) ?_
      refine ax_qe (r' := int (left - xs.length - sumL (xs.take (k + 1)))) (q_ibin rfl rfl rfl) (by have := hw2 _ (List.getElem_mem h2); have := sumL_take h2; rw [wi (by omega) (by omega)]; congr 2; omega) ?_
      refine ax_q (q_mov rfl) ?_
      refine ax_nil ?_
      refine cx_keep rfl rfl ?_
      refine cx_seq ?_
      refine cx_ops ?_
      have hst := sumL_take h2
      refine ax_q (q_mov rfl) ?_
      first | refine ax_q (q_ibin rfl rfl rfl) ?_ | refine ax_q (q_sbin rfl rfl rfl) ?_
      refine ax_nil ?_
      refine cx_keep rfl rfl ?_
      refine cx_cond rfl (fun h3 => ?_) (fun h3 => ?_)
      · have h3 := of_decide_eq_true h3
        refine cx_seq ?_
        refine cx_ops ?_
        refine ax_q (q_mov rfl) ?_
        refine ax_nil ?_
        refine cx_keep rfl rfl ?_
        refine cx_ret (ret0 rfl rfl ?_)
        exact ⟨by have := sumL_le xs (k + 1); rw [szF, if_neg (by unfold szStrs; omega)]; rfl, rfl⟩
      · have h3 := of_decide_eq_false h3
        refine cx_skip ?_
        refine cx_keep rfl rfl ?_
        refine cx_ops ?_
        refine ax_q (q_mov rfl) ?_
        refine ax_qe (r' := int ((k + 1 : Nat) : Int)) (q_ibin rfl rfl rfl) (by rw [wi (by omega) (by omega)]; rfl) ?_
        refine ax_q (q_mov rfl) ?_
        refine ax_nil ?_
        exact ⟨_, k + 1, by omega, ⟨by omega, rfl, by omega⟩, by repeat (first | exact trivial | refine ⟨rfl, ?_⟩ | refine ⟨?_, ?_⟩)⟩
    · have h2 : ¬ k < xs.length := by have := of_decide_eq_false h2; simpa using this
      refine cx_exit rfl ?_
      refine cx_keep rfl rfl ?_
      refine cx_seq ?_
      refine cx_ops ?_
      refine ax_q (q_mov rfl) ?_
      refine ax_q (q_mov rfl) ?_
      refine ax_nil ?_
      refine cx_keep rfl rfl ?_
      refine cx_ret (ret0 rfl rfl ?_)
      have hk2 : k = xs.length := by omega
      subst hk2; rw [List.take_length] at hs ⊢
      exact ⟨congrArg int (by rw [szF, if_pos (by unfold szStrs; omega)]; unfold szStrs; omega), rfl⟩

/- loop.example/g00332/laws.szPage -/
def k_c_szPage : XCode :=
  .seq (.ops [.op (some 2) (.box (.t 0)),
     .op (some 4) (.mov (.k (.int .i64 0)))])
  (.keep [1, 2] (.seq (.ops [.op (some 5) (.fadr (.t 2) 1),
     .op (some 6) (.load1 (.t 5)),
     .op (some 7) (.mov (.t 1)),
     .call (some 8) 14 [.t 6, .t 7],
     .op (some 1) (.mov (.t 8))])
  (.keep [1] (.seq (.seq (.ops [.op (some 9) (.mov (.t 1)),
      .op (some 10) (.bin .lss (.t 9) (.k (.int .i64 0)))])
   (.keep [1, 10] (.cond (.t 10)
    (.seq (.ops [.op (some 4) (.mov (.k (.int .i64 (-1))))])
     (.keep [4] (.ret)))
    (.skip))))
  (.keep [1] (.seq (.ops [.op (some 11) (.mov (.t 1)),
     .op (some 4) (.mov (.t 11))])
  (.keep [4] (.ret))))))))
theorem k_c_szPage_fits : fitsF Try.prog 5 ⟨12, k_c_szPage, [.t 4]⟩ = true := by kernel_rfl
theorem c_szPage {p : Page} {left : Int} (h0 : 0 ≤ left) (hl : left ≤ 1048576) (hw : wfStrs p.slots) : Con Try.prog noMv 5 [p.av, int left] [] (fun r h => r = int (szF left (szStrs p.slots)) ∧ h = []) := by
  refine con_of2 k_c_szPage_fits rfl fun C hP hmv => ?_
  unfold k_c_szPage
  refine cx_seq ?_
  refine cx_ops ?_
  refine ax_e (e_box rfl rfl (by decide) rfl rfl rfl) ?_
  refine ax_q (q_mov rfl) ?_
  refine ax_nil ?_
  refine cx_keep rfl rfl ?_
  refine cx_seq ?_
  refine cx_ops ?_
  first | refine ax_q (q_fadr_ptr rfl) ?_ | refine ax_q (q_fadr_rptr rfl) ?_ | refine ax_q (q_fadr_ip rfl) ?_
  first | refine ax_q (q_load1_ptr rfl rfl rfl) ?_ | refine ax_q (q_load1_ip rfl) ?_
  refine ax_q (q_mov rfl) ?_
  refine ax_call rfl (vc_pure0 (c_szStringS h0 hl hw) hP rfl rfl ?_)
  refine ax_q (q_mov rfl) ?_
  refine ax_nil ?_
  refine cx_keep rfl rfl ?_
  refine cx_seq ?_
  refine cx_seq ?_
  refine cx_ops ?_
  refine ax_q (q_mov rfl) ?_
  first | refine ax_q (q_ibin rfl rfl rfl) ?_ | refine ax_q (q_sbin rfl rfl rfl) ?_
  refine ax_nil ?_
  refine cx_keep rfl rfl ?_
  refine cx_cond rfl (fun h1 => ?_) (fun h1 => ?_)
  · have h1 := dT h1
    refine cx_seq ?_
    refine cx_ops ?_
    refine ax_q (q_mov rfl) ?_
    refine ax_nil ?_
    refine cx_keep rfl rfl ?_
    refine cx_ret (ret0 rfl rfl ?_)
    exact ⟨congrArg int (by unfold szF at h1 ⊢; split at h1 <;> omega), rfl⟩
  · have h1 := dF h1
    refine cx_skip ?_
    refine cx_keep rfl rfl ?_
    refine cx_seq ?_
    refine cx_ops ?_
    refine ax_q (q_mov rfl) ?_
    refine ax_q (q_mov rfl) ?_
    refine ax_nil ?_
    refine cx_keep rfl rfl ?_
    refine cx_ret (ret0 rfl rfl ?_)
    exact ⟨rfl, rfl⟩

/- loop.example/g00332/spec.l01In -/
def k_c_l01In : XCode :=
  .seq (.ops [.op (some 6) (.mov (.k (.bool false)))])
  (.keep [0, 1, 2] (.seq (.ops [.op (some 7) (.mov (.t 1)),
     .op (some 8) (.mov (.t 0)),
     .op (some 9) (.bin .leq (.t 7) (.t 8)),
     .op (some 10) (.mov (.t 9)),
     .andor 14 true 3 10 [.op (some 11) (.mov (.t 0)), .op (some 12) (.mov (.t 2)), .op (some 13) (.bin .leq (.t 11) (.t 12))] (.t 13),
     .op (some 6) (.mov (.t 14))])
  (.keep [6] (.ret))))
theorem k_c_l01In_fits : fitsF Try.prog 16 ⟨15, k_c_l01In, [.t 6]⟩ = true := by kernel_rfl
theorem c_l01In {n lo hi : Int} : Con Try.prog noMv 16 [int n, int lo, int hi] [] (fun r h => r = bool (inR n lo hi) ∧ h = []) := by
  refine con_of2 k_c_l01In_fits rfl fun C hP hmv => ?_
  unfold k_c_l01In
  refine cx_seq ?_
  refine cx_ops ?_
  refine ax_q (q_mov rfl) ?_
  refine ax_nil ?_
  refine cx_keep rfl rfl ?_
  refine cx_seq ?_
  refine cx_ops ?_
  refine ax_q (q_mov rfl) ?_
  refine ax_q (q_mov rfl) ?_
  first | refine ax_q (q_ibin rfl rfl rfl) ?_ | refine ax_q (q_sbin rfl rfl rfl) ?_
  refine ax_q (q_mov rfl) ?_
  apply ax_andor rfl rfl
  · intro _
    refine ax_q (q_mov rfl) ?_
    refine ax_q (q_mov rfl) ?_
    first | refine ax_q (q_ibin rfl rfl rfl) ?_ | refine ax_q (q_sbin rfl rfl rfl) ?_
    exact ax_nil ⟨rfl, by repeat (first | exact trivial | refine ⟨rfl, ?_⟩ | refine ⟨?_, ?_⟩)⟩
  refine ax_q (q_mov rfl) ?_
  refine ax_nil ?_
  refine cx_keep rfl rfl ?_
  refine cx_ret (ret0 rfl rfl ?_)
  exact ⟨rfl, rfl⟩

/- loop.example/g00332/spec.PageOK -/
def k_c_sPageOK : XCode :=
  .seq (.ops [.op (some 1) (.box (.t 0)),
     .op (some 2) (.mov (.k (.bool false)))])
  (.keep [1] (.seq (.seq (.ops [.op (some 4) (.fadr (.t 1) 0),
      .op (some 5) (.load1 (.t 4)),
      .call (some 6) 16 [.t 5, .k (.int .i64 0), .k (.int .i64 1000)],
      .op (some 7) (.not (.t 6)),
      .op (some 8) (.mov (.t 7)),
      .andor 13 false 4 8 [.op (some 9) (.fadr (.t 1) 1), .op (some 10) (.load1 (.t 9)), .op (some 11) (.lenS (.t 10)), .op (some 12) (.bin .neq (.t 11) (.k (.int .i64 4)))] (.t 12)])
   (.keep [1, 13] (.cond (.t 13)
    (.seq (.ops [.op (some 2) (.mov (.k (.bool false)))])
     (.keep [2] (.ret)))
    (.skip))))
  (.keep [1] (.seq (.seq (.ops [.op (some 3) (.mov (.k (.int .i64 0)))])
   (.keep [1, 3] (.block 0 (.loop (.seq (.seq (.ops [.op (some 14) (.mov (.t 3)),
         .op (some 15) (.bin .lss (.t 14) (.k (.int .i64 4)))])
      (.keep [1, 3, 15] (.cond (.t 15)
       (.skip)
       (.exit 0))))
     (.keep [1, 3] (.seq (.block 1 (.seq (.ops [.op (some 18) (.fadr (.t 1) 1),
          .op (some 19) (.load1 (.t 18)),
          .op (some 20) (.mov (.t 3)),
          .op (some 21) (.iadr 1 (.t 19) (.t 20)),
          .op (some 22) (.load1 (.t 21)),
          .op (some 23) (.lenT (.t 22)),
          .op (some 24) (.bin .gtr (.t 23) (.k (.int .i64 30)))])
       (.keep [1, 3, 24] (.cond (.t 24)
        (.seq (.ops [.op (some 2) (.mov (.k (.bool false)))])
         (.keep [2] (.ret)))
        (.skip)))))
     (.keep [1, 3] (.ops [.op (some 16) (.mov (.t 3)),
       .op (some 17) (.bin .add (.t 16) (.k (.int .i64 1))),
       .op (some 3) (.mov (.t 17))])))))))))
  (.keep [] (.seq (.ops [.op (some 2) (.mov (.k (.bool true)))])
  (.keep [2] (.ret))))))))
theorem k_c_sPageOK_fits : fitsF Try.prog 15 ⟨25, k_c_sPageOK, [.t 2]⟩ = true := by kernel_rfl
theorem c_sPageOK {p : Page} (hw : wfStrs p.slots) : Con Try.prog noMv 15 [p.av] [] (fun r h => r = bool (pageOK p) ∧ h = []) := by
  refine con_of2 k_c_sPageOK_fits rfl fun C hP hmv => ?_
  unfold k_c_sPageOK
  refine cx_seq ?_
  refine cx_ops ?_
  refine ax_e (e_box rfl rfl (by decide) rfl rfl rfl) ?_
  refine ax_q (q_mov rfl) ?_
  refine ax_nil ?_
  refine cx_keep rfl rfl ?_
  refine cx_seq ?_
  refine cx_seq ?_
  refine cx_ops ?_
  first | refine ax_q (q_fadr_ptr rfl) ?_ | refine ax_q (q_fadr_rptr rfl) ?_ | refine ax_q (q_fadr_ip rfl) ?_
  first | refine ax_q (q_load1_ptr rfl rfl rfl) ?_ | refine ax_q (q_load1_ip rfl) ?_
  refine ax_call rfl (vc_pure0 c_l01In hP rfl rfl ?_)
  refine ax_q (q_not rfl) ?_
  refine ax_q (q_mov rfl) ?_
  apply ax_andor rfl rfl
  · intro _
    first | refine ax_q (q_fadr_ptr rfl) ?_ | refine ax_q (q_fadr_rptr rfl) ?_ | refine ax_q (q_fadr_ip rfl) ?_
    first | refine ax_q (q_load1_ptr rfl rfl rfl) ?_ | refine ax_q (q_load1_ip rfl) ?_
    first | refine ax_q (q_lenS rfl) ?_ | refine ax_q (q_lenS_osl rfl) ?_ | refine ax_q (q_lenS_zs rfl) ?_
    first | refine ax_q (q_ibin rfl rfl rfl) ?_ | refine ax_q (q_sbin rfl rfl rfl) ?_
    exact ax_nil ⟨rfl, by repeat (first | exact trivial | refine ⟨rfl, ?_⟩ | refine ⟨?_, ?_⟩)⟩
  refine ax_nil ?_
  refine cx_keep rfl rfl ?_
  refine cx_cond rfl (fun h1 => ?_) (fun h1 => ?_)
  · skip
    refine cx_seq ?_
    refine cx_ops ?_
    refine ax_q (q_mov rfl) ?_
    refine ax_nil ?_
    refine cx_keep rfl rfl ?_
    refine cx_ret (ret0 rfl rfl ?_)
    exact ⟨by rw [pageOK_f1 h1]; rfl, rfl⟩
  · have h1a : inR p.lsn 0 1000 = true ∧ p.slots.length = 4 := by
      cases ha : inR p.lsn 0 1000 with
      | false => rw [ha] at h1; simp at h1
      | true => rw [ha] at h1; refine ⟨rfl, ?_⟩; simp only [cond_false, Bool.not_true, Bool.false_or] at h1; have := nF h1; simp only [strs_len] at this; omega
    refine cx_skip ?_
    refine cx_keep rfl rfl ?_
    refine cx_seq ?_
    refine cx_seq ?_
    refine cx_ops ?_
    refine ax_q (q_mov rfl) ?_
    refine ax_nil ?_
    refine cx_keep rfl rfl ?_
    refine cx_block ?_
    refine cx_loopU (fun n k => k ≤ 4 ∧ n = 4 - k ∧ ∀ i, i < k → ∀ x, p.slots[i]? = some x → decide (30 < x.length) = false) (fun k : Nat => [(3, int k)]) (fun _ => [(1, .box [int p.lsn, .d (strs p.slots)])]) ⟨_, 0, ⟨by omega, rfl, fun i hi => by omega⟩, by repeat (first | exact trivial | refine ⟨rfl, ?_⟩ | refine ⟨?_, ?_⟩)⟩ ?_
    rintro n k ⟨hk, rfl, ht⟩
    refine cx_seq ?_
    refine cx_seq ?_
    refine cx_ops ?_
    refine ax_q (q_mov rfl) ?_
    first | refine ax_q (q_ibin rfl rfl rfl) ?_ | refine ax_q (q_sbin rfl rfl rfl) ?_
    refine ax_nil ?_
    refine cx_keep rfl rfl ?_
    refine cx_cond rfl (fun h2 => ?_) (fun h2 => ?_)
    · have h2 : k < 4 := by have := dT h2; omega
      have h2' : k < p.slots.length := by omega
      refine cx_skip ?_
      refine cx_keep rfl rfl ?_
      refine cx_seq ?_
      refine cx_block ?_
      refine cx_seq ?_
      refine cx_ops ?_
      first | refine ax_q (q_fadr_ptr rfl) ?_ | refine ax_q (q_fadr_rptr rfl) ?_ | refine ax_q (q_fadr_ip rfl) ?_
      first | refine ax_q (q_load1_ptr rfl rfl rfl) ?_ | refine ax_q (q_load1_ip rfl) ?_
      refine ax_q (q_mov rfl) ?_
      refine ax_q (q_ix rfl rfl (mapAt h2')) ?_
      first | refine ax_q (q_load1_ptr rfl rfl rfl) ?_ | refine ax_q (q_load1_ip rfl) ?_
      refine ax_q (q_lenT rfl) ?_
      first | refine ax_q (q_ibin rfl rfl rfl) ?_ | refine ax_q (q_sbin rfl rfl rfl) ?_
      refine ax_nil ?_
      refine cx_keep rfl rfl ?_
      refine cx_cond rfl (fun h3 => ?_) (fun h3 => ?_)
      · have h3 : decide (30 < (p.slots[k]).length) = true := by have := dT h3; exact decide_eq_true (by omega)
        refine cx_seq ?_
        refine cx_ops ?_
        refine ax_q (q_mov rfl) ?_
        refine ax_nil ?_
        refine cx_keep rfl rfl ?_
        refine cx_ret (ret0 rfl rfl ?_)
        exact ⟨by rw [show pageOK p = false from by rw [pageOK, any_hit h2' h3]; simp]; rfl, rfl⟩
      · have h3 : decide (30 < (p.slots[k]).length) = false := by have := dF h3; exact decide_eq_false (by omega)
        refine cx_skip ?_
        refine cx_keep rfl rfl ?_
        refine cx_ops ?_
        refine ax_q (q_mov rfl) ?_
        refine ax_qe (r' := int ((k + 1 : Nat) : Int)) (q_ibin rfl rfl rfl) (by rw [wi (by omega) (by omega)]; rfl) ?_
        refine ax_q (q_mov rfl) ?_
        refine ax_nil ?_
        exact ⟨_, k + 1, by omega, ⟨by omega, rfl, before_step h2' ht h3⟩, by repeat (first | exact trivial | refine ⟨rfl, ?_⟩ | refine ⟨?_, ?_⟩)⟩
    · have h2 : k = 4 := by have := dF h2; omega
      refine cx_exit rfl ?_
      refine cx_keep rfl rfl ?_
      refine cx_seq ?_
      refine cx_ops ?_
      refine ax_q (q_mov rfl) ?_
      refine ax_nil ?_
      refine cx_keep rfl rfl ?_
      refine cx_ret (ret0 rfl rfl ?_)
      exact ⟨by rw [pageOK, any_all (fun i hi => ht i (by omega)), h1a.1, decide_eq_true h1a.2]; rfl, rfl⟩

/- loop.example/g00332/spec.l03Own -/
def k_c_l03Own : XCode :=
  .seq (.ops [.op (some 1) (.box (.t 0)),
     .op (some 2) (.alloc [.int .i64 0, .nils 1])])
  (.keep [1, 2] (.seq (.ops [.op (some 3) (.bslice 1 []),
     .op (some 4) (.fadr (.t 1) 1),
     .op (some 5) (.load1 (.t 4)),
     .op (some 6) (.app 1 16 [.str []] (.t 3) (.t 5)),
     .op (some 7) (.fadr (.t 1) 1),
     .op none (.store 1 (.t 7) (.t 6))])
  (.keep [1, 2] (.seq (.ops [.op (some 8) (.loadN 2 (.t 1)),
     .op none (.store 2 (.t 2) (.t 8))])
  (.keep [2] (.ret))))))
theorem k_c_l03Own_fits : fitsF Try.prog 28 ⟨9, k_c_l03Own, [.cN 2 2]⟩ = true := by kernel_rfl
theorem c_l03Own {p : Page} (hw : p.slots.length ≤ 1048576) : Con Try.prog noMv 28 [p.av] [] (fun r h => r = pageO 0 p ∧ h = pageH 0 p) := by
  refine con_of2 k_c_l03Own_fits rfl fun C hP hmv => ?_
  unfold k_c_l03Own
  refine cx_seq ?_
  refine cx_ops ?_
  refine ax_e (e_box rfl rfl (by decide) rfl rfl rfl) ?_
  refine ax_e (e_alloc (by decide) rfl rfl) ?_
  refine ax_nil ?_
  refine cx_keep rfl rfl ?_
  refine cx_seq ?_
  refine cx_ops ?_
  refine ax_e (e_bslice rfl (by decide) rfl rfl) ?_
  first | refine ax_q (q_fadr_ptr rfl) ?_ | refine ax_q (q_fadr_rptr rfl) ?_ | refine ax_q (q_fadr_ip rfl) ?_
  first | refine ax_q (q_load1_ptr rfl rfl rfl) ?_ | refine ax_q (q_load1_ip rfl) ?_
  refine ax_e (e_appn (n' := p.slots.length) rfl rfl (Nat.le_refl _) rfl (src_sl 1 _) (.inl (by decide)) (by simp only [strs_len, List.length_nil]; omega) (by simp only [strs_len, List.length_nil]; omega) rfl) ?_
  first | refine ax_q (q_fadr_ptr rfl) ?_ | refine ax_q (q_fadr_rptr rfl) ?_ | refine ax_q (q_fadr_ip rfl) ?_
  refine ax_e (e_st rfl rfl rfl rfl rfl rfl rfl) ?_
  refine ax_nil ?_
  refine cx_keep rfl rfl ?_
  refine cx_seq ?_
  refine cx_ops ?_
  refine ax_q (q_ldN rfl rfl rfl) ?_
  refine ax_e (e_st rfl rfl rfl rfl rfl rfl rfl) ?_
  refine ax_nil ?_
  refine cx_keep rfl rfl ?_
  refine cx_ret (retN (fun _ => 0) [3] rfl rfl rfl rfl rfl ?_)
  exact ⟨rfl, rfl⟩

/- loop.example/g00332/spec.l03Set -/
def k_c_l03Set : XCode :=
  .seq (.ops [.op (some 4) (.box (.t 0)),
     .op (some 8) (.alloc [.int .i64 0, .nils 1])])
  (.keep [1, 2, 3, 4, 8] (.seq (.ops [.op (some 10) (.loadN 2 (.t 4)),
     .call (some 11) 28 [.t 10],
     .op (some 9) (.alloc [.int .i64 0, .nils 1]),
     .op none (.store 2 (.t 9) (.t 11))])
  (.keep [1, 2, 3, 8, 9] (.seq (.ops [.op (some 12) (.fadr (.t 9) 1),
     .op (some 13) (.load1 (.t 12)),
     .op (some 14) (.mov (.t 1)),
     .op (some 15) (.mov (.t 2)),
     .op (some 16) (.iadr 1 (.t 13) (.t 14)),
     .op none (.store 1 (.t 16) (.t 15))])
  (.keep [3, 8, 9] (.seq (.ops [.op (some 17) (.mov (.t 3)),
     .op (some 18) (.fadr (.t 9) 0),
     .op none (.store 1 (.t 18) (.t 17))])
  (.keep [8, 9] (.seq (.ops [.op (some 19) (.loadN 2 (.t 9)),
     .op none (.store 2 (.t 8) (.t 19))])
  (.keep [8] (.ret))))))))))
theorem k_c_l03Set_fits : fitsF Try.prog 17 ⟨20, k_c_l03Set, [.cN 8 2]⟩ = true := by kernel_rfl
theorem c_l03Set {p : Page} {k : Nat} {data : Str} {lsn : Int} (hw : p.slots.length ≤ 1048576) (hk : k < p.slots.length) : Con Try.prog noMv 17 [p.av, int k, str data, int lsn] [] (fun r h => r = pageO 0 ⟨lsn, p.slots.set k data⟩ ∧ h = pageH 0 ⟨lsn, p.slots.set k data⟩) := by
  refine con_of2 k_c_l03Set_fits rfl fun C hP hmv => ?_
  unfold k_c_l03Set
  refine cx_seq ?_
  refine cx_ops ?_
  refine ax_e (e_box rfl rfl (by decide) rfl rfl rfl) ?_
  refine ax_e (e_alloc (by decide) rfl rfl) ?_
  refine ax_nil ?_
  refine cx_keep rfl rfl ?_
  refine cx_seq ?_
  refine cx_ops ?_
  refine ax_q (q_ldN rfl rfl rfl) ?_
  refine ax_call rfl (vc_pure (c_l03Own hw) hP rfl ?_)
  rintro r h ⟨rfl, rfl⟩
  refine ⟨fun _ => 11, [0], ⟨rfl, rfl, rfl, rfl, rfl, fun h => by cases h⟩, ?_⟩
  refine ax_e (e_alloc (by decide) rfl rfl) ?_
  refine ax_e (e_st rfl rfl rfl rfl rfl rfl rfl) ?_
  refine ax_nil ?_
  refine cx_keep rfl rfl ?_
  refine cx_seq ?_
  refine cx_ops ?_
  first | refine ax_q (q_fadr_ptr rfl) ?_ | refine ax_q (q_fadr_rptr rfl) ?_ | refine ax_q (q_fadr_ip rfl) ?_
  first | refine ax_q (q_load1_ptr rfl rfl rfl) ?_ | refine ax_q (q_load1_ip rfl) ?_
  refine ax_q (q_mov rfl) ?_
  refine ax_q (q_mov rfl) ?_
  refine ax_q (q_ixo rfl rfl hk) ?_
  refine ax_e (e_str (q := strRow data) rfl rfl rfl rfl rfl rfl (mapAt hk) rfl rfl List.map_set.symm) ?_
  refine ax_nil ?_
  refine cx_keep rfl rfl ?_
  refine cx_seq ?_
  refine cx_ops ?_
  refine ax_q (q_mov rfl) ?_
  first | refine ax_q (q_fadr_ptr rfl) ?_ | refine ax_q (q_fadr_rptr rfl) ?_ | refine ax_q (q_fadr_ip rfl) ?_
  refine ax_e (e_st rfl rfl rfl rfl rfl rfl rfl) ?_
  refine ax_nil ?_
  refine cx_keep rfl rfl ?_
  refine cx_seq ?_
  refine cx_ops ?_
  refine ax_q (q_ldN rfl rfl rfl) ?_
  refine ax_e (e_st rfl rfl rfl rfl rfl rfl rfl) ?_
  refine ax_nil ?_
  refine cx_keep rfl rfl ?_
  refine cx_ret (retN (fun _ => 0) [11] rfl rfl rfl rfl rfl ?_)
  exact ⟨by show AV.agg [int lsn, .osl 0 1 0 p.slots.length] = AV.agg [int lsn, .osl 0 1 0 (p.slots.set k data).length]; rw [List.length_set], rfl⟩

/- loop.example/g00332/spec.PageSet -/
def k_c_sPageSet : XCode :=
  .seq (.ops [.op (some 4) (.box (.t 0)),
     .op (some 8) (.alloc [.int .i64 0, .nils 1]),
     .op (some 9) (.mov (.k (.int .i64 0)))])
  (.keep [1, 2, 3, 4, 8] (.seq (.seq (.ops [.op (some 10) (.mov (.t 2)),
      .op (some 11) (.lenT (.t 10)),
      .op (some 12) (.bin .gtr (.t 11) (.k (.int .i64 65536)))])
   (.keep [1, 2, 3, 4, 8, 12] (.cond (.t 12)
    (.seq (.ops [.op (some 13) (.build [.int .i64 0, .nils 1] []),
        .op none (.store 2 (.t 8) (.t 13)),
        .op (some 9) (.mov (.k (.int .i64 2)))])
     (.keep [8, 9] (.ret)))
    (.skip))))
  (.keep [1, 2, 3, 4, 8] (.seq (.seq (.ops [.op (some 14) (.loadN 2 (.t 4)),
      .call (some 15) 15 [.t 14],
      .op (some 16) (.not (.t 15))])
   (.keep [1, 2, 3, 4, 8, 16] (.cond (.t 16)
    (.seq (.ops [.op (some 17) (.build [.int .i64 0, .nils 1] []),
        .op none (.store 2 (.t 8) (.t 17)),
        .op (some 9) (.mov (.k (.int .i64 1)))])
     (.keep [8, 9] (.ret)))
    (.skip))))
  (.keep [1, 2, 3, 4, 8] (.seq (.seq (.ops [.op (some 18) (.mov (.t 1)),
      .call (some 19) 16 [.t 18, .k (.int .i64 0), .k (.int .i64 3)],
      .op (some 20) (.not (.t 19)),
      .op (some 21) (.mov (.t 20)),
      .andor 25 false 3 21 [.op (some 22) (.mov (.t 2)), .op (some 23) (.lenT (.t 22)), .op (some 24) (.bin .gtr (.t 23) (.k (.int .i64 30)))] (.t 24),
      .op (some 26) (.mov (.t 25)),
      .andor 30 false 8 26 [.op (some 27) (.mov (.t 3)), .call (some 28) 16 [.t 27, .k (.int .i64 0), .k (.int .i64 1000)], .op (some 29) (.not (.t 28))] (.t 29)])
   (.keep [1, 2, 3, 4, 8, 30] (.cond (.t 30)
    (.seq (.ops [.op (some 31) (.build [.int .i64 0, .nils 1] []),
        .op none (.store 2 (.t 8) (.t 31)),
        .op (some 9) (.mov (.k (.int .i64 4)))])
     (.keep [8, 9] (.ret)))
    (.skip))))
  (.keep [1, 2, 3, 4, 8] (.seq (.ops [.op (some 32) (.loadN 2 (.t 4)),
     .op (some 33) (.mov (.t 1)),
     .op (some 34) (.mov (.t 2)),
     .op (some 35) (.mov (.t 3)),
     .call (some 36) 17 [.t 32, .t 33, .t 34, .t 35],
     .op none (.store 2 (.t 8) (.t 36)),
     .op (some 9) (.mov (.k (.int .i64 0)))])
  (.keep [8, 9] (.ret))))))))))
theorem k_c_sPageSet_fits : fitsF Try.prog 6 ⟨37, k_c_sPageSet, [.cN 8 2, .t 9]⟩ = true := by kernel_rfl
theorem c_sPageSet {p : Page} {slot lsn : Int} {data : Str} (hw : wfStrs p.slots) (hl : p.slots.length ≤ 1048576) : Con Try.prog noMv 6 [p.av, int slot, str data, int lsn] [] (fun r h => r = .tup [pageO 0 (pageSet p slot data lsn).1, int (pageSet p slot data lsn).2] ∧ h = pageH 0 (pageSet p slot data lsn).1) := by
  refine con_of2 k_c_sPageSet_fits rfl fun C hP hmv => ?_
  unfold k_c_sPageSet
  refine cx_seq ?_
  refine cx_ops ?_
  refine ax_e (e_box rfl rfl (by decide) rfl rfl rfl) ?_
  refine ax_e (e_alloc (by decide) rfl rfl) ?_
  refine ax_q (q_mov rfl) ?_
  refine ax_nil ?_
  refine cx_keep rfl rfl ?_
  refine cx_seq ?_
  refine cx_seq ?_
  refine cx_ops ?_
  refine ax_q (q_mov rfl) ?_
  refine ax_q (q_lenT rfl) ?_
  first | refine ax_q (q_ibin rfl rfl rfl) ?_ | refine ax_q (q_sbin rfl rfl rfl) ?_
  refine ax_nil ?_
  refine cx_keep rfl rfl ?_
  refine cx_cond rfl (fun h0 => ?_) (fun h0 => ?_)
  · have h0 := dT h0
    refine cx_seq ?_
    refine cx_ops ?_
    refine ax_q (q_build rfl) ?_
    refine ax_e (e_st rfl rfl rfl rfl rfl rfl rfl) ?_
    refine ax_q (q_mov rfl) ?_
    refine ax_nil ?_
    refine cx_keep rfl rfl ?_
    have e : pageSet p slot data lsn = (.zero, 2) := by unfold pageSet; rw [if_pos h0]
    refine cx_wk (wk_virt 900 1 rfl rfl rfl) ?_
    refine cx_wk (wk_zsb 8 900 1 rfl rfl rfl) ?_
    refine cx_ret (retN (fun _ => 0) [900] rfl rfl rfl rfl rfl ?_)
    rw [e]; exact ⟨rfl, rfl⟩
  · have h0 := dF h0
    refine cx_skip ?_
    refine cx_keep rfl rfl ?_
    refine cx_seq ?_
    refine cx_seq ?_
    refine cx_ops ?_
    refine ax_q (q_ldN rfl rfl rfl) ?_
    refine ax_call rfl (vc_pure0 (c_sPageOK hw) hP rfl rfl ?_)
    refine ax_q (q_not rfl) ?_
    refine ax_nil ?_
    refine cx_keep rfl rfl ?_
    refine cx_cond rfl (fun h1 => ?_) (fun h1 => ?_)
    · have h1 := bT h1
      refine cx_seq ?_
      refine cx_ops ?_
      refine ax_q (q_build rfl) ?_
      refine ax_e (e_st rfl rfl rfl rfl rfl rfl rfl) ?_
      refine ax_q (q_mov rfl) ?_
      refine ax_nil ?_
      refine cx_keep rfl rfl ?_
      have e : pageSet p slot data lsn = (.zero, 1) := by unfold pageSet; rw [if_neg h0, if_pos h1]
      refine cx_wk (wk_virt 900 1 rfl rfl rfl) ?_
      refine cx_wk (wk_zsb 8 900 1 rfl rfl rfl) ?_
      refine cx_ret (retN (fun _ => 0) [900] rfl rfl rfl rfl rfl ?_)
      rw [e]; exact ⟨rfl, rfl⟩
    · have h1 := bF h1
      refine cx_skip ?_
      refine cx_keep rfl rfl ?_
      refine cx_seq ?_
      refine cx_seq ?_
      refine cx_ops ?_
      refine ax_q (q_mov rfl) ?_
      refine ax_call rfl (vc_pure0 c_l01In hP rfl rfl ?_)
      refine ax_q (q_not rfl) ?_
      refine ax_q (q_mov rfl) ?_
      apply ax_andor rfl rfl
      · intro _
        refine ax_q (q_mov rfl) ?_
        refine ax_q (q_lenT rfl) ?_
        first | refine ax_q (q_ibin rfl rfl rfl) ?_ | refine ax_q (q_sbin rfl rfl rfl) ?_
        exact ax_nil ⟨rfl, by repeat (first | exact trivial | refine ⟨rfl, ?_⟩ | refine ⟨?_, ?_⟩)⟩
      refine ax_q (q_mov rfl) ?_
      apply ax_andor rfl rfl
      · intro _
        refine ax_q (q_mov rfl) ?_
        refine ax_call rfl (vc_pure0 c_l01In hP rfl rfl ?_)
        refine ax_q (q_not rfl) ?_
        exact ax_nil ⟨rfl, by repeat (first | exact trivial | refine ⟨rfl, ?_⟩ | refine ⟨?_, ?_⟩)⟩
      refine ax_nil ?_
      refine cx_keep rfl rfl ?_
      refine cx_cond rfl (fun h2 => ?_) (fun h2 => ?_)
      · have h2 : (!inR slot 0 3 || decide ((30 : Int) < (data.length : Int)) || !inR lsn 0 1000) = true := h2
        refine cx_seq ?_
        refine cx_ops ?_
        refine ax_q (q_build rfl) ?_
        refine ax_e (e_st rfl rfl rfl rfl rfl rfl rfl) ?_
        refine ax_q (q_mov rfl) ?_
        refine ax_nil ?_
        refine cx_keep rfl rfl ?_
        have e : pageSet p slot data lsn = (.zero, 4) := by unfold pageSet; rw [if_neg h0, if_neg (by rw [h1]; simp), if_pos h2]
        refine cx_wk (wk_virt 900 1 rfl rfl rfl) ?_
        refine cx_wk (wk_zsb 8 900 1 rfl rfl rfl) ?_
        refine cx_ret (retN (fun _ => 0) [900] rfl rfl rfl rfl rfl ?_)
        rw [e]; exact ⟨rfl, rfl⟩
      · obtain ⟨e, k, rfl, hk⟩ := pageSet_set h0 h1 h2
        refine cx_skip ?_
        refine cx_keep rfl rfl ?_
        refine cx_seq ?_
        refine cx_ops ?_
        refine ax_q (q_ldN rfl rfl rfl) ?_
        refine ax_q (q_mov rfl) ?_
        refine ax_q (q_mov rfl) ?_
        refine ax_q (q_mov rfl) ?_
        refine ax_call rfl (vc_pure (c_l03Set hl hk) hP rfl ?_)
        rintro r h ⟨rfl, rfl⟩
        refine ⟨fun _ => 36, [0], ⟨rfl, rfl, rfl, rfl, rfl, fun h => by cases h⟩, ?_⟩
        refine ax_e (e_st rfl rfl rfl rfl rfl rfl rfl) ?_
        refine ax_q (q_mov rfl) ?_
        refine ax_nil ?_
        refine cx_keep rfl rfl ?_
        refine cx_ret (retN (fun _ => 0) [36] rfl rfl rfl rfl rfl ?_)
        rw [e]; exact ⟨rfl, rfl⟩

/- loop.example/g00332/laws.toStringS -/
def k_c_toStringS : XCode :=
  .seq (.ops [.op (some 2) (.mov (.k (.nils 1)))])
  (.keep [0] (.seq (.ops [.op (some 5) (.mov (.t 0)),
     .op (some 6) (.lenS (.t 5)),
     .op (some 7) (.mkslice 1 16 [.str []] (.t 6) (.t 6)),
     .op (some 3) (.mov (.t 7))])
  (.keep [0, 3] (.seq (.seq (.ops [.op (some 4) (.mov (.k (.int .i64 0)))])
   (.keep [0, 3, 4] (.block 0 (.loop (.seq (.seq (.ops [.op (some 8) (.mov (.t 4)),
         .op (some 9) (.mov (.t 0)),
         .op (some 10) (.lenS (.t 9)),
         .op (some 11) (.bin .lss (.t 8) (.t 10))])
      (.keep [0, 3, 4, 11] (.cond (.t 11)
       (.skip)
       (.exit 0))))
     (.keep [0, 3, 4] (.seq (.block 1 (.ops [.op (some 14) (.mov (.t 3)),
         .op (some 15) (.mov (.t 4)),
         .op (some 16) (.mov (.t 0)),
         .op (some 17) (.mov (.t 4)),
         .op (some 18) (.iadr 1 (.t 16) (.t 17)),
         .op (some 19) (.load1 (.t 18)),
         .op (some 20) (.iadr 1 (.t 14) (.t 15)),
         .op none (.store 1 (.t 20) (.t 19))]))
     (.keep [0, 3, 4] (.ops [.op (some 12) (.mov (.t 4)),
       .op (some 13) (.bin .add (.t 12) (.k (.int .i64 1))),
       .op (some 4) (.mov (.t 13))])))))))))
  (.keep [3] (.seq (.ops [.op (some 21) (.mov (.t 3)),
     .op (some 2) (.mov (.t 21))])
  (.keep [2] (.ret))))))))
theorem k_c_toStringS_fits : fitsF Try.prog 18 ⟨22, k_c_toStringS, [.t 2]⟩ = true := by kernel_rfl
theorem c_toStringS {xs : List Str} (hw : xs.length ≤ 1048576) : Con Try.prog noMv 18 [.d (strs xs)] [] (fun r h => r = .osl 0 1 0 xs.length ∧ h = [(0, .rows 1 (xs.map strRow))]) := by
  refine con_of2 k_c_toStringS_fits rfl fun C hP hmv => ?_
  unfold k_c_toStringS
  refine cx_seq ?_
  refine cx_ops ?_
  refine ax_q (q_mov rfl) ?_
  refine ax_nil ?_
  refine cx_keep rfl rfl ?_
  refine cx_seq ?_
  refine cx_ops ?_
  refine ax_q (q_mov rfl) ?_
  first | refine ax_q (q_lenS rfl) ?_ | refine ax_q (q_lenS_osl rfl) ?_ | refine ax_q (q_lenS_zs rfl) ?_
  refine ax_ee (e_mkslice rfl rfl rfl (by omega) (by omega) (by rw [strs_len]; omega) (by decide) rfl rfl) (by rw [strs_len, Int.toNat_natCast]) ?_
  refine ax_q (q_mov rfl) ?_
  refine ax_nil ?_
  refine cx_keep rfl rfl ?_
  refine cx_seq ?_
  refine cx_seq ?_
  refine cx_ops ?_
  refine ax_q (q_mov rfl) ?_
  refine ax_nil ?_
  refine cx_keep rfl rfl ?_
  refine cx_block ?_
  refine cx_loopU (fun n k => k ≤ xs.length ∧ n = xs.length - k) (fun k : Nat => [(4, int k)]) (fun k => [(7, .rows 1 ((xs.take k).map strRow ++ List.replicate (xs.length - k) (strRow [])))]) ⟨_, 0, ⟨Nat.zero_le _, rfl⟩, by repeat (first | exact trivial | refine ⟨rfl, ?_⟩ | refine ⟨?_, ?_⟩)⟩ ?_
  rintro n k ⟨hk, rfl⟩
  refine cx_seq ?_
  refine cx_seq ?_
  refine cx_ops ?_
  refine ax_q (q_mov rfl) ?_
  refine ax_q (q_mov rfl) ?_
  first | refine ax_q (q_lenS rfl) ?_ | refine ax_q (q_lenS_osl rfl) ?_ | refine ax_q (q_lenS_zs rfl) ?_
  first | refine ax_q (q_ibin rfl rfl rfl) ?_ | refine ax_q (q_sbin rfl rfl rfl) ?_
  refine ax_nil ?_
  refine cx_keep rfl rfl ?_
  refine cx_cond rfl (fun h2 => ?_) (fun h2 => ?_)
  · have h2 : k < xs.length := by have := of_decide_eq_true h2; simpa [strs_len] using this
    refine cx_skip ?_
    refine cx_keep rfl rfl ?_
    refine cx_seq ?_
    refine cx_block ?_
    refine cx_ops ?_
    refine ax_q (q_mov rfl) ?_
    refine ax_q (q_mov rfl) ?_
    refine ax_q (q_mov rfl) ?_
    refine ax_q (q_mov rfl) ?_
    refine ax_q (q_ix rfl rfl (mapAt h2)) ?_
    first | refine ax_q (q_load1_ptr rfl rfl rfl) ?_ | refine ax_q (q_load1_ip rfl) ?_
    refine ax_q (q_ixo rfl rfl h2) ?_
    refine ax_e (e_str (q := strRow xs[k]) rfl rfl rfl rfl rfl rfl (fillAt h2) rfl rfl (fillSet h2)) ?_
    refine ax_nil ?_
    refine cx_keep rfl rfl ?_
    refine cx_ops ?_
    refine ax_q (q_mov rfl) ?_
    refine ax_qe (r' := int ((k + 1 : Nat) : Int)) (q_ibin rfl rfl rfl) (by rw [wi (by omega) (by omega)]; rfl) ?_
    refine ax_q (q_mov rfl) ?_
    refine ax_nil ?_
    exact ⟨_, k + 1, by omega, ⟨by omega, rfl⟩, by repeat (first | exact trivial | refine ⟨rfl, ?_⟩ | refine ⟨?_, ?_⟩)⟩
  · have h2 : ¬ k < xs.length := by have := of_decide_eq_false h2; simpa [strs_len] using this
    refine cx_exit rfl ?_
    refine cx_keep rfl rfl ?_
    refine cx_seq ?_
    refine cx_ops ?_
    refine ax_q (q_mov rfl) ?_
    refine ax_q (q_mov rfl) ?_
    refine ax_nil ?_
    refine cx_keep rfl rfl ?_
    refine cx_ret (retN (fun _ => 0) [7] rfl rfl rfl rfl rfl ?_)
    exact ⟨rfl, by rw [show k = xs.length from by omega, List.take_length, Nat.sub_self, List.replicate_zero, List.append_nil]; rfl⟩

/- loop.example/g00332/laws.toPage -/
def k_c_toPage : XCode :=
  .seq (.ops [.op (some 1) (.box (.t 0)),
     .op (some 2) (.alloc [.int .i64 0, .nils 1])])
  (.keep [1, 2] (.seq (.ops [.op (some 3) (.alloc [.int .i64 0, .nils 1])])
  (.keep [1, 2, 3] (.seq (.ops [.op (some 4) (.fadr (.t 1) 0),
     .op (some 5) (.load1 (.t 4)),
     .op (some 6) (.fadr (.t 3) 0),
     .op none (.store 1 (.t 6) (.t 5))])
  (.keep [1, 2, 3] (.seq (.ops [.op (some 7) (.fadr (.t 1) 1),
     .op (some 8) (.load1 (.t 7)),
     .call (some 9) 18 [.t 8],
     .op (some 10) (.fadr (.t 3) 1),
     .op none (.store 1 (.t 10) (.t 9))])
  (.keep [2, 3] (.seq (.ops [.op (some 11) (.loadN 2 (.t 3)),
     .op none (.store 2 (.t 2) (.t 11))])
  (.keep [2] (.ret))))))))))
theorem k_c_toPage_fits : fitsF Try.prog 7 ⟨12, k_c_toPage, [.cN 2 2]⟩ = true := by kernel_rfl
theorem c_toPage {p : Page} (hw : p.slots.length ≤ 1048576) : Con Try.prog noMv 7 [p.av] [] (fun r h => r = pageO 0 p ∧ h = pageH 0 p) := by
  refine con_of2 k_c_toPage_fits rfl fun C hP hmv => ?_
  unfold k_c_toPage
  refine cx_seq ?_
  refine cx_ops ?_
  refine ax_e (e_box rfl rfl (by decide) rfl rfl rfl) ?_
  refine ax_e (e_alloc (by decide) rfl rfl) ?_
  refine ax_nil ?_
  refine cx_keep rfl rfl ?_
  refine cx_seq ?_
  refine cx_ops ?_
  refine ax_e (e_alloc (by decide) rfl rfl) ?_
  refine ax_nil ?_
  refine cx_keep rfl rfl ?_
  refine cx_seq ?_
  refine cx_ops ?_
  first | refine ax_q (q_fadr_ptr rfl) ?_ | refine ax_q (q_fadr_rptr rfl) ?_ | refine ax_q (q_fadr_ip rfl) ?_
  first | refine ax_q (q_load1_ptr rfl rfl rfl) ?_ | refine ax_q (q_load1_ip rfl) ?_
  first | refine ax_q (q_fadr_ptr rfl) ?_ | refine ax_q (q_fadr_rptr rfl) ?_ | refine ax_q (q_fadr_ip rfl) ?_
  refine ax_e (e_st rfl rfl rfl rfl rfl rfl rfl) ?_
  refine ax_nil ?_
  refine cx_keep rfl rfl ?_
  refine cx_seq ?_
  refine cx_ops ?_
  first | refine ax_q (q_fadr_ptr rfl) ?_ | refine ax_q (q_fadr_rptr rfl) ?_ | refine ax_q (q_fadr_ip rfl) ?_
  first | refine ax_q (q_load1_ptr rfl rfl rfl) ?_ | refine ax_q (q_load1_ip rfl) ?_
  refine ax_call rfl (vc_pure (c_toStringS hw) hP rfl ?_)
  rintro r h ⟨rfl, rfl⟩
  refine ⟨fun _ => 9, [0], ⟨rfl, rfl, rfl, rfl, rfl, fun h => by cases h⟩, ?_⟩
  first | refine ax_q (q_fadr_ptr rfl) ?_ | refine ax_q (q_fadr_rptr rfl) ?_ | refine ax_q (q_fadr_ip rfl) ?_
  refine ax_e (e_st rfl rfl rfl rfl rfl rfl rfl) ?_
  refine ax_nil ?_
  refine cx_keep rfl rfl ?_
  refine cx_seq ?_
  refine cx_ops ?_
  refine ax_q (q_ldN rfl rfl rfl) ?_
  refine ax_e (e_st rfl rfl rfl rfl rfl rfl rfl) ?_
  refine ax_nil ?_
  refine cx_keep rfl rfl ?_
  refine cx_ret (retN (fun _ => 0) [9] rfl rfl rfl rfl rfl ?_)
  exact ⟨rfl, rfl⟩

/- slices.IndexFunc[[]string,string] -/
def k_c_IndexFunc : XCode :=
  .seq (.ops [.op (some 4) (.mov (.k (.int .i64 0)))])
  (.keep [0, 1] (.seq (.seq (.ops [.op (some 6) (.mov (.t 0)),
      .op (some 7) (.lenS (.t 6)),
      .op (some 8) (.mov (.k (.int .i64 0)))])
   (.keep [0, 1, 7, 8] (.block 0 (.loop (.seq (.ops [.op (some 9) (.bin .lss (.t 8) (.t 7))])
     (.keep [0, 1, 7, 8, 9] (.seq (.cond (.t 9)
       (.skip)
       (.exit 0))
     (.keep [0, 1, 7, 8] (.seq (.block 1 (.seq (.ops [.op (some 10) (.mov (.t 8)),
          .op (some 5) (.mov (.t 10))])
       (.keep [0, 1, 5, 7, 8] (.seq (.ops [.op (some 11) (.mov (.t 1)),
          .op (some 12) (.mov (.t 0)),
          .op (some 13) (.mov (.t 5)),
          .op (some 14) (.iadr 1 (.t 12) (.t 13)),
          .op (some 15) (.load1 (.t 14)),
          .callv (some 16) (.t 11) [.t 15]])
       (.keep [0, 1, 5, 7, 8, 16] (.cond (.t 16)
        (.seq (.ops [.op (some 17) (.mov (.t 5)),
            .op (some 4) (.mov (.t 17))])
         (.keep [4] (.ret)))
        (.skip)))))))
     (.keep [0, 1, 7, 8] (.ops [.op (some 18) (.bin .add (.t 8) (.k (.int .i64 1))),
       .op (some 8) (.mov (.t 18))])))))))))))
  (.keep [] (.seq (.ops [.op (some 4) (.mov (.k (.int .i64 (-1))))])
  (.keep [4] (.ret))))))
theorem k_c_IndexFunc_fits : fitsF Try.prog 35 ⟨19, k_c_IndexFunc, [.t 4]⟩ = true := by kernel_rfl
theorem c_IndexFunc {xs : List Str} {f : Nat} {caps : List AV} (p : Str → Bool) (hw : xs.length ≤ 9223372036854775807) (hb : hasBody Try.prog f = true) (hr : refsInL [] caps = true) (hf : ∀ s ∈ xs, Con Try.prog noMv f (str s :: caps) [] (fun r h => r = bool (p s) ∧ h = [])) : Con Try.prog noMv 35 [.d (strs xs), .fn (.func f) caps] [] (fun r h => r = int (idxOf p xs 0) ∧ h = []) := by
  refine con_of2 k_c_IndexFunc_fits rfl fun C hP hmv => ?_
  unfold k_c_IndexFunc
  refine cx_seq ?_
  refine cx_ops ?_
  refine ax_q (q_mov rfl) ?_
  refine ax_nil ?_
  refine cx_keep rfl rfl ?_
  refine cx_seq ?_
  refine cx_seq ?_
  refine cx_ops ?_
  refine ax_q (q_mov rfl) ?_
  first | refine ax_q (q_lenS rfl) ?_ | refine ax_q (q_lenS_osl rfl) ?_ | refine ax_q (q_lenS_zs rfl) ?_
  refine ax_q (q_mov rfl) ?_
  refine ax_nil ?_
  refine cx_keep rfl rfl ?_
  refine cx_block ?_
  refine cx_loopU (fun n k => k ≤ xs.length ∧ n = xs.length - k ∧ ∀ i, i < k → ∀ x, xs[i]? = some x → p x = false) (fun k : Nat => [(8, int k)]) (fun _ => []) ⟨_, 0, ⟨by omega, rfl, fun i hi => by omega⟩, by repeat (first | exact trivial | refine ⟨rfl, ?_⟩ | refine ⟨?_, ?_⟩)⟩ ?_
  rintro n k ⟨hk, rfl, ht⟩
  refine cx_seq ?_
  refine cx_ops ?_
  first | refine ax_q (q_ibin rfl rfl rfl) ?_ | refine ax_q (q_sbin rfl rfl rfl) ?_
  refine ax_nil ?_
  refine cx_keep rfl rfl ?_
  refine cx_seq ?_
  refine cx_cond rfl (fun h2 => ?_) (fun h2 => ?_)
  · have h2 := dT h2; simp only [strs_len] at h2; have h2 : k < xs.length := by omega
    refine cx_skip ?_
    refine cx_keep rfl rfl ?_
    refine cx_seq ?_
    refine cx_block ?_
    refine cx_seq ?_
    refine cx_ops ?_
    refine ax_q (q_mov rfl) ?_
    refine ax_q (q_mov rfl) ?_
    refine ax_nil ?_
    refine cx_keep rfl rfl ?_
    refine cx_seq ?_
    refine cx_ops ?_
    refine ax_q (q_mov rfl) ?_
    refine ax_q (q_mov rfl) ?_
    refine ax_q (q_mov rfl) ?_
    refine ax_q (q_ix rfl rfl (mapAt h2)) ?_
    first | refine ax_q (q_load1_ptr rfl rfl rfl) ?_ | refine ax_q (q_load1_ip rfl) ?_
    refine ax_callv rfl (by rw [hP]; exact hb) rfl (vc_pure0 (hf _ (List.getElem_mem h2)) hP (by show refsInL [] caps = true; exact hr) rfl ?_)
    refine ax_nil ?_
    refine cx_keep rfl rfl ?_
    refine cx_cond rfl (fun h3 => ?_) (fun h3 => ?_)
    · skip
      refine cx_seq ?_
      refine cx_ops ?_
      refine ax_q (q_mov rfl) ?_
      refine ax_q (q_mov rfl) ?_
      refine ax_nil ?_
      refine cx_keep rfl rfl ?_
      refine cx_ret (ret0 rfl rfl ?_)
      exact ⟨by rw [idxOf_hit h2 ht h3]; rfl, rfl⟩
    · skip
      refine cx_skip ?_
      refine cx_keep rfl rfl ?_
      refine cx_ops ?_
      refine ax_qe (r' := int ((k + 1 : Nat) : Int)) (q_ibin rfl rfl rfl) (by rw [wi (by omega) (by omega)]; rfl) ?_
      refine ax_q (q_mov rfl) ?_
      refine ax_nil ?_
      exact ⟨_, k + 1, by omega, ⟨by omega, rfl, before_step h2 ht h3⟩, by repeat (first | exact trivial | refine ⟨rfl, ?_⟩ | refine ⟨?_, ?_⟩)⟩
  · have h2 := dF h2; simp only [strs_len] at h2; have h2 : k = xs.length := by omega
    refine cx_exit rfl ?_
    refine cx_keep rfl rfl ?_
    refine cx_seq ?_
    refine cx_ops ?_
    refine ax_q (q_mov rfl) ?_
    refine ax_nil ?_
    refine cx_keep rfl rfl ?_
    refine cx_ret (ret0 rfl rfl ?_)
    exact ⟨by rw [idxOf_none (fun i hi => ht i (by omega))]; rfl, rfl⟩

/- slices.ContainsFunc[[]string,string] -/
def k_c_ContainsFunc : XCode :=
  .seq (.ops [.op (some 4) (.mov (.k (.bool false)))])
  (.keep [0, 1] (.seq (.ops [.op (some 5) (.mov (.t 0)),
     .op (some 6) (.mov (.t 1)),
     .call (some 7) 35 [.t 5, .t 6],
     .op (some 8) (.bin .geq (.t 7) (.k (.int .i64 0))),
     .op (some 4) (.mov (.t 8))])
  (.keep [4] (.ret))))
theorem k_c_ContainsFunc_fits : fitsF Try.prog 30 ⟨9, k_c_ContainsFunc, [.t 4]⟩ = true := by kernel_rfl
theorem c_ContainsFunc {xs : List Str} {f : Nat} {caps : List AV} (p : Str → Bool) (hw : xs.length ≤ 9223372036854775807) (hb : hasBody Try.prog f = true) (hr : refsInL [] caps = true) (hf : ∀ s ∈ xs, Con Try.prog noMv f (str s :: caps) [] (fun r h => r = bool (p s) ∧ h = [])) : Con Try.prog noMv 30 [.d (strs xs), .fn (.func f) caps] [] (fun r h => r = bool (xs.any p) ∧ h = []) := by
  refine con_of2 k_c_ContainsFunc_fits rfl fun C hP hmv => ?_
  unfold k_c_ContainsFunc
  refine cx_seq ?_
  refine cx_ops ?_
  refine ax_q (q_mov rfl) ?_
  refine ax_nil ?_
  refine cx_keep rfl rfl ?_
  refine cx_seq ?_
  refine cx_ops ?_
  refine ax_q (q_mov rfl) ?_
  refine ax_q (q_mov rfl) ?_
  refine ax_call rfl (vc_pure0 (c_IndexFunc p hw hb hr hf) hP (by show (true && (refsInL [] caps && true)) = true; rw [hr]; rfl) rfl ?_)
  refine ax_qe (r' := bool (xs.any p)) (q_ibin rfl rfl rfl) (congrArg bool any_idxOf) ?_
  refine ax_q (q_mov rfl) ?_
  refine ax_nil ?_
  refine cx_keep rfl rfl ?_
  refine cx_ret (ret0 rfl rfl ?_)
  exact ⟨rfl, rfl⟩

/- loop.example/g00332/impl.isLong$1 -/
def k_c_isLong1 : XCode :=
  .seq (.ops [.op (some 2) (.mov (.k (.bool false)))])
  (.keep [0] (.seq (.ops [.op (some 3) (.mov (.t 0)),
     .op (some 4) (.lenT (.t 3)),
     .op (some 5) (.bin .gtr (.t 4) (.k (.int .i64 65536))),
     .op (some 2) (.mov (.t 5))])
  (.keep [2] (.ret))))
theorem k_c_isLong1_fits : fitsF Try.prog 31 ⟨6, k_c_isLong1, [.t 2]⟩ = true := by kernel_rfl
theorem c_isLong1 {s : Str} : Con Try.prog noMv 31 [str s] [] (fun r h => r = bool (decide ((65536 : Int) < (s.length : Int))) ∧ h = []) := by
  refine con_of2 k_c_isLong1_fits rfl fun C hP hmv => ?_
  unfold k_c_isLong1
  refine cx_seq ?_
  refine cx_ops ?_
  refine ax_q (q_mov rfl) ?_
  refine ax_nil ?_
  refine cx_keep rfl rfl ?_
  refine cx_seq ?_
  refine cx_ops ?_
  refine ax_q (q_mov rfl) ?_
  refine ax_q (q_lenT rfl) ?_
  first | refine ax_q (q_ibin rfl rfl rfl) ?_ | refine ax_q (q_sbin rfl rfl rfl) ?_
  refine ax_q (q_mov rfl) ?_
  refine ax_nil ?_
  refine cx_keep rfl rfl ?_
  refine cx_ret (ret0 rfl rfl ?_)
  exact ⟨rfl, rfl⟩

/- loop.example/g00332/impl.isLong -/
def k_c_isLong : XCode :=
  .seq (.ops [.op (some 2) (.mov (.k (.bool false)))])
  (.keep [0] (.seq (.ops [.op (some 3) (.mov (.t 0)),
     .call (some 4) 30 [.t 3, .f 31],
     .op (some 2) (.mov (.t 4))])
  (.keep [2] (.ret))))
theorem k_c_isLong_fits : fitsF Try.prog 19 ⟨5, k_c_isLong, [.t 2]⟩ = true := by kernel_rfl
theorem c_isLong {s : Str} : Con Try.prog noMv 19 [.d (strs [s])] [] (fun r h => r = bool (decide ((65536 : Int) < (s.length : Int))) ∧ h = []) := by
  refine con_of2 k_c_isLong_fits rfl fun C hP hmv => ?_
  unfold k_c_isLong
  refine cx_seq ?_
  refine cx_ops ?_
  refine ax_q (q_mov rfl) ?_
  refine ax_nil ?_
  refine cx_keep rfl rfl ?_
  refine cx_seq ?_
  refine cx_ops ?_
  refine ax_q (q_mov rfl) ?_
  refine ax_call rfl (vc_pure0 (c_ContainsFunc (fun s => decide ((65536 : Int) < (s.length : Int))) (by simp) (by kernel_rfl) rfl (fun s _ => c_isLong1)) hP rfl rfl ?_)
  refine ax_q (q_mov rfl) ?_
  refine ax_nil ?_
  refine cx_keep rfl rfl ?_
  refine cx_ret (ret0 rfl rfl ?_)
  exact ⟨congrArg bool (by simp only [List.any_cons, List.any_nil, Bool.or_false]), rfl⟩

/- loop.example/g00332/impl.inRange -/
def k_c_inRange : XCode :=
  .seq (.ops [.op (some 6) (.mov (.k (.bool false)))])
  (.keep [0, 1, 2] (.seq (.ops [.op (some 7) (.mov (.t 1)),
     .op (some 8) (.mov (.t 0)),
     .op (some 9) (.bin .leq (.t 7) (.t 8)),
     .op (some 10) (.mov (.t 9)),
     .andor 14 true 3 10 [.op (some 11) (.mov (.t 0)), .op (some 12) (.mov (.t 2)), .op (some 13) (.bin .leq (.t 11) (.t 12))] (.t 13),
     .op (some 6) (.mov (.t 14))])
  (.keep [6] (.ret))))
theorem k_c_inRange_fits : fitsF Try.prog 22 ⟨15, k_c_inRange, [.t 6]⟩ = true := by kernel_rfl
theorem c_inRange {n lo hi : Int} : Con Try.prog noMv 22 [int n, int lo, int hi] [] (fun r h => r = bool (inR n lo hi) ∧ h = []) := by
  refine con_of2 k_c_inRange_fits rfl fun C hP hmv => ?_
  unfold k_c_inRange
  refine cx_seq ?_
  refine cx_ops ?_
  refine ax_q (q_mov rfl) ?_
  refine ax_nil ?_
  refine cx_keep rfl rfl ?_
  refine cx_seq ?_
  refine cx_ops ?_
  refine ax_q (q_mov rfl) ?_
  refine ax_q (q_mov rfl) ?_
  first | refine ax_q (q_ibin rfl rfl rfl) ?_ | refine ax_q (q_sbin rfl rfl rfl) ?_
  refine ax_q (q_mov rfl) ?_
  apply ax_andor rfl rfl
  · intro _
    refine ax_q (q_mov rfl) ?_
    refine ax_q (q_mov rfl) ?_
    first | refine ax_q (q_ibin rfl rfl rfl) ?_ | refine ax_q (q_sbin rfl rfl rfl) ?_
    exact ax_nil ⟨rfl, by repeat (first | exact trivial | refine ⟨rfl, ?_⟩ | refine ⟨?_, ?_⟩)⟩
  refine ax_q (q_mov rfl) ?_
  refine ax_nil ?_
  refine cx_keep rfl rfl ?_
  refine cx_ret (ret0 rfl rfl ?_)
  exact ⟨rfl, rfl⟩

/- loop.example/g00332/impl.PageOK$1 -/
def k_c_PageOK1 : XCode :=
  .seq (.ops [.op (some 2) (.mov (.k (.bool false)))])
  (.keep [0] (.seq (.ops [.op (some 3) (.mov (.t 0)),
     .op (some 4) (.lenT (.t 3)),
     .op (some 5) (.bin .gtr (.t 4) (.k (.int .i64 30))),
     .op (some 2) (.mov (.t 5))])
  (.keep [2] (.ret))))
theorem k_c_PageOK1_fits : fitsF Try.prog 32 ⟨6, k_c_PageOK1, [.t 2]⟩ = true := by kernel_rfl
theorem c_PageOK1 {s : Str} : Con Try.prog noMv 32 [str s] [] (fun r h => r = bool (decide ((30 : Int) < (s.length : Int))) ∧ h = []) := by
  refine con_of2 k_c_PageOK1_fits rfl fun C hP hmv => ?_
  unfold k_c_PageOK1
  refine cx_seq ?_
  refine cx_ops ?_
  refine ax_q (q_mov rfl) ?_
  refine ax_nil ?_
  refine cx_keep rfl rfl ?_
  refine cx_seq ?_
  refine cx_ops ?_
  refine ax_q (q_mov rfl) ?_
  refine ax_q (q_lenT rfl) ?_
  first | refine ax_q (q_ibin rfl rfl rfl) ?_ | refine ax_q (q_sbin rfl rfl rfl) ?_
  refine ax_q (q_mov rfl) ?_
  refine ax_nil ?_
  refine cx_keep rfl rfl ?_
  refine cx_ret (ret0 rfl rfl ?_)
  exact ⟨rfl, rfl⟩

/- loop.example/g00332/impl.PageOK -/
def k_c_PageOK : XCode :=
  .seq (.ops [.op (some 1) (.box (.t 0)),
     .op (some 2) (.mov (.k (.bool false)))])
  (.keep [1] (.seq (.ops [.op (some 3) (.fadr (.t 1) 0),
     .op (some 4) (.load1 (.t 3)),
     .call (some 5) 22 [.t 4, .k (.int .i64 0), .k (.int .i64 1000)],
     .op (some 6) (.mov (.t 5)),
     .andor 11 true 3 6 [.op (some 7) (.fadr (.t 1) 1), .op (some 8) (.load1 (.t 7)), .op (some 9) (.lenS (.t 8)), .op (some 10) (.bin .eql (.t 9) (.k (.int .i64 4)))] (.t 10),
     .op (some 12) (.mov (.t 11)),
     .andor 17 true 9 12 [.op (some 13) (.fadr (.t 1) 1), .op (some 14) (.load1 (.t 13)), .call (some 15) 30 [.t 14, .f 32], .op (some 16) (.not (.t 15))] (.t 16),
     .op (some 2) (.mov (.t 17))])
  (.keep [2] (.ret))))
theorem k_c_PageOK_fits : fitsF Try.prog 20 ⟨18, k_c_PageOK, [.t 2]⟩ = true := by kernel_rfl
theorem c_PageOK {p : Page} (hw : wfStrs p.slots) : Con Try.prog noMv 20 [p.av] [] (fun r h => r = bool (pageOK p) ∧ h = []) := by
  refine con_of2 k_c_PageOK_fits rfl fun C hP hmv => ?_
  unfold k_c_PageOK
  refine cx_seq ?_
  refine cx_ops ?_
  refine ax_e (e_box rfl rfl (by decide) rfl rfl rfl) ?_
  refine ax_q (q_mov rfl) ?_
  refine ax_nil ?_
  refine cx_keep rfl rfl ?_
  refine cx_seq ?_
  refine cx_ops ?_
  first | refine ax_q (q_fadr_ptr rfl) ?_ | refine ax_q (q_fadr_rptr rfl) ?_ | refine ax_q (q_fadr_ip rfl) ?_
  first | refine ax_q (q_load1_ptr rfl rfl rfl) ?_ | refine ax_q (q_load1_ip rfl) ?_
  refine ax_call rfl (vc_pure0 c_inRange hP rfl rfl ?_)
  refine ax_q (q_mov rfl) ?_
  apply ax_andor rfl rfl
  · intro _
    first | refine ax_q (q_fadr_ptr rfl) ?_ | refine ax_q (q_fadr_rptr rfl) ?_ | refine ax_q (q_fadr_ip rfl) ?_
    first | refine ax_q (q_load1_ptr rfl rfl rfl) ?_ | refine ax_q (q_load1_ip rfl) ?_
    first | refine ax_q (q_lenS rfl) ?_ | refine ax_q (q_lenS_osl rfl) ?_ | refine ax_q (q_lenS_zs rfl) ?_
    first | refine ax_q (q_ibin rfl rfl rfl) ?_ | refine ax_q (q_sbin rfl rfl rfl) ?_
    exact ax_nil ⟨rfl, by repeat (first | exact trivial | refine ⟨rfl, ?_⟩ | refine ⟨?_, ?_⟩)⟩
  refine ax_q (q_mov rfl) ?_
  apply ax_andor rfl rfl
  · intro _
    first | refine ax_q (q_fadr_ptr rfl) ?_ | refine ax_q (q_fadr_rptr rfl) ?_ | refine ax_q (q_fadr_ip rfl) ?_
    first | refine ax_q (q_load1_ptr rfl rfl rfl) ?_ | refine ax_q (q_load1_ip rfl) ?_
    refine ax_call rfl (vc_pure0 (c_ContainsFunc (fun s => decide ((30 : Int) < (s.length : Int))) hw.1 (by kernel_rfl) rfl (fun s _ => c_PageOK1)) hP rfl rfl ?_)
    refine ax_q (q_not rfl) ?_
    exact ax_nil ⟨rfl, by repeat (first | exact trivial | refine ⟨rfl, ?_⟩ | refine ⟨?_, ?_⟩)⟩
  refine ax_q (q_mov rfl) ?_
  refine ax_nil ?_
  refine cx_keep rfl rfl ?_
  refine cx_ret (ret0 rfl rfl ?_)
  exact ⟨congrArg bool (by rw [strs_len]; exact pageOK_impl), rfl⟩

/- loop.example/g00332/impl.isPlace -/
def k_c_isPlace : XCode :=
  .seq (.ops [.op (some 4) (.mov (.k (.bool false)))])
  (.keep [0, 1] (.seq (.ops [.op (some 5) (.mov (.t 0)),
     .op (some 6) (.mov (.t 1)),
     .op (some 7) (.bin .sub (.t 6) (.k (.int .i64 1))),
     .call (some 8) 22 [.t 5, .k (.int .i64 0), .t 7],
     .op (some 4) (.mov (.t 8))])
  (.keep [4] (.ret))))
theorem k_c_isPlace_fits : fitsF Try.prog 21 ⟨9, k_c_isPlace, [.t 4]⟩ = true := by kernel_rfl
theorem c_isPlace {n m : Int} (hm : -9223372036854775807 ≤ m ∧ m ≤ 9223372036854775807) : Con Try.prog noMv 21 [int n, int m] [] (fun r h => r = bool (inR n 0 (m - 1)) ∧ h = []) := by
  refine con_of2 k_c_isPlace_fits rfl fun C hP hmv => ?_
  unfold k_c_isPlace
  refine cx_seq ?_
  refine cx_ops ?_
  refine ax_q (q_mov rfl) ?_
  refine ax_nil ?_
  refine cx_keep rfl rfl ?_
  refine cx_seq ?_
  refine cx_ops ?_
  refine ax_q (q_mov rfl) ?_
  refine ax_q (q_mov rfl) ?_
  refine ax_qe (r' := int (m - 1)) (q_ibin rfl rfl rfl) (wi (by omega) (by omega)) ?_
  refine ax_call rfl (vc_pure0 (c_inRange) hP rfl rfl ?_)
  refine ax_q (q_mov rfl) ?_
  refine ax_nil ?_
  refine cx_keep rfl rfl ?_
  refine cx_ret (ret0 rfl rfl ?_)
  exact ⟨rfl, rfl⟩

/- slices.Clone[[]string,string] -/
def k_c_Clone : XCode :=
  .seq (.ops [.op (some 2) (.mov (.k (.nils 1)))])
  (.keep [0] (.seq (.seq (.ops [.op (some 3) (.mov (.t 0)),
      .op (some 4) (.eqn false (.t 3))])
   (.keep [0, 4] (.cond (.t 4)
    (.seq (.ops [.op (some 2) (.mov (.k (.nils 1)))])
     (.keep [2] (.ret)))
    (.skip))))
  (.keep [0] (.seq (.ops [.op (some 5) (.bslice 1 []),
     .op (some 6) (.mov (.t 0)),
     .op (some 7) (.app 1 16 [.str []] (.t 5) (.t 6)),
     .op (some 2) (.mov (.t 7))])
  (.keep [2] (.ret))))))
theorem k_c_Clone_fits : fitsF Try.prog 33 ⟨8, k_c_Clone, [.t 2]⟩ = true := by kernel_rfl
theorem c_Clone {xs : List Str} (hw : xs.length ≤ 1048576) : Con Try.prog noMv 33 [.d (strs xs)] [] (fun r h => r = .osl 0 1 0 xs.length ∧ h = [(0, .rows 1 (xs.map strRow))]) := by
  refine con_of2 k_c_Clone_fits rfl fun C hP hmv => ?_
  unfold k_c_Clone
  refine cx_seq ?_
  refine cx_ops ?_
  refine ax_q (q_mov rfl) ?_
  refine ax_nil ?_
  refine cx_keep rfl rfl ?_
  refine cx_seq ?_
  refine cx_seq ?_
  refine cx_ops ?_
  refine ax_q (q_mov rfl) ?_
  refine ax_eqn_sl rfl (fun b hb => ?_)
  refine ax_nil ?_
  refine cx_keep rfl rfl ?_
  refine cx_cond rfl (fun h1 => ?_) (fun h1 => ?_)
  · skip
    refine cx_seq ?_
    refine cx_ops ?_
    refine ax_q (q_mov rfl) ?_
    refine ax_nil ?_
    refine cx_keep rfl rfl ?_
    have hx : xs = [] := List.map_eq_nil_iff.1 (hb h1)
    subst hx
    refine cx_wk (wk_virt 900 1 rfl rfl rfl) ?_
    refine cx_wk (wk_zs 2 900 [] rfl rfl) ?_
    refine cx_ret (retN (fun _ => 0) [900] rfl rfl rfl rfl rfl ?_)
    exact ⟨rfl, rfl⟩
  · skip
    refine cx_skip ?_
    refine cx_keep rfl rfl ?_
    refine cx_seq ?_
    refine cx_ops ?_
    refine ax_e (e_bslice rfl (by decide) rfl rfl) ?_
    refine ax_q (q_mov rfl) ?_
    refine ax_e (e_app_osl rfl rfl (Nat.le_refl _) rfl (src_sl 1 _) (.inl (by decide)) (by simp only [strs_len, List.length_nil]; omega)) ?_
    refine ax_q (q_mov rfl) ?_
    refine ax_nil ?_
    refine cx_keep rfl rfl ?_
    refine cx_ret (retN (fun _ => 0) [5] rfl rfl rfl rfl rfl ?_)
    exact ⟨by simp [renA, mkRes], by simp [renOs, renO]⟩

/- (loop.example/g00332/impl.Page).clone -/
def k_c_clone : XCode :=
  .seq (.ops [.op (some 1) (.box (.t 0)),
     .op (some 2) (.alloc [.int .i64 0, .nils 1])])
  (.keep [1, 2] (.seq (.drawE [[], [0], [], [2], [2, 3], [0, 1, 2, 3, 4], [0, 1, 2, 3, 4, 5]] [.op (some 3) (.fadr (.t 1) 0),
     .op (some 4) (.load1 (.t 3)),
     .op (some 5) (.fadr (.t 1) 1),
     .op (some 6) (.load1 (.t 5)),
     .call (some 7) 33 [.t 6]]
    [.op (some 8) (.build [.int .i64 0, .nils 1] [(0, 1, .t 4), (1, 1, .t 7)]),
     .op none (.store 2 (.t 2) (.t 8))])
  (.keep [2] (.ret))))
theorem k_c_clone_fits : fitsF Try.prog 23 ⟨9, k_c_clone, [.cN 2 2]⟩ = true := by kernel_rfl
theorem c_clone {p : Page} (hw : p.slots.length ≤ 1048576) : Con Try.prog noMv 23 [p.av] [] (fun r h => r = pageO 0 p ∧ h = pageH 0 p) := by
  refine con_of2 k_c_clone_fits rfl fun C hP hmv => ?_
  unfold k_c_clone
  refine cx_seq ?_
  refine cx_ops ?_
  refine ax_e (e_box rfl rfl (by decide) rfl rfl rfl) ?_
  refine ax_e (e_alloc (by decide) rfl rfl) ?_
  refine ax_nil ?_
  refine cx_keep rfl rfl ?_
  refine cx_seq ?_
  refine cx_drawE ?_
  first | refine ⟨_, loc_q (q_fadr_ptr rfl), ?_⟩ | refine ⟨_, loc_q (q_fadr_rptr rfl), ?_⟩ | refine ⟨_, loc_q (q_fadr_ip rfl), ?_⟩
  first | refine ⟨_, loc_q (q_load1_ptr rfl rfl rfl), ?_⟩ | refine ⟨_, loc_q (q_load1_ip rfl), ?_⟩
  first | refine ⟨_, loc_q (q_fadr_ptr rfl), ?_⟩ | refine ⟨_, loc_q (q_fadr_rptr rfl), ?_⟩ | refine ⟨_, loc_q (q_fadr_ip rfl), ?_⟩
  first | refine ⟨_, loc_q (q_load1_ptr rfl rfl rfl), ?_⟩ | refine ⟨_, loc_q (q_load1_ip rfl), ?_⟩
  refine ⟨_, loc_call (fun _ => 7) false rfl (c_Clone hw) hP (.inr ⟨rfl, rfl, rfl⟩) rfl rfl (fun h => by cases h), ?_⟩
  refine ⟨rfl, ?_⟩
  refine ax_q (q_build rfl) ?_
  refine ax_e (e_st rfl rfl rfl rfl rfl rfl rfl) ?_
  refine ax_nil ?_
  refine cx_keep rfl rfl ?_
  refine cx_ret (retN (fun _ => 0) [7] rfl rfl rfl rfl rfl ?_)
  exact ⟨rfl, rfl⟩

/- loop.example/g00332/impl.PageSet -/
def k_c_PageSet : XCode :=
  .seq (.ops [.op (some 4) (.box (.t 0)),
     .op (some 8) (.alloc [.int .i64 0, .nils 1]),
     .op (some 9) (.mov (.k (.int .i64 0)))])
  (.keep [1, 2, 3, 4, 8] (.seq (.block 0 (.seq (.ops [.op (some 12) (.mov (.t 2)),
       .op (some 13) (.bslice 1 [.t 12]),
       .call (some 14) 19 [.t 13],
       .op (some 11) (.mov (.t 14))])
    (.keep [1, 2, 3, 4, 8, 11] (.cond (.t 11)
     (.seq (.ops [.op (some 15) (.build [.int .i64 0, .nils 1] []),
         .op none (.store 2 (.t 8) (.t 15)),
         .op (some 9) (.mov (.k (.int .i64 2)))])
      (.keep [8, 9] (.ret)))
     (.seq (.ops [.op (some 17) (.loadN 2 (.t 4)),
         .call (some 18) 20 [.t 17],
         .op (some 19) (.not (.t 18)),
         .op (some 16) (.mov (.t 19))])
      (.keep [1, 2, 3, 4, 8, 16] (.cond (.t 16)
       (.seq (.ops [.op (some 20) (.build [.int .i64 0, .nils 1] []),
           .op none (.store 2 (.t 8) (.t 20)),
           .op (some 9) (.mov (.k (.int .i64 1)))])
        (.keep [8, 9] (.ret)))
       (.seq (.ops [.op (some 22) (.mov (.t 1)),
           .call (some 23) 21 [.t 22, .k (.int .i64 4)],
           .op (some 24) (.not (.t 23)),
           .op (some 25) (.mov (.t 24)),
           .andor 29 false 3 25 [.op (some 26) (.mov (.t 2)), .op (some 27) (.lenT (.t 26)), .op (some 28) (.bin .gtr (.t 27) (.k (.int .i64 30)))] (.t 28),
           .op (some 30) (.mov (.t 29)),
           .andor 34 false 8 30 [.op (some 31) (.mov (.t 3)), .call (some 32) 22 [.t 31, .k (.int .i64 0), .k (.int .i64 1000)], .op (some 33) (.not (.t 32))] (.t 33),
           .op (some 21) (.mov (.t 34))])
        (.keep [1, 2, 3, 4, 8, 21] (.cond (.t 21)
         (.seq (.ops [.op (some 35) (.build [.int .i64 0, .nils 1] []),
             .op none (.store 2 (.t 8) (.t 35)),
             .op (some 9) (.mov (.k (.int .i64 4)))])
          (.keep [8, 9] (.ret)))
         (.skip)))))))))))
  (.keep [1, 2, 3, 4, 8] (.seq (.ops [.op (some 36) (.loadN 2 (.t 4)),
     .call (some 37) 23 [.t 36],
     .op (some 10) (.alloc [.int .i64 0, .nils 1]),
     .op none (.store 2 (.t 10) (.t 37))])
  (.keep [1, 2, 3, 8, 10] (.seq (.ops [.op (some 38) (.fadr (.t 10) 1),
     .op (some 39) (.load1 (.t 38)),
     .op (some 40) (.mov (.t 1)),
     .op (some 41) (.mov (.t 2)),
     .op (some 42) (.mov (.t 3)),
     .op (some 43) (.iadr 1 (.t 39) (.t 40)),
     .op none (.store 1 (.t 43) (.t 41)),
     .op (some 44) (.fadr (.t 10) 0),
     .op none (.store 1 (.t 44) (.t 42))])
  (.keep [8, 10] (.seq (.ops [.op (some 45) (.loadN 2 (.t 10)),
     .op none (.store 2 (.t 8) (.t 45)),
     .op (some 9) (.mov (.k (.int .i64 0)))])
  (.keep [8, 9] (.ret))))))))))
theorem k_c_PageSet_fits : fitsF Try.prog 8 ⟨46, k_c_PageSet, [.cN 8 2, .t 9]⟩ = true := by kernel_rfl
theorem c_PageSet {p : Page} {slot lsn : Int} {data : Str} (hw : wfStrs p.slots) (hl : p.slots.length ≤ 1048576) : Con Try.prog noMv 8 [p.av, int slot, str data, int lsn] [] (fun r h => r = .tup [pageO 0 (pageSet p slot data lsn).1, int (pageSet p slot data lsn).2] ∧ h = pageH 0 (pageSet p slot data lsn).1) := by
  refine con_of2 k_c_PageSet_fits rfl fun C hP hmv => ?_
  unfold k_c_PageSet
  refine cx_seq ?_
  refine cx_ops ?_
  refine ax_e (e_box rfl rfl (by decide) rfl rfl rfl) ?_
  refine ax_e (e_alloc (by decide) rfl rfl) ?_
  refine ax_q (q_mov rfl) ?_
  refine ax_nil ?_
  refine cx_keep rfl rfl ?_
  refine cx_seq ?_
  refine cx_block ?_
  refine cx_seq ?_
  refine cx_ops ?_
  refine ax_q (q_mov rfl) ?_
  refine ax_e (e_bslice rfl (by decide) rfl rfl) ?_
  refine ax_call rfl (vc_lend0 c_isLong hP (.cons (.lend (lend_whole rfl rfl)) .nil) rfl rfl ?_)
  refine ax_q (q_mov rfl) ?_
  refine ax_nil ?_
  refine cx_keep rfl rfl ?_
  refine cx_cond rfl (fun h0 => ?_) (fun h0 => ?_)
  · have h0 := dT h0
    refine cx_seq ?_
    refine cx_ops ?_
    refine ax_q (q_build rfl) ?_
    refine ax_e (e_st rfl rfl rfl rfl rfl rfl rfl) ?_
    refine ax_q (q_mov rfl) ?_
    refine ax_nil ?_
    refine cx_keep rfl rfl ?_
    have e : pageSet p slot data lsn = (.zero, 2) := by unfold pageSet; rw [if_pos h0]
    refine cx_wk (wk_virt 900 1 rfl rfl rfl) ?_
    refine cx_wk (wk_zsb 8 900 1 rfl rfl rfl) ?_
    refine cx_ret (retN (fun _ => 0) [900] rfl rfl rfl rfl rfl ?_)
    rw [e]; exact ⟨rfl, rfl⟩
  · have h0 := dF h0
    refine cx_seq ?_
    refine cx_ops ?_
    refine ax_q (q_ldN rfl rfl rfl) ?_
    refine ax_call rfl (vc_pure0 (c_PageOK hw) hP rfl rfl ?_)
    refine ax_q (q_not rfl) ?_
    refine ax_q (q_mov rfl) ?_
    refine ax_nil ?_
    refine cx_keep rfl rfl ?_
    refine cx_cond rfl (fun h1 => ?_) (fun h1 => ?_)
    · have h1 := bT h1
      refine cx_seq ?_
      refine cx_ops ?_
      refine ax_q (q_build rfl) ?_
      refine ax_e (e_st rfl rfl rfl rfl rfl rfl rfl) ?_
      refine ax_q (q_mov rfl) ?_
      refine ax_nil ?_
      refine cx_keep rfl rfl ?_
      have e : pageSet p slot data lsn = (.zero, 1) := by unfold pageSet; rw [if_neg h0, if_pos h1]
      refine cx_wk (wk_virt 900 1 rfl rfl rfl) ?_
      refine cx_wk (wk_zsb 8 900 1 rfl rfl rfl) ?_
      refine cx_ret (retN (fun _ => 0) [900] rfl rfl rfl rfl rfl ?_)
      rw [e]; exact ⟨rfl, rfl⟩
    · have h1 := bF h1
      refine cx_seq ?_
      refine cx_ops ?_
      refine ax_q (q_mov rfl) ?_
      refine ax_call rfl (vc_pure0 (c_isPlace (by omega)) hP rfl rfl ?_)
      refine ax_q (q_not rfl) ?_
      refine ax_q (q_mov rfl) ?_
      apply ax_andor rfl rfl
      · intro _
        refine ax_q (q_mov rfl) ?_
        refine ax_q (q_lenT rfl) ?_
        first | refine ax_q (q_ibin rfl rfl rfl) ?_ | refine ax_q (q_sbin rfl rfl rfl) ?_
        exact ax_nil ⟨rfl, by repeat (first | exact trivial | refine ⟨rfl, ?_⟩ | refine ⟨?_, ?_⟩)⟩
      refine ax_q (q_mov rfl) ?_
      apply ax_andor rfl rfl
      · intro _
        refine ax_q (q_mov rfl) ?_
        refine ax_call rfl (vc_pure0 c_inRange hP rfl rfl ?_)
        refine ax_q (q_not rfl) ?_
        exact ax_nil ⟨rfl, by repeat (first | exact trivial | refine ⟨rfl, ?_⟩ | refine ⟨?_, ?_⟩)⟩
      refine ax_q (q_mov rfl) ?_
      refine ax_nil ?_
      refine cx_keep rfl rfl ?_
      refine cx_cond rfl (fun h2 => ?_) (fun h2 => ?_)
      · have h2 : (!inR slot 0 3 || decide ((30 : Int) < (data.length : Int)) || !inR lsn 0 1000) = true := h2
        refine cx_seq ?_
        refine cx_ops ?_
        refine ax_q (q_build rfl) ?_
        refine ax_e (e_st rfl rfl rfl rfl rfl rfl rfl) ?_
        refine ax_q (q_mov rfl) ?_
        refine ax_nil ?_
        refine cx_keep rfl rfl ?_
        have e : pageSet p slot data lsn = (.zero, 4) := by unfold pageSet; rw [if_neg h0, if_neg (by rw [h1]; simp), if_pos h2]
        refine cx_wk (wk_virt 900 1 rfl rfl rfl) ?_
        refine cx_wk (wk_zsb 8 900 1 rfl rfl rfl) ?_
        refine cx_ret (retN (fun _ => 0) [900] rfl rfl rfl rfl rfl ?_)
        rw [e]; exact ⟨rfl, rfl⟩
      · obtain ⟨e, k, rfl, hk⟩ := pageSet_set h0 h1 h2
        refine cx_skip ?_
        refine cx_keep rfl rfl ?_
        refine cx_seq ?_
        refine cx_ops ?_
        refine ax_q (q_ldN rfl rfl rfl) ?_
        refine ax_call rfl (vc_pure (c_clone hl) hP rfl ?_)
        rintro r h ⟨rfl, rfl⟩
        refine ⟨fun _ => 37, [0], ⟨rfl, rfl, rfl, rfl, rfl, fun h => by cases h⟩, ?_⟩
        refine ax_e (e_alloc (by decide) rfl rfl) ?_
        refine ax_e (e_st rfl rfl rfl rfl rfl rfl rfl) ?_
        refine ax_nil ?_
        refine cx_keep rfl rfl ?_
        refine cx_seq ?_
        refine cx_ops ?_
        first | refine ax_q (q_fadr_ptr rfl) ?_ | refine ax_q (q_fadr_rptr rfl) ?_ | refine ax_q (q_fadr_ip rfl) ?_
        first | refine ax_q (q_load1_ptr rfl rfl rfl) ?_ | refine ax_q (q_load1_ip rfl) ?_
        refine ax_q (q_mov rfl) ?_
        refine ax_q (q_mov rfl) ?_
        refine ax_q (q_mov rfl) ?_
        refine ax_q (q_ixo rfl rfl hk) ?_
        refine ax_e (e_str (q := strRow data) rfl rfl rfl rfl rfl rfl (mapAt hk) rfl rfl List.map_set.symm) ?_
        first | refine ax_q (q_fadr_ptr rfl) ?_ | refine ax_q (q_fadr_rptr rfl) ?_ | refine ax_q (q_fadr_ip rfl) ?_
        refine ax_e (e_st rfl rfl rfl rfl rfl rfl rfl) ?_
        refine ax_nil ?_
        refine cx_keep rfl rfl ?_
        refine cx_seq ?_
        refine cx_ops ?_
        refine ax_q (q_ldN rfl rfl rfl) ?_
        refine ax_e (e_st rfl rfl rfl rfl rfl rfl rfl) ?_
        refine ax_q (q_mov rfl) ?_
        refine ax_nil ?_
        refine cx_keep rfl rfl ?_
        refine cx_ret (retN (fun _ => 0) [37] rfl rfl rfl rfl rfl ?_)
        rw [e]; exact ⟨by show AV.tup [AV.agg [int lsn, .osl 0 1 0 p.slots.length], int 0] = AV.tup [AV.agg [int lsn, .osl 0 1 0 (p.slots.set k data).length], int 0]; rw [List.length_set], rfl⟩

/- loop.example/g00332/laws.eqStringS -/
def k_c_eqStringS : XCode :=
  .seq (.ops [.op (some 4) (.mov (.k (.bool false)))])
  (.keep [0, 1] (.seq (.seq (.ops [.op (some 6) (.mov (.t 0)),
      .op (some 7) (.lenS (.t 6)),
      .op (some 8) (.mov (.t 1)),
      .op (some 9) (.lenS (.t 8)),
      .op (some 10) (.bin .neq (.t 7) (.t 9))])
   (.keep [0, 1, 10] (.cond (.t 10)
    (.seq (.ops [.op (some 4) (.mov (.k (.bool false)))])
     (.keep [4] (.ret)))
    (.skip))))
  (.keep [0, 1] (.seq (.seq (.ops [.op (some 5) (.mov (.k (.int .i64 0)))])
   (.keep [0, 1, 5] (.block 0 (.loop (.seq (.seq (.ops [.op (some 11) (.mov (.t 5)),
         .op (some 12) (.mov (.t 0)),
         .op (some 13) (.lenS (.t 12)),
         .op (some 14) (.bin .lss (.t 11) (.t 13))])
      (.keep [0, 1, 5, 14] (.cond (.t 14)
       (.skip)
       (.exit 0))))
     (.keep [0, 1, 5] (.seq (.block 1 (.seq (.draw [.op (some 17) (.mov (.t 0)),
          .op (some 18) (.mov (.t 5)),
          .op (some 19) (.iadr 1 (.t 17) (.t 18)),
          .op (some 20) (.load1 (.t 19)),
          .op (some 21) (.mov (.t 1)),
          .op (some 22) (.mov (.t 5)),
          .op (some 23) (.iadr 1 (.t 21) (.t 22)),
          .op (some 24) (.load1 (.t 23)),
          .op (some 25) (.bin .neq (.t 20) (.t 24))])
       (.keep [0, 1, 5, 25] (.cond (.t 25)
        (.seq (.ops [.op (some 4) (.mov (.k (.bool false)))])
         (.keep [4] (.ret)))
        (.skip)))))
     (.keep [0, 1, 5] (.ops [.op (some 15) (.mov (.t 5)),
       .op (some 16) (.bin .add (.t 15) (.k (.int .i64 1))),
       .op (some 5) (.mov (.t 16))])))))))))
  (.keep [] (.seq (.ops [.op (some 4) (.mov (.k (.bool true)))])
  (.keep [4] (.ret))))))))
theorem k_c_eqStringS_fits : fitsF Try.prog 24 ⟨26, k_c_eqStringS, [.t 4]⟩ = true := by kernel_rfl
theorem c_eqStringS {xs ys : List Str} (hw : xs.length ≤ 9223372036854775807) : Con Try.prog noMv 24 [.d (strs xs), .d (strs ys)] [] (fun r h => r = bool (decide (xs = ys)) ∧ h = []) := by
  refine con_of2 k_c_eqStringS_fits rfl fun C hP hmv => ?_
  unfold k_c_eqStringS
  refine cx_seq ?_
  refine cx_ops ?_
  refine ax_q (q_mov rfl) ?_
  refine ax_nil ?_
  refine cx_keep rfl rfl ?_
  refine cx_seq ?_
  refine cx_seq ?_
  refine cx_ops ?_
  refine ax_q (q_mov rfl) ?_
  first | refine ax_q (q_lenS rfl) ?_ | refine ax_q (q_lenS_osl rfl) ?_ | refine ax_q (q_lenS_zs rfl) ?_
  refine ax_q (q_mov rfl) ?_
  first | refine ax_q (q_lenS rfl) ?_ | refine ax_q (q_lenS_osl rfl) ?_ | refine ax_q (q_lenS_zs rfl) ?_
  first | refine ax_q (q_ibin rfl rfl rfl) ?_ | refine ax_q (q_sbin rfl rfl rfl) ?_
  refine ax_nil ?_
  refine cx_keep rfl rfl ?_
  refine cx_cond rfl (fun h1 => ?_) (fun h1 => ?_)
  · skip
    refine cx_seq ?_
    refine cx_ops ?_
    refine ax_q (q_mov rfl) ?_
    refine ax_nil ?_
    refine cx_keep rfl rfl ?_
    refine cx_ret (ret0 rfl rfl ?_)
    have h1 := nT h1; simp only [strs_len] at h1
    have : xs.length ≠ ys.length := by omega
    exact ⟨by rw [decide_eq_false (fun h => this (by rw [h]))]; rfl, rfl⟩
  · skip
    refine cx_skip ?_
    refine cx_keep rfl rfl ?_
    refine cx_seq ?_
    refine cx_seq ?_
    refine cx_ops ?_
    refine ax_q (q_mov rfl) ?_
    refine ax_nil ?_
    refine cx_keep rfl rfl ?_
    refine cx_block ?_
    have h1 := nF h1; simp only [strs_len] at h1
    have hl : xs.length = ys.length := by omega
    refine cx_loopU (fun n k => k ≤ xs.length ∧ n = xs.length - k ∧ xs.take k = ys.take k) (fun k : Nat => [(5, int k)]) (fun _ => []) ⟨_, 0, ⟨Nat.zero_le _, rfl, rfl⟩, by repeat (first | exact trivial | refine ⟨rfl, ?_⟩ | refine ⟨?_, ?_⟩)⟩ ?_
    rintro n k ⟨hk, rfl, ht⟩
    refine cx_seq ?_
    refine cx_seq ?_
    refine cx_ops ?_
    refine ax_q (q_mov rfl) ?_
    refine ax_q (q_mov rfl) ?_
    first | refine ax_q (q_lenS rfl) ?_ | refine ax_q (q_lenS_osl rfl) ?_ | refine ax_q (q_lenS_zs rfl) ?_
    first | refine ax_q (q_ibin rfl rfl rfl) ?_ | refine ax_q (q_sbin rfl rfl rfl) ?_
    refine ax_nil ?_
    refine cx_keep rfl rfl ?_
    refine cx_cond rfl (fun h2 => ?_) (fun h2 => ?_)
    · have h2 : k < xs.length := by have := of_decide_eq_true h2; simpa [strs_len] using this
      have h2' : k < ys.length := hl ▸ h2
      refine cx_skip ?_
      refine cx_keep rfl rfl ?_
      refine cx_seq ?_
      refine cx_block ?_
      refine cx_seq ?_
      refine cx_draw ?_
      refine ax_q (q_mov rfl) ?_
      refine ax_q (q_mov rfl) ?_
      refine ax_q (q_ix rfl rfl (mapAt h2)) ?_
      first | refine ax_q (q_load1_ptr rfl rfl rfl) ?_ | refine ax_q (q_load1_ip rfl) ?_
      refine ax_q (q_mov rfl) ?_
      refine ax_q (q_mov rfl) ?_
      refine ax_q (q_ix rfl rfl (mapAt h2')) ?_
      first | refine ax_q (q_load1_ptr rfl rfl rfl) ?_ | refine ax_q (q_load1_ip rfl) ?_
      first | refine ax_q (q_ibin rfl rfl rfl) ?_ | refine ax_q (q_sbin rfl rfl rfl) ?_
      refine ax_nil ?_
      refine cx_keep rfl rfl ?_
      refine cx_cond rfl (fun h3 => ?_) (fun h3 => ?_)
      · have h3 : xs[k] ≠ ys[k] := by simpa using h3
        refine cx_seq ?_
        refine cx_ops ?_
        refine ax_q (q_mov rfl) ?_
        refine ax_nil ?_
        refine cx_keep rfl rfl ?_
        refine cx_ret (ret0 rfl rfl ?_)
        exact ⟨by rw [decide_eq_false (fun h => h3 (by subst h; rfl))]; rfl, rfl⟩
      · have h3 : xs[k] = ys[k] := by simpa using h3
        refine cx_skip ?_
        refine cx_keep rfl rfl ?_
        refine cx_ops ?_
        refine ax_q (q_mov rfl) ?_
        refine ax_qe (r' := int ((k + 1 : Nat) : Int)) (q_ibin rfl rfl rfl) (by rw [wi (by omega) (by omega)]; rfl) ?_
        refine ax_q (q_mov rfl) ?_
        refine ax_nil ?_
        exact ⟨_, k + 1, by omega, ⟨by omega, rfl, take_step h2 h2' ht h3⟩, by repeat (first | exact trivial | refine ⟨rfl, ?_⟩ | refine ⟨?_, ?_⟩)⟩
    · have h2 : ¬ k < xs.length := by have := of_decide_eq_false h2; simpa [strs_len] using this
      refine cx_exit rfl ?_
      refine cx_keep rfl rfl ?_
      refine cx_seq ?_
      refine cx_ops ?_
      refine ax_q (q_mov rfl) ?_
      refine ax_nil ?_
      refine cx_keep rfl rfl ?_
      refine cx_ret (ret0 rfl rfl ?_)
      exact ⟨by rw [decide_eq_true (eq_of_take hl (by rwa [show k = xs.length from by omega] at ht))]; rfl, rfl⟩

/- loop.example/g00332/laws.eqPage -/
def k_c_eqPage : XCode :=
  .seq (.ops [.op (some 2) (.box (.t 0)),
     .op (some 3) (.box (.t 1)),
     .op (some 4) (.mov (.k (.bool false)))])
  (.keep [2, 3] (.seq (.seq (.ops [.op (some 5) (.fadr (.t 2) 0),
      .op (some 6) (.load1 (.t 5)),
      .op (some 7) (.fadr (.t 3) 0),
      .op (some 8) (.load1 (.t 7)),
      .op (some 9) (.bin .neq (.t 6) (.t 8))])
   (.keep [2, 3, 9] (.cond (.t 9)
    (.seq (.ops [.op (some 4) (.mov (.k (.bool false)))])
     (.keep [4] (.ret)))
    (.skip))))
  (.keep [2, 3] (.seq (.seq (.ops [.op (some 10) (.fadr (.t 2) 1),
      .op (some 11) (.load1 (.t 10)),
      .op (some 12) (.fadr (.t 3) 1),
      .op (some 13) (.load1 (.t 12)),
      .call (some 14) 24 [.t 11, .t 13],
      .op (some 15) (.not (.t 14))])
   (.keep [15] (.cond (.t 15)
    (.seq (.ops [.op (some 4) (.mov (.k (.bool false)))])
     (.keep [4] (.ret)))
    (.skip))))
  (.keep [] (.seq (.ops [.op (some 4) (.mov (.k (.bool true)))])
  (.keep [4] (.ret))))))))
theorem k_c_eqPage_fits : fitsF Try.prog 9 ⟨16, k_c_eqPage, [.t 4]⟩ = true := by kernel_rfl
theorem c_eqPage {p q : Page} (hw : p.slots.length ≤ 9223372036854775807) : Con Try.prog noMv 9 [p.av, q.av] [] (fun r h => r = bool (eqb p q) ∧ h = []) := by
  refine con_of2 k_c_eqPage_fits rfl fun C hP hmv => ?_
  unfold k_c_eqPage
  refine cx_seq ?_
  refine cx_ops ?_
  refine ax_e (e_box rfl rfl (by decide) rfl rfl rfl) ?_
  refine ax_e (e_box rfl rfl (by decide) rfl rfl rfl) ?_
  refine ax_q (q_mov rfl) ?_
  refine ax_nil ?_
  refine cx_keep rfl rfl ?_
  refine cx_seq ?_
  refine cx_seq ?_
  refine cx_ops ?_
  first | refine ax_q (q_fadr_ptr rfl) ?_ | refine ax_q (q_fadr_rptr rfl) ?_ | refine ax_q (q_fadr_ip rfl) ?_
  first | refine ax_q (q_load1_ptr rfl rfl rfl) ?_ | refine ax_q (q_load1_ip rfl) ?_
  first | refine ax_q (q_fadr_ptr rfl) ?_ | refine ax_q (q_fadr_rptr rfl) ?_ | refine ax_q (q_fadr_ip rfl) ?_
  first | refine ax_q (q_load1_ptr rfl rfl rfl) ?_ | refine ax_q (q_load1_ip rfl) ?_
  first | refine ax_q (q_ibin rfl rfl rfl) ?_ | refine ax_q (q_sbin rfl rfl rfl) ?_
  refine ax_nil ?_
  refine cx_keep rfl rfl ?_
  refine cx_cond rfl (fun h1 => ?_) (fun h1 => ?_)
  · have h1 := nT h1
    refine cx_seq ?_
    refine cx_ops ?_
    refine ax_q (q_mov rfl) ?_
    refine ax_nil ?_
    refine cx_keep rfl rfl ?_
    refine cx_ret (ret0 rfl rfl ?_)
    exact ⟨by rw [eqb_f (fun h => h1 (by rw [h]))]; rfl, rfl⟩
  · have h1 := nF h1
    refine cx_skip ?_
    refine cx_keep rfl rfl ?_
    refine cx_seq ?_
    refine cx_seq ?_
    refine cx_ops ?_
    first | refine ax_q (q_fadr_ptr rfl) ?_ | refine ax_q (q_fadr_rptr rfl) ?_ | refine ax_q (q_fadr_ip rfl) ?_
    first | refine ax_q (q_load1_ptr rfl rfl rfl) ?_ | refine ax_q (q_load1_ip rfl) ?_
    first | refine ax_q (q_fadr_ptr rfl) ?_ | refine ax_q (q_fadr_rptr rfl) ?_ | refine ax_q (q_fadr_ip rfl) ?_
    first | refine ax_q (q_load1_ptr rfl rfl rfl) ?_ | refine ax_q (q_load1_ip rfl) ?_
    refine ax_call rfl (vc_pure0 (c_eqStringS hw) hP rfl rfl ?_)
    refine ax_q (q_not rfl) ?_
    refine ax_nil ?_
    refine cx_keep rfl rfl ?_
    refine cx_cond rfl (fun h2 => ?_) (fun h2 => ?_)
    · have h2 := nT h2
      refine cx_seq ?_
      refine cx_ops ?_
      refine ax_q (q_mov rfl) ?_
      refine ax_nil ?_
      refine cx_keep rfl rfl ?_
      refine cx_ret (ret0 rfl rfl ?_)
      exact ⟨by rw [eqb_f (fun h => h2 (by rw [h]))]; rfl, rfl⟩
    · have h2 := nF h2
      refine cx_skip ?_
      refine cx_keep rfl rfl ?_
      refine cx_seq ?_
      refine cx_ops ?_
      refine ax_q (q_mov rfl) ?_
      refine ax_nil ?_
      refine cx_keep rfl rfl ?_
      refine cx_ret (ret0 rfl rfl ?_)
      exact ⟨by rw [eqb_t (page_ext h1 h2)]; rfl, rfl⟩

/- loop.example/g00332/laws.markText -/
def k_c_markText : XCode :=
  .seq (.ops [.op (some 2) (.mov (.k (.str [])))])
  (.keep [0] (.seq (.seq (.ops [.op (some 4) (.mov (.t 0)),
      .op (some 5) (.bin .leq (.t 4) (.k (.int .i64 0)))])
   (.keep [0, 5] (.cond (.t 5)
    (.seq (.ops [.op (some 2) (.mov (.k (.str [109, 48])))])
     (.keep [2] (.ret)))
    (.skip))))
  (.keep [0] (.seq (.ops [.op (some 3) (.mov (.k (.str [])))])
  (.keep [0, 3] (.seq (.block 0 (.loop (.seq (.seq (.ops [.op (some 6) (.mov (.t 0)),
         .op (some 7) (.bin .gtr (.t 6) (.k (.int .i64 0)))])
      (.keep [0, 3, 7] (.cond (.t 7)
       (.skip)
       (.exit 0))))
     (.keep [0, 3] (.block 1 (.seq (.ops [.op (some 8) (.mov (.t 0)),
         .op (some 9) (.bin .rem (.t 8) (.k (.int .i64 10))),
         .op (some 10) (.bin .add (.k (.int .i64 48)) (.t 9)),
         .op (some 11) (.conv .u8 (.t 10)),
         .op (some 12) (.bslice 1 [.t 11]),
         .op (some 13) (.b2s (.t 12)),
         .op (some 14) (.mov (.t 3)),
         .op (some 15) (.bin .add (.t 13) (.t 14)),
         .op (some 3) (.mov (.t 15))])
      (.keep [0, 3] (.ops [.op (some 16) (.mov (.t 0)),
        .op (some 17) (.bin .quo (.t 16) (.k (.int .i64 10))),
        .op (some 0) (.mov (.t 17))]))))))))
  (.keep [3] (.seq (.ops [.op (some 18) (.mov (.t 3)),
     .op (some 19) (.bin .add (.k (.str [109])) (.t 18)),
     .op (some 2) (.mov (.t 19))])
  (.keep [2] (.ret))))))))))
theorem k_c_markText_fits : fitsF Try.prog 34 ⟨20, k_c_markText, [.t 2]⟩ = true := by kernel_rfl
theorem c_markText {k : Nat} (hk : k ≤ 1000000000000000000) : Con Try.prog noMv 34 [int k] [] (fun r h => r = str (mkT k) ∧ h = []) := by
  refine con_of2 k_c_markText_fits rfl fun C hP hmv => ?_
  unfold k_c_markText
  refine cx_seq ?_
  refine cx_ops ?_
  refine ax_q (q_mov rfl) ?_
  refine ax_nil ?_
  refine cx_keep rfl rfl ?_
  refine cx_seq ?_
  refine cx_seq ?_
  refine cx_ops ?_
  refine ax_q (q_mov rfl) ?_
  first | refine ax_q (q_ibin rfl rfl rfl) ?_ | refine ax_q (q_sbin rfl rfl rfl) ?_
  refine ax_nil ?_
  refine cx_keep rfl rfl ?_
  refine cx_cond rfl (fun h1 => ?_) (fun h1 => ?_)
  · have h1 : k = 0 := by have := of_decide_eq_true h1; omega
    refine cx_seq ?_
    refine cx_ops ?_
    refine ax_q (q_mov rfl) ?_
    refine ax_nil ?_
    refine cx_keep rfl rfl ?_
    refine cx_ret (ret0 rfl rfl ?_)
    exact ⟨by rw [mkT, if_pos h1]; rfl, rfl⟩
  · have h1 : k ≠ 0 := by have := of_decide_eq_false h1; omega
    refine cx_skip ?_
    refine cx_keep rfl rfl ?_
    refine cx_seq ?_
    refine cx_ops ?_
    refine ax_q (q_mov rfl) ?_
    refine ax_nil ?_
    refine cx_keep rfl rfl ?_
    refine cx_seq ?_
    refine cx_block ?_
    refine cx_loopU (fun n (p : Nat × Str) => n = p.1 ∧ ∃ f, digs f p.1 p.2 = digs 20 k [] ∧ p.1 < 10 ^ f ∧ f + p.2.length ≤ 20 ∧ p.1 ≤ k) (fun p => [(0, int p.1), (3, str p.2)]) (fun _ => []) ⟨_, (k, []), ⟨rfl, 20, rfl, by omega, by simp, Nat.le_refl _⟩, by repeat (first | exact trivial | refine ⟨rfl, ?_⟩ | refine ⟨?_, ?_⟩)⟩ ?_
    rintro m ⟨m2, o⟩ ⟨rfl, f, hd, hm, hf, hmk⟩
    simp only at hd hm hf hmk ⊢
    refine cx_seq ?_
    refine cx_seq ?_
    refine cx_ops ?_
    refine ax_q (q_mov rfl) ?_
    first | refine ax_q (q_ibin rfl rfl rfl) ?_ | refine ax_q (q_sbin rfl rfl rfl) ?_
    refine ax_nil ?_
    refine cx_keep rfl rfl ?_
    refine cx_cond rfl (fun h2 => ?_) (fun h2 => ?_)
    · have h2 : 0 < m := by have := of_decide_eq_true h2; omega
      obtain ⟨f, rfl⟩ : ∃ g, f = g + 1 := ⟨f - 1, by cases f with
        | zero => simp at hm; omega
        | succ f => rfl⟩
      have hd2 : ∃ f', digs f' (m / 10) (UInt8.ofNat (48 + m % 10) :: o) = digs 20 k [] ∧ m / 10 < 10 ^ f' ∧ f' + (UInt8.ofNat (48 + m % 10) :: o).length ≤ 20 ∧ m / 10 ≤ k := ⟨f, by rw [← hd, digs, if_neg (by omega)], by rw [Nat.pow_succ] at hm; omega, by simp only [List.length_cons]; omega, by omega⟩
      refine cx_skip ?_
      refine cx_keep rfl rfl ?_
      refine cx_block ?_
      refine cx_seq ?_
      refine cx_ops ?_
      refine ax_q (q_mov rfl) ?_
      refine ax_qe (r' := int ((m % 10 : Nat) : Int)) (q_idiv rfl rfl rfl (by decide)) (by rw [Int.tmod_eq_emod_of_nonneg (by omega)]; rfl) ?_
      refine ax_qe (r' := int ((48 + m % 10 : Nat) : Int)) (q_ibin rfl rfl rfl) (by rw [wi (by omega) (by omega)]; rfl) ?_
      refine ax_qe (r' := .d (.int .u8 ((UInt8.ofNat (48 + m % 10)).toNat : Int))) (q_conv rfl) (by rw [byteConv (by omega)]) ?_
      refine ax_e (e_bslice rfl (by decide) rfl rfl) ?_
      refine ax_q (q_b2s (bs := [UInt8.ofNat (48 + m % 10)]) rfl (src_osl rfl (by simp)) (by simp [byteRow]) ⟨_, _, _, _, .inl rfl⟩) ?_
      refine ax_q (q_mov rfl) ?_
      refine ax_qe (r' := str (UInt8.ofNat (48 + m % 10) :: o)) (q_sbin_add rfl rfl (by simp; omega)) (rfl) ?_
      refine ax_q (q_mov rfl) ?_
      refine ax_nil ?_
      refine cx_keep rfl rfl ?_
      refine cx_ops ?_
      refine ax_q (q_mov rfl) ?_
      refine ax_qe (r' := int ((m / 10 : Nat) : Int)) (q_idiv rfl rfl rfl (by decide)) (by rw [Int.tdiv_eq_ediv_of_nonneg (by omega), wi (by omega) (by omega)]; rfl) ?_
      refine ax_q (q_mov rfl) ?_
      refine ax_nil ?_
      exact ⟨_, (m / 10, UInt8.ofNat (48 + m % 10) :: o), by simp only; omega, ⟨rfl, hd2⟩, by repeat (first | exact trivial | refine ⟨rfl, ?_⟩ | refine ⟨?_, ?_⟩)⟩
    · have h2 : m = 0 := by have := of_decide_eq_false h2; omega
      refine cx_exit rfl ?_
      refine cx_keep rfl rfl ?_
      refine cx_seq ?_
      refine cx_ops ?_
      refine ax_q (q_mov rfl) ?_
      refine ax_q (q_sbin_add rfl rfl (by simp; omega)) ?_
      refine ax_q (q_mov rfl) ?_
      refine ax_nil ?_
      refine cx_keep rfl rfl ?_
      refine cx_ret (ret0 rfl rfl ?_)
      exact ⟨by subst h2; rw [digs0] at hd; rw [hd, mkT, if_neg h1]; rfl, rfl⟩

/- loop.example/g00332/laws.markStringS -/
def k_c_markStringS : XCode :=
  .seq (.ops [.op (some 4) (.mov (.k (.int .i64 0)))])
  (.keep [0, 1] (.seq (.seq (.ops [.op (some 5) (.mov (.k (.int .i64 0)))])
   (.keep [0, 1, 5] (.block 0 (.loop (.seq (.seq (.ops [.op (some 6) (.mov (.t 5)),
         .op (some 7) (.mov (.t 0)),
         .op (some 8) (.lenS (.t 7)),
         .op (some 9) (.bin .lss (.t 6) (.t 8))])
      (.keep [0, 1, 5, 9] (.cond (.t 9)
       (.skip)
       (.exit 0))))
     (.keep [0, 1, 5] (.seq (.block 1 (.seq (.ops [.op (some 12) (.mov (.t 0)),
          .op (some 13) (.mov (.t 5)),
          .op (some 14) (.mov (.t 1)),
          .call (some 15) 34 [.t 14],
          .op (some 16) (.iadr 1 (.t 12) (.t 13)),
          .op none (.store 1 (.t 16) (.t 15))])
       (.keep [0, 1, 5] (.ops [.op (some 17) (.mov (.t 1)),
         .op (some 18) (.bin .add (.t 17) (.k (.int .i64 1))),
         .op (some 1) (.mov (.t 18))]))))
     (.keep [0, 1, 5] (.ops [.op (some 10) (.mov (.t 5)),
       .op (some 11) (.bin .add (.t 10) (.k (.int .i64 1))),
       .op (some 5) (.mov (.t 11))])))))))))
  (.keep [1] (.seq (.ops [.op (some 19) (.mov (.t 1)),
     .op (some 4) (.mov (.t 19))])
  (.keep [4] (.ret))))))
theorem k_c_markStringS_fits : fitsF Try.prog 25 ⟨20, k_c_markStringS, [.t 4]⟩ = true := by kernel_rfl
theorem c_markStringS {xs : List Str} {k0 : Nat} (hw : k0 + xs.length ≤ 1000000000000000000) : Con Try.prog noMv 25 [.osl 1000 1 0 xs.length, int k0] [(1000, .rows 1 (xs.map strRow))] (fun r h => r = int ((k0 + xs.length : Nat) : Int) ∧ h = [(1000, .rows 1 ((marks k0 xs.length).map strRow))]) := by
  refine con_of2 k_c_markStringS_fits rfl fun C hP hmv => ?_
  unfold k_c_markStringS
  refine cx_seq ?_
  refine cx_ops ?_
  refine ax_q (q_mov rfl) ?_
  refine ax_nil ?_
  refine cx_keep rfl rfl ?_
  refine cx_seq ?_
  refine cx_seq ?_
  refine cx_ops ?_
  refine ax_q (q_mov rfl) ?_
  refine ax_nil ?_
  refine cx_keep rfl rfl ?_
  refine cx_block ?_
  refine cx_loopU (fun n k => k ≤ xs.length ∧ n = xs.length - k) (fun k : Nat => [(1, int ((k0 + k : Nat) : Int)), (5, int k)]) (fun k => [(1000, .rows 1 ((marks k0 k ++ xs.drop k).map strRow))]) ⟨_, 0, ⟨Nat.zero_le _, rfl⟩, by repeat (first | exact trivial | refine ⟨rfl, ?_⟩ | refine ⟨?_, ?_⟩)⟩ ?_
  rintro n k ⟨hk, rfl⟩
  refine cx_seq ?_
  refine cx_seq ?_
  refine cx_ops ?_
  refine ax_q (q_mov rfl) ?_
  refine ax_q (q_mov rfl) ?_
  first | refine ax_q (q_lenS rfl) ?_ | refine ax_q (q_lenS_osl rfl) ?_ | refine ax_q (q_lenS_zs rfl) ?_
  first | refine ax_q (q_ibin rfl rfl rfl) ?_ | refine ax_q (q_sbin rfl rfl rfl) ?_
  refine ax_nil ?_
  refine cx_keep rfl rfl ?_
  refine cx_cond rfl (fun h2 => ?_) (fun h2 => ?_)
  · have h2 : k < xs.length := by have := of_decide_eq_true h2; simpa using this
    refine cx_skip ?_
    refine cx_keep rfl rfl ?_
    refine cx_seq ?_
    refine cx_block ?_
    refine cx_seq ?_
    refine cx_ops ?_
    refine ax_q (q_mov rfl) ?_
    refine ax_q (q_mov rfl) ?_
    refine ax_q (q_mov rfl) ?_
    refine ax_call rfl (vc_pure0 (c_markText (by omega)) hP rfl rfl ?_)
    refine ax_q (q_ixo rfl rfl h2) ?_
    refine ax_e (e_str (q := strRow (mkT (k0 + k))) rfl rfl rfl rfl rfl rfl (markAt h2) rfl rfl (markSet h2)) ?_
    refine ax_nil ?_
    refine cx_keep rfl rfl ?_
    refine cx_ops ?_
    refine ax_q (q_mov rfl) ?_
    refine ax_qe (r' := int ((k0 + (k + 1) : Nat) : Int)) (q_ibin rfl rfl rfl) (by rw [wi (by omega) (by omega)]; rfl) ?_
    refine ax_q (q_mov rfl) ?_
    refine ax_nil ?_
    refine cx_keep rfl rfl ?_
    refine cx_ops ?_
    refine ax_q (q_mov rfl) ?_
    refine ax_qe (r' := int ((k + 1 : Nat) : Int)) (q_ibin rfl rfl rfl) (by rw [wi (by omega) (by omega)]; rfl) ?_
    refine ax_q (q_mov rfl) ?_
    refine ax_nil ?_
    exact ⟨_, k + 1, by omega, ⟨by omega, rfl⟩, by repeat (first | exact trivial | refine ⟨rfl, ?_⟩ | refine ⟨?_, ?_⟩)⟩
  · have h2 : ¬ k < xs.length := by have := of_decide_eq_false h2; simpa using this
    refine cx_exit rfl ?_
    refine cx_keep rfl rfl ?_
    refine cx_seq ?_
    refine cx_ops ?_
    refine ax_q (q_mov rfl) ?_
    refine ax_q (q_mov rfl) ?_
    refine ax_nil ?_
    refine cx_keep rfl rfl ?_
    have hk2 : k = xs.length := by omega
    subst hk2
    refine cx_ret (retN id [1000] rfl rfl rfl rfl rfl ?_)
    exact ⟨rfl, by rw [List.drop_length, List.append_nil]; rfl⟩

/- loop.example/g00332/laws.markPage -/
def k_c_markPage : XCode :=
  .seq (.ops [.op (some 2) (.box (.t 0)),
     .op (some 4) (.mov (.k (.int .i64 0)))])
  (.keep [1, 2] (.seq (.ops [.op (some 5) (.fadr (.t 2) 1),
     .op (some 6) (.load1 (.t 5)),
     .op (some 7) (.mov (.t 1)),
     .call (some 8) 25 [.t 6, .t 7],
     .op (some 1) (.mov (.t 8))])
  (.keep [1] (.seq (.ops [.op (some 9) (.mov (.t 1)),
     .op (some 4) (.mov (.t 9))])
  (.keep [4] (.ret))))))
theorem k_c_markPage_fits : fitsF Try.prog 10 ⟨10, k_c_markPage, [.t 4]⟩ = true := by kernel_rfl
theorem c_markPage {p : Page} {k0 : Nat} (hw : k0 + p.slots.length ≤ 1000000000000000000) : Con Try.prog noMv 10 [pageO 1000 p, int k0] (pageH 1000 p) (fun r h => r = int ((k0 + p.slots.length : Nat) : Int) ∧ h = [(1000, .rows 1 ((marks k0 p.slots.length).map strRow))]) := by
  refine con_of2 k_c_markPage_fits rfl fun C hP hmv => ?_
  unfold k_c_markPage
  refine cx_seq ?_
  refine cx_ops ?_
  refine ax_e (e_box rfl rfl (by decide) rfl rfl rfl) ?_
  refine ax_q (q_mov rfl) ?_
  refine ax_nil ?_
  refine cx_keep rfl rfl ?_
  refine cx_seq ?_
  refine cx_ops ?_
  first | refine ax_q (q_fadr_ptr rfl) ?_ | refine ax_q (q_fadr_rptr rfl) ?_ | refine ax_q (q_fadr_ip rfl) ?_
  first | refine ax_q (q_load1_ptr rfl rfl rfl) ?_ | refine ax_q (q_load1_ip rfl) ?_
  refine ax_q (q_mov rfl) ?_
  refine ax_call rfl (vcall_own (c_markStringS hw) hP hmv false id [1000] ⟨rfl, rfl, rfl, rfl, ⟨rfl, trivial⟩, rfl, rfl, rfl⟩ (.pass rfl rfl (.pass rfl rfl .nil)) ?_)
  rintro r h ⟨rfl, rfl⟩
  refine ⟨id, [], ⟨rfl, rfl, rfl, rfl, fun _ _ => rfl, rfl, rfl, fun h => by cases h⟩, ?_⟩
  refine ax_q (q_mov rfl) ?_
  refine ax_nil ?_
  refine cx_keep rfl rfl ?_
  refine cx_seq ?_
  refine cx_ops ?_
  refine ax_q (q_mov rfl) ?_
  refine ax_q (q_mov rfl) ?_
  refine ax_nil ?_
  refine cx_keep rfl rfl ?_
  refine cx_ret (retN id [1000] rfl rfl rfl rfl rfl ?_)
  exact ⟨rfl, rfl⟩

/- loop.example/g00332/laws.heldStringS -/
def k_c_heldStringS : XCode :=
  .seq (.ops [.op (some 4) (.mov (.k (.int .i64 0)))])
  (.keep [0, 1] (.seq (.seq (.ops [.op (some 5) (.mov (.k (.int .i64 0)))])
   (.keep [0, 1, 5] (.block 0 (.loop (.seq (.seq (.ops [.op (some 6) (.mov (.t 5)),
         .op (some 7) (.mov (.t 0)),
         .op (some 8) (.lenS (.t 7)),
         .op (some 9) (.bin .lss (.t 6) (.t 8))])
      (.keep [0, 1, 5, 9] (.cond (.t 9)
       (.skip)
       (.exit 0))))
     (.keep [0, 1, 5] (.seq (.block 1 (.seq (.seq (.draw [.op (some 12) (.mov (.t 0)),
           .op (some 13) (.mov (.t 5)),
           .op (some 14) (.iadr 1 (.t 12) (.t 13)),
           .op (some 15) (.load1 (.t 14)),
           .op (some 16) (.mov (.t 1)),
           .call (some 17) 34 [.t 16],
           .op (some 18) (.bin .neq (.t 15) (.t 17))])
        (.keep [0, 1, 5, 18] (.cond (.t 18)
         (.seq (.ops [.op (some 4) (.mov (.k (.int .i64 (-1))))])
          (.keep [4] (.ret)))
         (.skip))))
       (.keep [0, 1, 5] (.ops [.op (some 19) (.mov (.t 1)),
         .op (some 20) (.bin .add (.t 19) (.k (.int .i64 1))),
         .op (some 1) (.mov (.t 20))]))))
     (.keep [0, 1, 5] (.ops [.op (some 10) (.mov (.t 5)),
       .op (some 11) (.bin .add (.t 10) (.k (.int .i64 1))),
       .op (some 5) (.mov (.t 11))])))))))))
  (.keep [1] (.seq (.ops [.op (some 21) (.mov (.t 1)),
     .op (some 4) (.mov (.t 21))])
  (.keep [4] (.ret))))))
theorem k_c_heldStringS_fits : fitsF Try.prog 26 ⟨22, k_c_heldStringS, [.t 4]⟩ = true := by kernel_rfl
theorem c_heldStringS {n k0 : Nat} (hw : k0 + n ≤ 1000000000000000000) : Con Try.prog noMv 26 [.d (strs (marks k0 n)), int k0] [] (fun r h => r = int ((k0 + n : Nat) : Int) ∧ h = []) := by
  refine con_of2 k_c_heldStringS_fits rfl fun C hP hmv => ?_
  unfold k_c_heldStringS
  refine cx_seq ?_
  refine cx_ops ?_
  refine ax_q (q_mov rfl) ?_
  refine ax_nil ?_
  refine cx_keep rfl rfl ?_
  refine cx_seq ?_
  refine cx_seq ?_
  refine cx_ops ?_
  refine ax_q (q_mov rfl) ?_
  refine ax_nil ?_
  refine cx_keep rfl rfl ?_
  refine cx_block ?_
  refine cx_loopU (fun m k => k ≤ n ∧ m = n - k) (fun k : Nat => [(1, int ((k0 + k : Nat) : Int)), (5, int k)]) (fun k => []) ⟨_, 0, ⟨Nat.zero_le _, rfl⟩, by repeat (first | exact trivial | refine ⟨rfl, ?_⟩ | refine ⟨?_, ?_⟩)⟩ ?_
  rintro m k ⟨hk, rfl⟩
  refine cx_seq ?_
  refine cx_seq ?_
  refine cx_ops ?_
  refine ax_q (q_mov rfl) ?_
  refine ax_q (q_mov rfl) ?_
  first | refine ax_q (q_lenS rfl) ?_ | refine ax_q (q_lenS_osl rfl) ?_ | refine ax_q (q_lenS_zs rfl) ?_
  first | refine ax_q (q_ibin rfl rfl rfl) ?_ | refine ax_q (q_sbin rfl rfl rfl) ?_
  refine ax_nil ?_
  refine cx_keep rfl rfl ?_
  refine cx_cond rfl (fun h2 => ?_) (fun h2 => ?_)
  · have h2 : k < n := by have := of_decide_eq_true h2; simpa [marks_length] using this
    refine cx_skip ?_
    refine cx_keep rfl rfl ?_
    refine cx_seq ?_
    refine cx_block ?_
    refine cx_seq ?_
    refine cx_seq ?_
    refine cx_draw ?_
    refine ax_q (q_mov rfl) ?_
    refine ax_q (q_mov rfl) ?_
    refine ax_q (q_ix rfl rfl (marksAt h2)) ?_
    first | refine ax_q (q_load1_ptr rfl rfl rfl) ?_ | refine ax_q (q_load1_ip rfl) ?_
    refine ax_q (q_mov rfl) ?_
    refine ax_callq rfl (c_markText (by omega)) hP (lal_id _ rfl) rfl ?_
    first | refine ax_q (q_ibin rfl rfl rfl) ?_ | refine ax_q (q_sbin rfl rfl rfl) ?_
    refine ax_nil ?_
    refine cx_keep rfl rfl ?_
    refine cx_cond rfl (fun h3 => ?_) (fun h3 => ?_)
    · skip
      exact absurd h3 (by simp)
    · skip
      refine cx_skip ?_
      refine cx_keep rfl rfl ?_
      refine cx_ops ?_
      refine ax_q (q_mov rfl) ?_
      refine ax_qe (r' := int ((k0 + (k + 1) : Nat) : Int)) (q_ibin rfl rfl rfl) (by rw [wi (by omega) (by omega)]; rfl) ?_
      refine ax_q (q_mov rfl) ?_
      refine ax_nil ?_
      refine cx_keep rfl rfl ?_
      refine cx_ops ?_
      refine ax_q (q_mov rfl) ?_
      refine ax_qe (r' := int ((k + 1 : Nat) : Int)) (q_ibin rfl rfl rfl) (by rw [wi (by omega) (by omega)]; rfl) ?_
      refine ax_q (q_mov rfl) ?_
      refine ax_nil ?_
      exact ⟨_, k + 1, by omega, ⟨by omega, rfl⟩, by repeat (first | exact trivial | refine ⟨rfl, ?_⟩ | refine ⟨?_, ?_⟩)⟩
  · have h2 : ¬ k < n := by have := of_decide_eq_false h2; simpa [marks_length] using this
    refine cx_exit rfl ?_
    refine cx_keep rfl rfl ?_
    refine cx_seq ?_
    refine cx_ops ?_
    refine ax_q (q_mov rfl) ?_
    refine ax_q (q_mov rfl) ?_
    refine ax_nil ?_
    refine cx_keep rfl rfl ?_
    refine cx_ret (ret0 rfl rfl ?_)
    exact ⟨by rw [show k = n from by omega]; rfl, rfl⟩

/- loop.example/g00332/laws.heldPage -/
def k_c_heldPage : XCode :=
  .seq (.ops [.op (some 2) (.box (.t 0)),
     .op (some 4) (.mov (.k (.int .i64 0)))])
  (.keep [1, 2] (.seq (.ops [.op (some 5) (.fadr (.t 2) 1),
     .op (some 6) (.load1 (.t 5)),
     .op (some 7) (.mov (.t 1)),
     .call (some 8) 26 [.t 6, .t 7],
     .op (some 1) (.mov (.t 8))])
  (.keep [1] (.seq (.seq (.ops [.op (some 9) (.mov (.t 1)),
      .op (some 10) (.bin .lss (.t 9) (.k (.int .i64 0)))])
   (.keep [1, 10] (.cond (.t 10)
    (.seq (.ops [.op (some 4) (.mov (.k (.int .i64 (-1))))])
     (.keep [4] (.ret)))
    (.skip))))
  (.keep [1] (.seq (.ops [.op (some 11) (.mov (.t 1)),
     .op (some 4) (.mov (.t 11))])
  (.keep [4] (.ret))))))))
theorem k_c_heldPage_fits : fitsF Try.prog 11 ⟨12, k_c_heldPage, [.t 4]⟩ = true := by kernel_rfl
theorem c_heldPage {l : Int} {n k0 : Nat} (hw : k0 + n ≤ 1000000000000000000) : Con Try.prog noMv 11 [(Page.av ⟨l, marks k0 n⟩), int k0] [] (fun r h => r = int ((k0 + n : Nat) : Int) ∧ h = []) := by
  refine con_of2 k_c_heldPage_fits rfl fun C hP hmv => ?_
  unfold k_c_heldPage
  refine cx_seq ?_
  refine cx_ops ?_
  refine ax_e (e_box rfl rfl (by decide) rfl rfl rfl) ?_
  refine ax_q (q_mov rfl) ?_
  refine ax_nil ?_
  refine cx_keep rfl rfl ?_
  refine cx_seq ?_
  refine cx_ops ?_
  first | refine ax_q (q_fadr_ptr rfl) ?_ | refine ax_q (q_fadr_rptr rfl) ?_ | refine ax_q (q_fadr_ip rfl) ?_
  first | refine ax_q (q_load1_ptr rfl rfl rfl) ?_ | refine ax_q (q_load1_ip rfl) ?_
  refine ax_q (q_mov rfl) ?_
  refine ax_call rfl (vc_pure0 (c_heldStringS hw) hP rfl rfl ?_)
  refine ax_q (q_mov rfl) ?_
  refine ax_nil ?_
  refine cx_keep rfl rfl ?_
  refine cx_seq ?_
  refine cx_seq ?_
  refine cx_ops ?_
  refine ax_q (q_mov rfl) ?_
  first | refine ax_q (q_ibin rfl rfl rfl) ?_ | refine ax_q (q_sbin rfl rfl rfl) ?_
  refine ax_nil ?_
  refine cx_keep rfl rfl ?_
  refine cx_cond rfl (fun h1 => ?_) (fun h1 => ?_)
  · skip
    exact absurd (dT h1) (by omega)
  · skip
    refine cx_skip ?_
    refine cx_keep rfl rfl ?_
    refine cx_seq ?_
    refine cx_ops ?_
    refine ax_q (q_mov rfl) ?_
    refine ax_q (q_mov rfl) ?_
    refine ax_nil ?_
    refine cx_keep rfl rfl ?_
    refine cx_ret (ret0 rfl rfl ?_)
    exact ⟨rfl, rfl⟩

/- loop.example/g00332/spec.l03Free -/
def k_c_l03Free : XCode :=
  .seq (.ops [.op (some 1) (.box (.t 0)),
     .op (some 2) (.mov (.k (.int .i64 0)))])
  (.keep [1] (.seq (.seq (.ops [.op (some 3) (.mov (.k (.int .i64 0)))])
   (.keep [1, 3] (.block 0 (.loop (.seq (.seq (.ops [.op (some 4) (.mov (.t 3)),
         .op (some 5) (.bin .lss (.t 4) (.k (.int .i64 4)))])
      (.keep [1, 3, 5] (.cond (.t 5)
       (.skip)
       (.exit 0))))
     (.keep [1, 3] (.seq (.block 1 (.seq (.ops [.op (some 8) (.fadr (.t 1) 1),
          .op (some 9) (.load1 (.t 8)),
          .op (some 10) (.mov (.t 3)),
          .op (some 11) (.iadr 1 (.t 9) (.t 10)),
          .op (some 12) (.load1 (.t 11)),
          .op (some 13) (.bin .eql (.t 12) (.k (.str [])))])
       (.keep [1, 3, 13] (.cond (.t 13)
        (.seq (.ops [.op (some 14) (.mov (.t 3)),
            .op (some 2) (.mov (.t 14))])
         (.keep [2] (.ret)))
        (.skip)))))
     (.keep [1, 3] (.ops [.op (some 6) (.mov (.t 3)),
       .op (some 7) (.bin .add (.t 6) (.k (.int .i64 1))),
       .op (some 3) (.mov (.t 7))])))))))))
  (.keep [] (.seq (.ops [.op (some 2) (.mov (.k (.int .i64 (-1))))])
  (.keep [2] (.ret))))))
theorem k_c_l03Free_fits : fitsF Try.prog 27 ⟨15, k_c_l03Free, [.t 2]⟩ = true := by kernel_rfl
theorem c_l03Free {p : Page} (hw : p.slots.length = 4) : Con Try.prog noMv 27 [p.av] [] (fun r h => r = int (idxOf (fun s => decide (s = [])) p.slots 0) ∧ h = []) := by
  refine con_of2 k_c_l03Free_fits rfl fun C hP hmv => ?_
  unfold k_c_l03Free
  refine cx_seq ?_
  refine cx_ops ?_
  refine ax_e (e_box rfl rfl (by decide) rfl rfl rfl) ?_
  refine ax_q (q_mov rfl) ?_
  refine ax_nil ?_
  refine cx_keep rfl rfl ?_
  refine cx_seq ?_
  refine cx_seq ?_
  refine cx_ops ?_
  refine ax_q (q_mov rfl) ?_
  refine ax_nil ?_
  refine cx_keep rfl rfl ?_
  refine cx_block ?_
  refine cx_loopU (fun n k => k ≤ 4 ∧ n = 4 - k ∧ ∀ i, i < k → ∀ x, p.slots[i]? = some x → decide (x = []) = false) (fun k : Nat => [(3, int k)]) (fun _ => [(1, .box [int p.lsn, .d (strs p.slots)])]) ⟨_, 0, ⟨by omega, rfl, fun i hi => by omega⟩, by repeat (first | exact trivial | refine ⟨rfl, ?_⟩ | refine ⟨?_, ?_⟩)⟩ ?_
  rintro n k ⟨hk, rfl, ht⟩
  refine cx_seq ?_
  refine cx_seq ?_
  refine cx_ops ?_
  refine ax_q (q_mov rfl) ?_
  first | refine ax_q (q_ibin rfl rfl rfl) ?_ | refine ax_q (q_sbin rfl rfl rfl) ?_
  refine ax_nil ?_
  refine cx_keep rfl rfl ?_
  refine cx_cond rfl (fun h2 => ?_) (fun h2 => ?_)
  · have h2 : k < 4 := by have := dT h2; omega
    have h2' : k < p.slots.length := by omega
    refine cx_skip ?_
    refine cx_keep rfl rfl ?_
    refine cx_seq ?_
    refine cx_block ?_
    refine cx_seq ?_
    refine cx_ops ?_
    first | refine ax_q (q_fadr_ptr rfl) ?_ | refine ax_q (q_fadr_rptr rfl) ?_ | refine ax_q (q_fadr_ip rfl) ?_
    first | refine ax_q (q_load1_ptr rfl rfl rfl) ?_ | refine ax_q (q_load1_ip rfl) ?_
    refine ax_q (q_mov rfl) ?_
    refine ax_q (q_ix rfl rfl (mapAt h2')) ?_
    first | refine ax_q (q_load1_ptr rfl rfl rfl) ?_ | refine ax_q (q_load1_ip rfl) ?_
    first | refine ax_q (q_ibin rfl rfl rfl) ?_ | refine ax_q (q_sbin rfl rfl rfl) ?_
    refine ax_nil ?_
    refine cx_keep rfl rfl ?_
    refine cx_cond rfl (fun h3 => ?_) (fun h3 => ?_)
    · skip
      refine cx_seq ?_
      refine cx_ops ?_
      refine ax_q (q_mov rfl) ?_
      refine ax_q (q_mov rfl) ?_
      refine ax_nil ?_
      refine cx_keep rfl rfl ?_
      refine cx_ret (ret0 rfl rfl ?_)
      exact ⟨by rw [idxOf_hit h2' ht h3]; rfl, rfl⟩
    · skip
      refine cx_skip ?_
      refine cx_keep rfl rfl ?_
      refine cx_ops ?_
      refine ax_q (q_mov rfl) ?_
      refine ax_qe (r' := int ((k + 1 : Nat) : Int)) (q_ibin rfl rfl rfl) (by rw [wi (by omega) (by omega)]; rfl) ?_
      refine ax_q (q_mov rfl) ?_
      refine ax_nil ?_
      exact ⟨_, k + 1, by omega, ⟨by omega, rfl, before_step h2' ht h3⟩, by repeat (first | exact trivial | refine ⟨rfl, ?_⟩ | refine ⟨?_, ?_⟩)⟩
  · have h2 : k = 4 := by have := dF h2; omega
    refine cx_exit rfl ?_
    refine cx_keep rfl rfl ?_
    refine cx_seq ?_
    refine cx_ops ?_
    refine ax_q (q_mov rfl) ?_
    refine ax_nil ?_
    refine cx_keep rfl rfl ?_
    refine cx_ret (ret0 rfl rfl ?_)
    exact ⟨by rw [idxOf_none (fun i hi => ht i (by omega))]; rfl, rfl⟩

/- loop.example/g00332/spec.PageInsert -/
def k_c_sPageInsert : XCode :=
  .seq (.ops [.op (some 2) (.box (.t 0)),
     .op (some 4) (.alloc [.int .i64 0, .nils 1]),
     .op (some 5) (.mov (.k (.int .i64 0))),
     .op (some 6) (.mov (.k (.int .i64 0)))])
  (.keep [1, 2, 4] (.seq (.seq (.ops [.op (some 9) (.mov (.t 1)),
      .op (some 10) (.lenT (.t 9)),
      .op (some 11) (.bin .gtr (.t 10) (.k (.int .i64 65536)))])
   (.keep [1, 2, 4, 11] (.cond (.t 11)
    (.seq (.ops [.op (some 12) (.build [.int .i64 0, .nils 1] []),
        .op none (.store 2 (.t 4) (.t 12)),
        .op (some 5) (.mov (.k (.int .i64 0))),
        .op (some 6) (.mov (.k (.int .i64 2)))])
     (.keep [4, 5, 6] (.ret)))
    (.skip))))
  (.keep [1, 2, 4] (.seq (.seq (.ops [.op (some 13) (.loadN 2 (.t 2)),
      .call (some 14) 15 [.t 13],
      .op (some 15) (.not (.t 14))])
   (.keep [1, 2, 4, 15] (.cond (.t 15)
    (.seq (.ops [.op (some 16) (.build [.int .i64 0, .nils 1] []),
        .op none (.store 2 (.t 4) (.t 16)),
        .op (some 5) (.mov (.k (.int .i64 0))),
        .op (some 6) (.mov (.k (.int .i64 1)))])
     (.keep [4, 5, 6] (.ret)))
    (.skip))))
  (.keep [1, 2, 4] (.seq (.seq (.ops [.op (some 17) (.mov (.t 1)),
      .op (some 18) (.lenT (.t 17)),
      .call (some 19) 16 [.t 18, .k (.int .i64 1), .k (.int .i64 30)],
      .op (some 20) (.not (.t 19))])
   (.keep [1, 2, 4, 20] (.cond (.t 20)
    (.seq (.ops [.op (some 21) (.build [.int .i64 0, .nils 1] []),
        .op none (.store 2 (.t 4) (.t 21)),
        .op (some 5) (.mov (.k (.int .i64 0))),
        .op (some 6) (.mov (.k (.int .i64 4)))])
     (.keep [4, 5, 6] (.ret)))
    (.skip))))
  (.keep [1, 2, 4] (.seq (.ops [.op (some 22) (.loadN 2 (.t 2)),
     .call (some 23) 27 [.t 22],
     .op (some 7) (.mov (.t 23))])
  (.keep [1, 2, 4, 7] (.seq (.seq (.ops [.op (some 24) (.mov (.t 7)),
      .op (some 25) (.bin .lss (.t 24) (.k (.int .i64 0)))])
   (.keep [1, 2, 4, 7, 25] (.cond (.t 25)
    (.seq (.ops [.op (some 26) (.loadN 2 (.t 2)),
        .call (some 27) 28 [.t 26],
        .op none (.store 2 (.t 4) (.t 27)),
        .op (some 5) (.mov (.k (.int .i64 0))),
        .op (some 6) (.mov (.k (.int .i64 7)))])
     (.keep [4, 5, 6] (.ret)))
    (.skip))))
  (.keep [1, 2, 4, 7] (.seq (.ops [.op (some 28) (.loadN 2 (.t 2)),
     .call (some 29) 28 [.t 28],
     .op (some 8) (.alloc [.int .i64 0, .nils 1]),
     .op none (.store 2 (.t 8) (.t 29))])
  (.keep [1, 4, 7, 8] (.seq (.ops [.op (some 30) (.fadr (.t 8) 1),
     .op (some 31) (.load1 (.t 30)),
     .op (some 32) (.mov (.t 7)),
     .op (some 33) (.mov (.t 1)),
     .op (some 34) (.iadr 1 (.t 31) (.t 32)),
     .op none (.store 1 (.t 34) (.t 33))])
  (.keep [4, 7, 8] (.seq (.ops [.op (some 35) (.loadN 2 (.t 8)),
     .op (some 36) (.mov (.t 7)),
     .op none (.store 2 (.t 4) (.t 35)),
     .op (some 5) (.mov (.t 36)),
     .op (some 6) (.mov (.k (.int .i64 0)))])
  (.keep [4, 5, 6] (.ret))))))))))))))))))
theorem k_c_sPageInsert_fits : fitsF Try.prog 12 ⟨37, k_c_sPageInsert, [.cN 4 2, .t 5, .t 6]⟩ = true := by kernel_rfl
theorem c_sPageInsert {p : Page} {data : Str} (hw : wfStrs p.slots) (hl : p.slots.length ≤ 1048576) : Con Try.prog noMv 12 [p.av, str data] [] (fun r h => r = .tup [pageO 0 (pageInsert p data).1, int (pageInsert p data).2.1, int (pageInsert p data).2.2] ∧ h = pageH 0 (pageInsert p data).1) := by
  refine con_of2 k_c_sPageInsert_fits rfl fun C hP hmv => ?_
  unfold k_c_sPageInsert
  refine cx_seq ?_
  refine cx_ops ?_
  refine ax_e (e_box rfl rfl (by decide) rfl rfl rfl) ?_
  refine ax_e (e_alloc (by decide) rfl rfl) ?_
  refine ax_q (q_mov rfl) ?_
  refine ax_q (q_mov rfl) ?_
  refine ax_nil ?_
  refine cx_keep rfl rfl ?_
  refine cx_seq ?_
  refine cx_seq ?_
  refine cx_ops ?_
  refine ax_q (q_mov rfl) ?_
  refine ax_q (q_lenT rfl) ?_
  first | refine ax_q (q_ibin rfl rfl rfl) ?_ | refine ax_q (q_sbin rfl rfl rfl) ?_
  refine ax_nil ?_
  refine cx_keep rfl rfl ?_
  refine cx_cond rfl (fun h0 => ?_) (fun h0 => ?_)
  · have h0 := dT h0
    refine cx_seq ?_
    refine cx_ops ?_
    refine ax_q (q_build rfl) ?_
    refine ax_e (e_st rfl rfl rfl rfl rfl rfl rfl) ?_
    refine ax_q (q_mov rfl) ?_
    refine ax_q (q_mov rfl) ?_
    refine ax_nil ?_
    refine cx_keep rfl rfl ?_
    have e : pageInsert p data = (.zero, 0, 2) := by unfold pageInsert; rw [if_pos h0]
    refine cx_wk (wk_virt 900 1 rfl rfl rfl) ?_
    refine cx_wk (wk_zsb 4 900 1 rfl rfl rfl) ?_
    refine cx_ret (retN (fun _ => 0) [900] rfl rfl rfl rfl rfl ?_)
    rw [e]; exact ⟨rfl, rfl⟩
  · have h0 := dF h0
    refine cx_skip ?_
    refine cx_keep rfl rfl ?_
    refine cx_seq ?_
    refine cx_seq ?_
    refine cx_ops ?_
    refine ax_q (q_ldN rfl rfl rfl) ?_
    refine ax_call rfl (vc_pure0 (c_sPageOK hw) hP rfl rfl ?_)
    refine ax_q (q_not rfl) ?_
    refine ax_nil ?_
    refine cx_keep rfl rfl ?_
    refine cx_cond rfl (fun h1 => ?_) (fun h1 => ?_)
    · have h1 := bT h1
      refine cx_seq ?_
      refine cx_ops ?_
      refine ax_q (q_build rfl) ?_
      refine ax_e (e_st rfl rfl rfl rfl rfl rfl rfl) ?_
      refine ax_q (q_mov rfl) ?_
      refine ax_q (q_mov rfl) ?_
      refine ax_nil ?_
      refine cx_keep rfl rfl ?_
      have e : pageInsert p data = (.zero, 0, 1) := by unfold pageInsert; rw [if_neg h0, if_pos h1]
      refine cx_wk (wk_virt 900 1 rfl rfl rfl) ?_
      refine cx_wk (wk_zsb 4 900 1 rfl rfl rfl) ?_
      refine cx_ret (retN (fun _ => 0) [900] rfl rfl rfl rfl rfl ?_)
      rw [e]; exact ⟨rfl, rfl⟩
    · have h1 := bF h1
      refine cx_skip ?_
      refine cx_keep rfl rfl ?_
      refine cx_seq ?_
      refine cx_seq ?_
      refine cx_ops ?_
      refine ax_q (q_mov rfl) ?_
      refine ax_q (q_lenT rfl) ?_
      refine ax_call rfl (vc_pure0 c_l01In hP rfl rfl ?_)
      refine ax_q (q_not rfl) ?_
      refine ax_nil ?_
      refine cx_keep rfl rfl ?_
      refine cx_cond rfl (fun h2 => ?_) (fun h2 => ?_)
      · have h2 := bT h2
        refine cx_seq ?_
        refine cx_ops ?_
        refine ax_q (q_build rfl) ?_
        refine ax_e (e_st rfl rfl rfl rfl rfl rfl rfl) ?_
        refine ax_q (q_mov rfl) ?_
        refine ax_q (q_mov rfl) ?_
        refine ax_nil ?_
        refine cx_keep rfl rfl ?_
        have e : pageInsert p data = (.zero, 0, 4) := by unfold pageInsert; rw [if_neg h0, if_neg (by rw [h1]; simp), if_pos h2]
        refine cx_wk (wk_virt 900 1 rfl rfl rfl) ?_
        refine cx_wk (wk_zsb 4 900 1 rfl rfl rfl) ?_
        refine cx_ret (retN (fun _ => 0) [900] rfl rfl rfl rfl rfl ?_)
        rw [e]; exact ⟨rfl, rfl⟩
      · have h2 := bF h2
        refine cx_skip ?_
        refine cx_keep rfl rfl ?_
        refine cx_seq ?_
        refine cx_ops ?_
        refine ax_q (q_ldN rfl rfl rfl) ?_
        refine ax_call rfl (vc_pure0 (c_l03Free (pageOK_len h1)) hP rfl rfl ?_)
        refine ax_q (q_mov rfl) ?_
        refine ax_nil ?_
        refine cx_keep rfl rfl ?_
        refine cx_seq ?_
        refine cx_seq ?_
        refine cx_ops ?_
        refine ax_q (q_mov rfl) ?_
        first | refine ax_q (q_ibin rfl rfl rfl) ?_ | refine ax_q (q_sbin rfl rfl rfl) ?_
        refine ax_nil ?_
        refine cx_keep rfl rfl ?_
        refine cx_cond rfl (fun h3 => ?_) (fun h3 => ?_)
        · have h3 := dT h3
          refine cx_seq ?_
          refine cx_ops ?_
          refine ax_q (q_ldN rfl rfl rfl) ?_
          refine ax_call rfl (vc_pure (c_l03Own hl) hP rfl ?_)
          rintro r h ⟨rfl, rfl⟩
          refine ⟨fun _ => 27, [0], ⟨rfl, rfl, rfl, rfl, rfl, fun h => by cases h⟩, ?_⟩
          refine ax_e (e_st rfl rfl rfl rfl rfl rfl rfl) ?_
          refine ax_q (q_mov rfl) ?_
          refine ax_q (q_mov rfl) ?_
          refine ax_nil ?_
          refine cx_keep rfl rfl ?_
          have e : pageInsert p data = (p, 0, 7) := by unfold pageInsert; rw [if_neg h0, if_neg (by rw [h1]; simp), if_neg (by rw [h2]; simp)]; simp only [if_pos h3]
          refine cx_ret (retN (fun _ => 0) [27] rfl rfl rfl rfl rfl ?_)
          rw [e]; exact ⟨rfl, rfl⟩
        · have h3 := dF h3
          obtain ⟨k, hk0, hk, e⟩ := pageInsert_set h0 h1 h2 h3
          rw [hk0]
          refine cx_skip ?_
          refine cx_keep rfl rfl ?_
          refine cx_seq ?_
          refine cx_ops ?_
          refine ax_q (q_ldN rfl rfl rfl) ?_
          refine ax_call rfl (vc_pure (c_l03Own hl) hP rfl ?_)
          rintro r h ⟨rfl, rfl⟩
          refine ⟨fun _ => 29, [0], ⟨rfl, rfl, rfl, rfl, rfl, fun h => by cases h⟩, ?_⟩
          refine ax_e (e_alloc (by decide) rfl rfl) ?_
          refine ax_e (e_st rfl rfl rfl rfl rfl rfl rfl) ?_
          refine ax_nil ?_
          refine cx_keep rfl rfl ?_
          refine cx_seq ?_
          refine cx_ops ?_
          first | refine ax_q (q_fadr_ptr rfl) ?_ | refine ax_q (q_fadr_rptr rfl) ?_ | refine ax_q (q_fadr_ip rfl) ?_
          first | refine ax_q (q_load1_ptr rfl rfl rfl) ?_ | refine ax_q (q_load1_ip rfl) ?_
          refine ax_q (q_mov rfl) ?_
          refine ax_q (q_mov rfl) ?_
          refine ax_q (q_ixo rfl rfl hk) ?_
          refine ax_e (e_str (q := strRow data) rfl rfl rfl rfl rfl rfl (mapAt hk) rfl rfl List.map_set.symm) ?_
          refine ax_nil ?_
          refine cx_keep rfl rfl ?_
          refine cx_seq ?_
          refine cx_ops ?_
          refine ax_q (q_ldN rfl rfl rfl) ?_
          refine ax_q (q_mov rfl) ?_
          refine ax_e (e_st rfl rfl rfl rfl rfl rfl rfl) ?_
          refine ax_q (q_mov rfl) ?_
          refine ax_q (q_mov rfl) ?_
          refine ax_nil ?_
          refine cx_keep rfl rfl ?_
          refine cx_ret (retN (fun _ => 0) [29] rfl rfl rfl rfl rfl ?_)
          rw [e]; exact ⟨by show AV.tup [AV.agg [int p.lsn, .osl 0 1 0 p.slots.length], int k, int 0] = AV.tup [AV.agg [int p.lsn, .osl 0 1 0 (p.slots.set k data).length], int k, int 0]; rw [List.length_set], rfl⟩

/- slices.Index[[]string,string] -/
def k_c_Index : XCode :=
  .seq (.ops [.op (some 4) (.mov (.k (.int .i64 0)))])
  (.keep [0, 1] (.seq (.seq (.ops [.op (some 6) (.mov (.t 0)),
      .op (some 7) (.lenS (.t 6)),
      .op (some 8) (.mov (.k (.int .i64 0)))])
   (.keep [0, 1, 7, 8] (.block 0 (.loop (.seq (.ops [.op (some 9) (.bin .lss (.t 8) (.t 7))])
     (.keep [0, 1, 7, 8, 9] (.seq (.cond (.t 9)
       (.skip)
       (.exit 0))
     (.keep [0, 1, 7, 8] (.seq (.block 1 (.seq (.ops [.op (some 10) (.mov (.t 8)),
          .op (some 5) (.mov (.t 10))])
       (.keep [0, 1, 5, 7, 8] (.seq (.ops [.op (some 11) (.mov (.t 1)),
          .op (some 12) (.mov (.t 0)),
          .op (some 13) (.mov (.t 5)),
          .op (some 14) (.iadr 1 (.t 12) (.t 13)),
          .op (some 15) (.load1 (.t 14)),
          .op (some 16) (.bin .eql (.t 11) (.t 15))])
       (.keep [0, 1, 5, 7, 8, 16] (.cond (.t 16)
        (.seq (.ops [.op (some 17) (.mov (.t 5)),
            .op (some 4) (.mov (.t 17))])
         (.keep [4] (.ret)))
        (.skip)))))))
     (.keep [0, 1, 7, 8] (.ops [.op (some 18) (.bin .add (.t 8) (.k (.int .i64 1))),
       .op (some 8) (.mov (.t 18))])))))))))))
  (.keep [] (.seq (.ops [.op (some 4) (.mov (.k (.int .i64 (-1))))])
  (.keep [4] (.ret))))))
theorem k_c_Index_fits : fitsF Try.prog 29 ⟨19, k_c_Index, [.t 4]⟩ = true := by kernel_rfl
theorem c_Index {xs : List Str} {v : Str} (hw : xs.length ≤ 9223372036854775807) : Con Try.prog noMv 29 [.d (strs xs), str v] [] (fun r h => r = int (idxOf (fun s => decide (s = v)) xs 0) ∧ h = []) := by
  refine con_of2 k_c_Index_fits rfl fun C hP hmv => ?_
  unfold k_c_Index
  refine cx_seq ?_
  refine cx_ops ?_
  refine ax_q (q_mov rfl) ?_
  refine ax_nil ?_
  refine cx_keep rfl rfl ?_
  refine cx_seq ?_
  refine cx_seq ?_
  refine cx_ops ?_
  refine ax_q (q_mov rfl) ?_
  first | refine ax_q (q_lenS rfl) ?_ | refine ax_q (q_lenS_osl rfl) ?_ | refine ax_q (q_lenS_zs rfl) ?_
  refine ax_q (q_mov rfl) ?_
  refine ax_nil ?_
  refine cx_keep rfl rfl ?_
  refine cx_block ?_
  refine cx_loopU (fun n k => k ≤ xs.length ∧ n = xs.length - k ∧ ∀ i, i < k → ∀ x, xs[i]? = some x → decide (x = v) = false) (fun k : Nat => [(8, int k)]) (fun _ => []) ⟨_, 0, ⟨by omega, rfl, fun i hi => by omega⟩, by repeat (first | exact trivial | refine ⟨rfl, ?_⟩ | refine ⟨?_, ?_⟩)⟩ ?_
  rintro n k ⟨hk, rfl, ht⟩
  refine cx_seq ?_
  refine cx_ops ?_
  first | refine ax_q (q_ibin rfl rfl rfl) ?_ | refine ax_q (q_sbin rfl rfl rfl) ?_
  refine ax_nil ?_
  refine cx_keep rfl rfl ?_
  refine cx_seq ?_
  refine cx_cond rfl (fun h2 => ?_) (fun h2 => ?_)
  · have h2 := dT h2; simp only [strs_len] at h2; have h2 : k < xs.length := by omega
    refine cx_skip ?_
    refine cx_keep rfl rfl ?_
    refine cx_seq ?_
    refine cx_block ?_
    refine cx_seq ?_
    refine cx_ops ?_
    refine ax_q (q_mov rfl) ?_
    refine ax_q (q_mov rfl) ?_
    refine ax_nil ?_
    refine cx_keep rfl rfl ?_
    refine cx_seq ?_
    refine cx_ops ?_
    refine ax_q (q_mov rfl) ?_
    refine ax_q (q_mov rfl) ?_
    refine ax_q (q_mov rfl) ?_
    refine ax_q (q_ix rfl rfl (mapAt h2)) ?_
    first | refine ax_q (q_load1_ptr rfl rfl rfl) ?_ | refine ax_q (q_load1_ip rfl) ?_
    first | refine ax_q (q_ibin rfl rfl rfl) ?_ | refine ax_q (q_sbin rfl rfl rfl) ?_
    refine ax_nil ?_
    refine cx_keep rfl rfl ?_
    refine cx_cond rfl (fun h3 => ?_) (fun h3 => ?_)
    · have h3 : decide (xs[k] = v) = true := decide_eq_true (dT h3).symm
      refine cx_seq ?_
      refine cx_ops ?_
      refine ax_q (q_mov rfl) ?_
      refine ax_q (q_mov rfl) ?_
      refine ax_nil ?_
      refine cx_keep rfl rfl ?_
      refine cx_ret (ret0 rfl rfl ?_)
      exact ⟨by rw [idxOf_hit h2 ht h3]; rfl, rfl⟩
    · have h3 : decide (xs[k] = v) = false := decide_eq_false (fun h => dF h3 h.symm)
      refine cx_skip ?_
      refine cx_keep rfl rfl ?_
      refine cx_ops ?_
      refine ax_qe (r' := int ((k + 1 : Nat) : Int)) (q_ibin rfl rfl rfl) (by rw [wi (by omega) (by omega)]; rfl) ?_
      refine ax_q (q_mov rfl) ?_
      refine ax_nil ?_
      exact ⟨_, k + 1, by omega, ⟨by omega, rfl, before_step h2 ht h3⟩, by repeat (first | exact trivial | refine ⟨rfl, ?_⟩ | refine ⟨?_, ?_⟩)⟩
  · have h2 := dF h2; simp only [strs_len] at h2; have h2 : k = xs.length := by omega
    refine cx_exit rfl ?_
    refine cx_keep rfl rfl ?_
    refine cx_seq ?_
    refine cx_ops ?_
    refine ax_q (q_mov rfl) ?_
    refine ax_nil ?_
    refine cx_keep rfl rfl ?_
    refine cx_ret (ret0 rfl rfl ?_)
    exact ⟨by rw [idxOf_none (fun i hi => ht i (by omega))]; rfl, rfl⟩

/- loop.example/g00332/impl.PageInsert -/
def k_c_PageInsert : XCode :=
  .seq (.ops [.op (some 2) (.box (.t 0)),
     .op (some 4) (.alloc [.int .i64 0, .nils 1]),
     .op (some 5) (.mov (.k (.int .i64 0))),
     .op (some 6) (.mov (.k (.int .i64 0)))])
  (.keep [1, 2, 4] (.seq (.block 0 (.seq (.ops [.op (some 10) (.mov (.t 1)),
       .op (some 11) (.bslice 1 [.t 10]),
       .call (some 12) 19 [.t 11],
       .op (some 9) (.mov (.t 12))])
    (.keep [1, 2, 4, 9] (.cond (.t 9)
     (.seq (.ops [.op (some 13) (.build [.int .i64 0, .nils 1] []),
         .op none (.store 2 (.t 4) (.t 13)),
         .op (some 5) (.mov (.k (.int .i64 0))),
         .op (some 6) (.mov (.k (.int .i64 2)))])
      (.keep [4, 5, 6] (.ret)))
     (.seq (.ops [.op (some 15) (.loadN 2 (.t 2)),
         .call (some 16) 20 [.t 15],
         .op (some 17) (.not (.t 16)),
         .op (some 14) (.mov (.t 17))])
      (.keep [1, 2, 4, 14] (.cond (.t 14)
       (.seq (.ops [.op (some 18) (.build [.int .i64 0, .nils 1] []),
           .op none (.store 2 (.t 4) (.t 18)),
           .op (some 5) (.mov (.k (.int .i64 0))),
           .op (some 6) (.mov (.k (.int .i64 1)))])
        (.keep [4, 5, 6] (.ret)))
       (.seq (.ops [.op (some 20) (.mov (.t 1)),
           .op (some 21) (.lenT (.t 20)),
           .call (some 22) 22 [.t 21, .k (.int .i64 1), .k (.int .i64 30)],
           .op (some 23) (.not (.t 22)),
           .op (some 19) (.mov (.t 23))])
        (.keep [1, 2, 4, 19] (.cond (.t 19)
         (.seq (.ops [.op (some 24) (.build [.int .i64 0, .nils 1] []),
             .op none (.store 2 (.t 4) (.t 24)),
             .op (some 5) (.mov (.k (.int .i64 0))),
             .op (some 6) (.mov (.k (.int .i64 4)))])
          (.keep [4, 5, 6] (.ret)))
         (.skip)))))))))))
  (.keep [1, 2, 4] (.seq (.drawE [[], [0], [], [2], [0, 1, 2, 3], [], [0, 1, 2, 3, 4, 5], [0, 1, 2, 3, 4, 5, 6]] [.op (some 25) (.loadN 2 (.t 2)),
     .call (some 26) 23 [.t 25],
     .op (some 27) (.fadr (.t 2) 1),
     .op (some 28) (.load1 (.t 27)),
     .call (some 29) 29 [.t 28, .k (.str [])],
     .op (some 7) (.alloc [.int .i64 0, .nils 1])]
    [.op none (.store 2 (.t 7) (.t 26)),
     .op (some 8) (.mov (.t 29))])
  (.keep [1, 4, 7, 8] (.seq (.seq (.ops [.op (some 30) (.mov (.t 8)),
      .op (some 31) (.bin .lss (.t 30) (.k (.int .i64 0)))])
   (.keep [1, 4, 7, 8, 31] (.cond (.t 31)
    (.seq (.ops [.op (some 32) (.loadN 2 (.t 7)),
        .op none (.store 2 (.t 4) (.t 32)),
        .op (some 5) (.mov (.k (.int .i64 0))),
        .op (some 6) (.mov (.k (.int .i64 7)))])
     (.keep [4, 5, 6] (.ret)))
    (.skip))))
  (.keep [1, 4, 7, 8] (.seq (.ops [.op (some 33) (.fadr (.t 7) 1),
     .op (some 34) (.load1 (.t 33)),
     .op (some 35) (.mov (.t 8)),
     .op (some 36) (.mov (.t 1)),
     .op (some 37) (.iadr 1 (.t 34) (.t 35)),
     .op none (.store 1 (.t 37) (.t 36))])
  (.keep [4, 7, 8] (.seq (.ops [.op (some 38) (.loadN 2 (.t 7)),
     .op (some 39) (.mov (.t 8)),
     .op none (.store 2 (.t 4) (.t 38)),
     .op (some 5) (.mov (.t 39)),
     .op (some 6) (.mov (.k (.int .i64 0)))])
  (.keep [4, 5, 6] (.ret))))))))))))
theorem k_c_PageInsert_fits : fitsF Try.prog 13 ⟨40, k_c_PageInsert, [.cN 4 2, .t 5, .t 6]⟩ = true := by kernel_rfl
theorem c_PageInsert {p : Page} {data : Str} (hw : wfStrs p.slots) (hl : p.slots.length ≤ 1048576) : Con Try.prog noMv 13 [p.av, str data] [] (fun r h => r = .tup [pageO 0 (pageInsert p data).1, int (pageInsert p data).2.1, int (pageInsert p data).2.2] ∧ h = pageH 0 (pageInsert p data).1) := by
  refine con_of2 k_c_PageInsert_fits rfl fun C hP hmv => ?_
  unfold k_c_PageInsert
  refine cx_seq ?_
  refine cx_ops ?_
  refine ax_e (e_box rfl rfl (by decide) rfl rfl rfl) ?_
  refine ax_e (e_alloc (by decide) rfl rfl) ?_
  refine ax_q (q_mov rfl) ?_
  refine ax_q (q_mov rfl) ?_
  refine ax_nil ?_
  refine cx_keep rfl rfl ?_
  refine cx_seq ?_
  refine cx_block ?_
  refine cx_seq ?_
  refine cx_ops ?_
  refine ax_q (q_mov rfl) ?_
  refine ax_e (e_bslice rfl (by decide) rfl rfl) ?_
  refine ax_call rfl (vc_lend0 c_isLong hP (.cons (.lend (lend_whole rfl rfl)) .nil) rfl rfl ?_)
  refine ax_q (q_mov rfl) ?_
  refine ax_nil ?_
  refine cx_keep rfl rfl ?_
  refine cx_cond rfl (fun h0 => ?_) (fun h0 => ?_)
  · have h0 := dT h0
    refine cx_seq ?_
    refine cx_ops ?_
    refine ax_q (q_build rfl) ?_
    refine ax_e (e_st rfl rfl rfl rfl rfl rfl rfl) ?_
    refine ax_q (q_mov rfl) ?_
    refine ax_q (q_mov rfl) ?_
    refine ax_nil ?_
    refine cx_keep rfl rfl ?_
    have e : pageInsert p data = (.zero, 0, 2) := by unfold pageInsert; rw [if_pos h0]
    refine cx_wk (wk_virt 900 1 rfl rfl rfl) ?_
    refine cx_wk (wk_zsb 4 900 1 rfl rfl rfl) ?_
    refine cx_ret (retN (fun _ => 0) [900] rfl rfl rfl rfl rfl ?_)
    rw [e]; exact ⟨rfl, rfl⟩
  · have h0 := dF h0
    refine cx_seq ?_
    refine cx_ops ?_
    refine ax_q (q_ldN rfl rfl rfl) ?_
    refine ax_call rfl (vc_pure0 (c_PageOK hw) hP rfl rfl ?_)
    refine ax_q (q_not rfl) ?_
    refine ax_q (q_mov rfl) ?_
    refine ax_nil ?_
    refine cx_keep rfl rfl ?_
    refine cx_cond rfl (fun h1 => ?_) (fun h1 => ?_)
    · have h1 := bT h1
      refine cx_seq ?_
      refine cx_ops ?_
      refine ax_q (q_build rfl) ?_
      refine ax_e (e_st rfl rfl rfl rfl rfl rfl rfl) ?_
      refine ax_q (q_mov rfl) ?_
      refine ax_q (q_mov rfl) ?_
      refine ax_nil ?_
      refine cx_keep rfl rfl ?_
      have e : pageInsert p data = (.zero, 0, 1) := by unfold pageInsert; rw [if_neg h0, if_pos h1]
      refine cx_wk (wk_virt 900 1 rfl rfl rfl) ?_
      refine cx_wk (wk_zsb 4 900 1 rfl rfl rfl) ?_
      refine cx_ret (retN (fun _ => 0) [900] rfl rfl rfl rfl rfl ?_)
      rw [e]; exact ⟨rfl, rfl⟩
    · have h1 := bF h1
      refine cx_seq ?_
      refine cx_ops ?_
      refine ax_q (q_mov rfl) ?_
      refine ax_q (q_lenT rfl) ?_
      refine ax_call rfl (vc_pure0 c_inRange hP rfl rfl ?_)
      refine ax_q (q_not rfl) ?_
      refine ax_q (q_mov rfl) ?_
      refine ax_nil ?_
      refine cx_keep rfl rfl ?_
      refine cx_cond rfl (fun h2 => ?_) (fun h2 => ?_)
      · have h2 := bT h2
        refine cx_seq ?_
        refine cx_ops ?_
        refine ax_q (q_build rfl) ?_
        refine ax_e (e_st rfl rfl rfl rfl rfl rfl rfl) ?_
        refine ax_q (q_mov rfl) ?_
        refine ax_q (q_mov rfl) ?_
        refine ax_nil ?_
        refine cx_keep rfl rfl ?_
        have e : pageInsert p data = (.zero, 0, 4) := by unfold pageInsert; rw [if_neg h0, if_neg (by rw [h1]; simp), if_pos h2]
        refine cx_wk (wk_virt 900 1 rfl rfl rfl) ?_
        refine cx_wk (wk_zsb 4 900 1 rfl rfl rfl) ?_
        refine cx_ret (retN (fun _ => 0) [900] rfl rfl rfl rfl rfl ?_)
        rw [e]; exact ⟨rfl, rfl⟩
      · have h2 := bF h2
        refine cx_skip ?_
        refine cx_keep rfl rfl ?_
        refine cx_seq ?_
        refine cx_drawE ?_
        first | refine ⟨_, loc_q (q_ldN rfl rfl rfl), ?_⟩
        refine ⟨_, loc_call (fun _ => 26) false rfl (c_clone hl) hP (.inr ⟨rfl, rfl, rfl⟩) rfl rfl (fun h => by cases h), ?_⟩
        first | refine ⟨_, loc_q (q_fadr_ptr rfl), ?_⟩ | refine ⟨_, loc_q (q_fadr_rptr rfl), ?_⟩ | refine ⟨_, loc_q (q_fadr_ip rfl), ?_⟩
        first | refine ⟨_, loc_q (q_load1_ptr rfl rfl rfl), ?_⟩ | refine ⟨_, loc_q (q_load1_ip rfl), ?_⟩
        refine ⟨_, loc_call id false rfl (c_Index hw.1) hP (.inr ⟨rfl, rfl, rfl⟩) rfl rfl (fun h => by cases h), ?_⟩
        refine ⟨_, loc_alloc, ?_⟩
        refine ⟨rfl, ?_⟩
        refine ax_e (e_st rfl rfl rfl rfl rfl rfl rfl) ?_
        refine ax_q (q_mov rfl) ?_
        refine ax_nil ?_
        refine cx_keep rfl rfl ?_
        refine cx_seq ?_
        refine cx_seq ?_
        refine cx_ops ?_
        refine ax_q (q_mov rfl) ?_
        first | refine ax_q (q_ibin rfl rfl rfl) ?_ | refine ax_q (q_sbin rfl rfl rfl) ?_
        refine ax_nil ?_
        refine cx_keep rfl rfl ?_
        refine cx_cond rfl (fun h3 => ?_) (fun h3 => ?_)
        · have h3 := dT h3
          refine cx_seq ?_
          refine cx_ops ?_
          refine ax_q (q_ldN rfl rfl rfl) ?_
          refine ax_e (e_st rfl rfl rfl rfl rfl rfl rfl) ?_
          refine ax_q (q_mov rfl) ?_
          refine ax_q (q_mov rfl) ?_
          refine ax_nil ?_
          refine cx_keep rfl rfl ?_
          have e : pageInsert p data = (p, 0, 7) := by unfold pageInsert; rw [if_neg h0, if_neg (by rw [h1]; simp), if_neg (by rw [h2]; simp)]; simp only [if_pos h3]
          refine cx_ret (retN (fun _ => 0) [26] rfl rfl rfl rfl rfl ?_)
          rw [e]; exact ⟨rfl, rfl⟩
        · have h3 := dF h3
          obtain ⟨k, hk0, hk, e⟩ := pageInsert_set h0 h1 h2 h3
          rw [hk0]
          refine cx_skip ?_
          refine cx_keep rfl rfl ?_
          refine cx_seq ?_
          refine cx_ops ?_
          first | refine ax_q (q_fadr_ptr rfl) ?_ | refine ax_q (q_fadr_rptr rfl) ?_ | refine ax_q (q_fadr_ip rfl) ?_
          first | refine ax_q (q_load1_ptr rfl rfl rfl) ?_ | refine ax_q (q_load1_ip rfl) ?_
          refine ax_q (q_mov rfl) ?_
          refine ax_q (q_mov rfl) ?_
          refine ax_q (q_ixo rfl rfl hk) ?_
          refine ax_e (e_str (q := strRow data) rfl rfl rfl rfl rfl rfl (mapAt hk) rfl rfl List.map_set.symm) ?_
          refine ax_nil ?_
          refine cx_keep rfl rfl ?_
          refine cx_seq ?_
          refine cx_ops ?_
          refine ax_q (q_ldN rfl rfl rfl) ?_
          refine ax_q (q_mov rfl) ?_
          refine ax_e (e_st rfl rfl rfl rfl rfl rfl rfl) ?_
          refine ax_q (q_mov rfl) ?_
          refine ax_q (q_mov rfl) ?_
          refine ax_nil ?_
          refine cx_keep rfl rfl ?_
          refine cx_ret (retN (fun _ => 0) [26] rfl rfl rfl rfl rfl ?_)
          rw [e]; exact ⟨by show AV.tup [AV.agg [int p.lsn, .osl 0 1 0 p.slots.length], int k, int 0] = AV.tup [AV.agg [int p.lsn, .osl 0 1 0 (p.slots.set k data).length], int k, int 0]; rw [List.length_set], rfl⟩

end Go.Proofs.Ytmnaefaleloedaa
