/- The walks: what each function computes, as a contract without a world (part 0). -/
import Derived.Test.YtcloaaakhojjgaaGreatProg
import Derived.Test.YtcloaaakhojjgaaGreatR
namespace Go.Proofs.YtcloaaakhojjgaaGreat
open Go Go.AM
set_option maxRecDepth 10000
set_option linter.unusedVariables false
set_option linter.unusedSimpArgs false
/- loop.example/g00332/laws.szStringS -/
def k_c_szStringS : XCode :=
 .seq (.ops [.op (some 4) (.mov (.k (.int .i64 0)))])
 (.keep [0, 1] (.seq (.ops [.op (some 6) (.mov (.t 1)),
   .op (some 7) (.mov (.t 0)),
   .op (some 8) (.lenS (.t 7)),
   .op (some 9) (.bin .sub (.t 6) (.t 8)),
   .op (some 1) (.mov (.t 9))])
 (.keep [0, 1] (.seq (.seq (.ops [.op (some 10) (.mov (.t 1)),
   .op (some 11) (.bin .lss (.t 10) (.k (.int .i64 0)))])
  (.keep [0, 1, 11] (.cond (.t 11)
  (.seq (.ops [.op (some 4) (.mov (.k (.int .i64 (-1))))])
   (.keep [4] (.ret)))
  (.skip))))
 (.keep [0, 1] (.seq (.seq (.ops [.op (some 5) (.mov (.k (.int .i64 0)))])
  (.keep [0, 1, 5] (.block 0 (.loop (.seq (.seq (.ops [.op (some 12) (.mov (.t 5)),
     .op (some 13) (.mov (.t 0)),
     .op (some 14) (.lenS (.t 13)),
     .op (some 15) (.bin .lss (.t 12) (.t 14))])
   (.keep [0, 1, 5, 15] (.cond (.t 15)
    (.skip)
    (.exit 0))))
   (.keep [0, 1, 5] (.seq (.block 1 (.seq (.ops [.op (some 18) (.mov (.t 1)),
     .op (some 19) (.mov (.t 0)),
     .op (some 20) (.mov (.t 5)),
     .op (some 21) (.iadr 1 (.t 19) (.t 20)),
     .op (some 22) (.load1 (.t 21)),
     .op (some 23) (.lenT (.t 22)),
     .op (some 24) (.bin .sub (.t 18) (.t 23)),
     .op (some 1) (.mov (.t 24))])
    (.keep [0, 1, 5] (.seq (.ops [.op (some 25) (.mov (.t 1)),
     .op (some 26) (.bin .lss (.t 25) (.k (.int .i64 0)))])
    (.keep [0, 1, 5, 26] (.cond (.t 26)
    (.seq (.ops [.op (some 4) (.mov (.k (.int .i64 (-1))))])
     (.keep [4] (.ret)))
    (.skip)))))))
   (.keep [0, 1, 5] (.ops [.op (some 16) (.mov (.t 5)),
    .op (some 17) (.bin .add (.t 16) (.k (.int .i64 1))),
    .op (some 5) (.mov (.t 17))])))))))))
 (.keep [1] (.seq (.ops [.op (some 27) (.mov (.t 1)),
   .op (some 4) (.mov (.t 27))])
 (.keep [4] (.ret))))))))))
theorem k_c_szStringS_fits : fitsF Tryz.prog 98 ⟨28, k_c_szStringS, [.t 4]⟩ = true := by kernel_rfl
theorem c_szStringS {xs : List Str} {left : Int} (h0 : 0 ≤ left) (hl : left ≤ 1048576) (hw : wfL wfStr xs) : Con Tryz.prog noMv 98 [.d (.sl 1 (xs.map strRow)), int left] [] (fun r h => r = int (szF left (szL List.length xs)) ∧ h = []) := by
 refine con_of2 k_c_szStringS_fits rfl fun C hP hmv => ?_
 unfold k_c_szStringS
 have hw1 := hw.1; have hw2 := hw.2
 have sp := szF_spec left (szL List.length xs)
 refine cx_seq (cx_ops ?_)
 refine ax_q (q_mov rfl) ?_
 refine ax_nil (cx_keep rfl rfl (cx_seq (cx_ops ?_)))
 refine ax_q (q_mov rfl) ?_
 refine ax_q (q_mov rfl) ?_
 refine ax_q (q_lenS_map rfl) ?_
 refine ax_q (q_sub rfl rfl (by omega)) ?_
 refine ax_q (q_mov rfl) ?_
 refine ax_nil (cx_keep rfl rfl (cx_seq (cx_seq (cx_ops ?_))))
 refine ax_q (q_mov rfl) ?_
 refine ax_q (q_ibin rfl rfl rfl) ?_
 refine ax_nil (cx_keep rfl rfl ?_)
 refine cx_cond rfl (fun h0 => ?_) (fun h0 => ?_)
 ·
  have h0 := dT h0
  refine cx_seq (cx_ops ?_)
  refine ax_q (q_mov rfl) ?_
  refine ax_nil (cx_keep rfl rfl ?_)
  refine cx_ret (ret0 rfl rfl ?_)
  exact ⟨congrArg int (by unfold szL at sp ⊢; omega), rfl⟩
 ·
  have h0 := dF h0
  refine cx_skip ?_
  refine cx_keep rfl rfl (cx_seq (cx_seq (cx_ops ?_)))
  refine ax_q (q_mov rfl) ?_
  refine ax_nil (cx_keep rfl rfl (cx_block ?_))
  refine cx_loopU (fun n k => k ≤ xs.length ∧ n = xs.length - k ∧ 0 ≤ left - xs.length - sumBy List.length (xs.take k)) (fun k : Nat => [(1, int (left - xs.length - sumBy List.length (xs.take k))), (5, int k)]) (fun _ => [])
   ⟨_, 0, ⟨Nat.zero_le _, rfl, by simp [sumBy]; omega⟩, ⟨⟨rfl, congrArg (fun n => some (int n)) (by simp only [List.take_zero, sumBy]; omega), rfl, trivial⟩, trivial⟩⟩ ?_
  rintro n k ⟨hk, rfl, hs⟩
  refine cx_seq (cx_seq (cx_ops ?_))
  refine ax_q (q_mov rfl) ?_
  refine ax_q (q_mov rfl) ?_
  refine ax_q (q_lenS_map rfl) ?_
  refine ax_q (q_ibin rfl rfl rfl) ?_
  refine ax_nil (cx_keep rfl rfl ?_)
  refine cx_cond rfl (fun h1 => ?_) (fun h1 => ?_)
  ·
   have h1 := dT h1
   have h1x : k < xs.length := by omega
   have hst := sumBy_take (f := List.length) h1x
   have hsl := sumBy_le (f := List.length) xs (k + 1)
   have hwk := hw2 _ (List.getElem_mem h1x)
   refine cx_skip ?_
   refine cx_keep rfl rfl (cx_seq (cx_block (cx_seq (cx_ops ?_))))
   refine ax_q (q_mov rfl) ?_
   refine ax_q (q_mov rfl) ?_
   refine ax_q (q_mov rfl) ?_
   refine ax_q (q_ix rfl rfl (mapAt h1x)) ?_
   first | refine ax_q (q_load1_ptr rfl rfl rfl) ?_ | refine ax_q (q_load1_ip rfl) ?_
   refine ax_q (q_lenT rfl) ?_
   refine ax_qe (r' := int (left - xs.length - sumBy List.length (xs.take (k + 1)))) (q_ibin rfl rfl rfl) (by unfold wfStr at hwk; rw [wi (by omega) (by omega)]; congr 2; omega) ?_
   refine ax_q (q_mov rfl) ?_
   refine ax_nil (cx_keep rfl rfl (cx_seq (cx_ops ?_)))
   refine ax_q (q_mov rfl) ?_
   refine ax_q (q_ibin rfl rfl rfl) ?_
   refine ax_nil (cx_keep rfl rfl ?_)
   refine cx_cond rfl (fun h2 => ?_) (fun h2 => ?_)
   ·
    have h2 := dT h2
    refine cx_seq (cx_ops ?_)
    refine ax_q (q_mov rfl) ?_
    refine ax_nil (cx_keep rfl rfl ?_)
    refine cx_ret (ret0 rfl rfl ?_)
    exact ⟨congrArg int (by unfold szL at sp ⊢; omega), rfl⟩
   ·
    have h2 := dF h2
    refine cx_skip ?_
    refine cx_keep rfl rfl (cx_ops ?_)
    refine ax_q (q_mov rfl) ?_
    refine ax_q (q_add rfl rfl (by omega)) ?_
    refine ax_q (q_mov rfl) ?_
    refine ax_nil ?_
    exact ⟨_, k + 1, by omega, ⟨by omega, rfl, by omega⟩, by repeat constructor⟩
  ·
   have h1 := dF h1
   refine cx_exit rfl ?_
   refine cx_keep rfl rfl (cx_seq (cx_ops ?_))
   refine ax_q (q_mov rfl) ?_
   refine ax_q (q_mov rfl) ?_
   refine ax_nil (cx_keep rfl rfl ?_)
   refine cx_ret (ret0 rfl rfl ?_)
   have hk2 : k = xs.length := by omega
   subst hk2; rw [List.take_length] at hs ⊢
   exact ⟨congrArg int (by unfold szL at sp ⊢; omega), rfl⟩


/- loop.example/g00332/laws.szPending -/
def k_c_szPending : XCode :=
 .seq (.ops [.op (some 2) (.box (.t 0)),
   .op (some 4) (.mov (.k (.int .i64 0)))])
 (.keep [1, 2] (.seq (.ops [.op (some 5) (.mov (.t 1)),
   .op (some 6) (.fadr (.t 2) 1),
   .op (some 7) (.load1 (.t 6)),
   .op (some 8) (.lenT (.t 7)),
   .op (some 9) (.bin .sub (.t 5) (.t 8)),
   .op (some 1) (.mov (.t 9))])
 (.keep [1] (.seq (.seq (.ops [.op (some 10) (.mov (.t 1)),
   .op (some 11) (.bin .lss (.t 10) (.k (.int .i64 0)))])
  (.keep [1, 11] (.cond (.t 11)
  (.seq (.ops [.op (some 4) (.mov (.k (.int .i64 (-1))))])
   (.keep [4] (.ret)))
  (.skip))))
 (.keep [1] (.seq (.ops [.op (some 12) (.mov (.t 1)),
   .op (some 4) (.mov (.t 12))])
 (.keep [4] (.ret))))))))
theorem k_c_szPending_fits : fitsF Tryz.prog 145 ⟨13, k_c_szPending, [.t 4]⟩ = true := by kernel_rfl
theorem c_szPending {a : GPending} {left : Int} (h0 : 0 ≤ left) (hl : left ≤ 1048576) (hw : a.wf) : Con Tryz.prog noMv 145 [a.av, int left] [] (fun r h => r = int (szF left (GPending.sz a)) ∧ h = []) := by
 refine con_of2 k_c_szPending_fits rfl fun C hP hmv => ?_
 unfold k_c_szPending
 have sp := szF_spec left (GPending.sz a)
 have e0 : GPending.sz a = a.Data.length := rfl
 rw [e0] at sp ⊢
 obtain ⟨w0, w1⟩ := hw
 have w1x : a.Data.length ≤ 9223372036854775807 := w1
 refine cx_seq (cx_ops ?_)
 refine ax_e (e_box rfl rfl (by decide) rfl rfl rfl) ?_
 refine ax_q (q_mov rfl) ?_
 refine ax_nil (cx_keep rfl rfl (cx_seq (cx_ops ?_)))
 refine ax_q (q_mov rfl) ?_
 refine ax_q (q_fadr_ptr rfl) ?_
 refine ax_q (q_load1_ptr rfl rfl rfl) ?_
 refine ax_q (q_lenT rfl) ?_
 refine ax_q (q_sub rfl rfl (by omega)) ?_
 refine ax_q (q_mov rfl) ?_
 refine ax_nil (cx_keep rfl rfl (cx_seq (cx_seq (cx_ops ?_))))
 refine ax_q (q_mov rfl) ?_
 refine ax_q (q_ibin rfl rfl rfl) ?_
 refine ax_nil (cx_keep rfl rfl ?_)
 refine cx_cond rfl (fun h0 => ?_) (fun h0 => ?_)
 ·
  have h0 := dT h0
  refine cx_seq (cx_ops ?_)
  refine ax_q (q_mov rfl) ?_
  refine ax_nil (cx_keep rfl rfl ?_)
  refine cx_ret (ret0 rfl rfl ?_)
  exact ⟨congrArg int (by omega), rfl⟩
 ·
  have h0 := dF h0
  refine cx_skip ?_
  refine cx_keep rfl rfl (cx_seq (cx_ops ?_))
  refine ax_q (q_mov rfl) ?_
  refine ax_q (q_mov rfl) ?_
  refine ax_nil (cx_keep rfl rfl ?_)
  refine cx_ret (ret0 rfl rfl ?_)
  exact ⟨congrArg int (by omega), rfl⟩


/- loop.example/g00332/laws.szPendingS -/
def k_c_szPendingS : XCode :=
 .seq (.ops [.op (some 4) (.mov (.k (.int .i64 0)))])
 (.keep [0, 1] (.seq (.ops [.op (some 6) (.mov (.t 1)),
   .op (some 7) (.mov (.t 0)),
   .op (some 8) (.lenS (.t 7)),
   .op (some 9) (.bin .sub (.t 6) (.t 8)),
   .op (some 1) (.mov (.t 9))])
 (.keep [0, 1] (.seq (.seq (.ops [.op (some 10) (.mov (.t 1)),
   .op (some 11) (.bin .lss (.t 10) (.k (.int .i64 0)))])
  (.keep [0, 1, 11] (.cond (.t 11)
  (.seq (.ops [.op (some 4) (.mov (.k (.int .i64 (-1))))])
   (.keep [4] (.ret)))
  (.skip))))
 (.keep [0, 1] (.seq (.seq (.ops [.op (some 5) (.mov (.k (.int .i64 0)))])
  (.keep [0, 1, 5] (.block 0 (.loop (.seq (.seq (.ops [.op (some 12) (.mov (.t 5)),
     .op (some 13) (.mov (.t 0)),
     .op (some 14) (.lenS (.t 13)),
     .op (some 15) (.bin .lss (.t 12) (.t 14))])
   (.keep [0, 1, 5, 15] (.cond (.t 15)
    (.skip)
    (.exit 0))))
   (.keep [0, 1, 5] (.seq (.block 1 (.seq (.ops [.op (some 18) (.mov (.t 0)),
     .op (some 19) (.mov (.t 5)),
     .op (some 20) (.iadr 2 (.t 18) (.t 19)),
     .op (some 21) (.loadN 2 (.t 20)),
     .op (some 22) (.mov (.t 1)),
     .call (some 23) 145 [.t 21, .t 22],
     .op (some 1) (.mov (.t 23))])
    (.keep [0, 1, 5] (.seq (.ops [.op (some 24) (.mov (.t 1)),
     .op (some 25) (.bin .lss (.t 24) (.k (.int .i64 0)))])
    (.keep [0, 1, 5, 25] (.cond (.t 25)
    (.seq (.ops [.op (some 4) (.mov (.k (.int .i64 (-1))))])
     (.keep [4] (.ret)))
    (.skip)))))))
   (.keep [0, 1, 5] (.ops [.op (some 16) (.mov (.t 5)),
    .op (some 17) (.bin .add (.t 16) (.k (.int .i64 1))),
    .op (some 5) (.mov (.t 17))])))))))))
 (.keep [1] (.seq (.ops [.op (some 26) (.mov (.t 1)),
   .op (some 4) (.mov (.t 26))])
 (.keep [4] (.ret))))))))))
theorem k_c_szPendingS_fits : fitsF Tryz.prog 99 ⟨27, k_c_szPendingS, [.t 4]⟩ = true := by kernel_rfl
theorem c_szPendingS {xs : List GPending} {left : Int} (h0 : 0 ≤ left) (hl : left ≤ 1048576) (hw : wfL GPending.wf xs) : Con Tryz.prog noMv 99 [.d (.sl 2 (xs.map GPending.row)), int left] [] (fun r h => r = int (szF left (szL GPending.sz xs)) ∧ h = []) := by
 refine con_of2 k_c_szPendingS_fits rfl fun C hP hmv => ?_
 unfold k_c_szPendingS
 have hw1 := hw.1; have hw2 := hw.2
 have sp := szF_spec left (szL GPending.sz xs)
 refine cx_seq (cx_ops ?_)
 refine ax_q (q_mov rfl) ?_
 refine ax_nil (cx_keep rfl rfl (cx_seq (cx_ops ?_)))
 refine ax_q (q_mov rfl) ?_
 refine ax_q (q_mov rfl) ?_
 refine ax_q (q_lenS_map rfl) ?_
 refine ax_q (q_sub rfl rfl (by omega)) ?_
 refine ax_q (q_mov rfl) ?_
 refine ax_nil (cx_keep rfl rfl (cx_seq (cx_seq (cx_ops ?_))))
 refine ax_q (q_mov rfl) ?_
 refine ax_q (q_ibin rfl rfl rfl) ?_
 refine ax_nil (cx_keep rfl rfl ?_)
 refine cx_cond rfl (fun h0 => ?_) (fun h0 => ?_)
 ·
  have h0 := dT h0
  refine cx_seq (cx_ops ?_)
  refine ax_q (q_mov rfl) ?_
  refine ax_nil (cx_keep rfl rfl ?_)
  refine cx_ret (ret0 rfl rfl ?_)
  exact ⟨congrArg int (by unfold szL at sp ⊢; omega), rfl⟩
 ·
  have h0 := dF h0
  refine cx_skip ?_
  refine cx_keep rfl rfl (cx_seq (cx_seq (cx_ops ?_)))
  refine ax_q (q_mov rfl) ?_
  refine ax_nil (cx_keep rfl rfl (cx_block ?_))
  refine cx_loopU (fun n k => k ≤ xs.length ∧ n = xs.length - k ∧ 0 ≤ left - xs.length - sumBy GPending.sz (xs.take k)) (fun k : Nat => [(1, int (left - xs.length - sumBy GPending.sz (xs.take k))), (5, int k)]) (fun _ => [])
   ⟨_, 0, ⟨Nat.zero_le _, rfl, by simp [sumBy]; omega⟩, ⟨⟨rfl, congrArg (fun n => some (int n)) (by simp only [List.take_zero, sumBy]; omega), rfl, trivial⟩, trivial⟩⟩ ?_
  rintro n k ⟨hk, rfl, hs⟩
  refine cx_seq (cx_seq (cx_ops ?_))
  refine ax_q (q_mov rfl) ?_
  refine ax_q (q_mov rfl) ?_
  refine ax_q (q_lenS_map rfl) ?_
  refine ax_q (q_ibin rfl rfl rfl) ?_
  refine ax_nil (cx_keep rfl rfl ?_)
  refine cx_cond rfl (fun h1 => ?_) (fun h1 => ?_)
  ·
   have h1 := dT h1
   have h1x : k < xs.length := by omega
   have hst := sumBy_take (f := GPending.sz) h1x
   have hsl := sumBy_le (f := GPending.sz) xs (k + 1)
   have hwk := hw2 _ (List.getElem_mem h1x)
   refine cx_skip ?_
   refine cx_keep rfl rfl (cx_seq (cx_block (cx_seq (cx_ops ?_))))
   refine ax_q (q_mov rfl) ?_
   refine ax_q (q_mov rfl) ?_
   refine ax_q (q_ix rfl rfl (mapAt h1x)) ?_
   first | refine ax_q (q_ldN rfl rfl rfl) ?_ | refine ax_q (q_loadN_ip rfl (Nat.le_refl _)) ?_
   refine ax_q (q_mov rfl) ?_
   have spk := szF_spec (left - xs.length - sumBy GPending.sz (xs.take k)) (GPending.sz xs[k])
   refine ax_call rfl (vc_pure0 (c_szPending  ?_ ?_ ?_) hP rfl rfl ?_)
   ·
    assumption
   ·
    first | assumption | omega
   ·
    assumption
   refine ax_q (q_mov rfl) ?_
   refine ax_nil (cx_keep rfl rfl (cx_seq (cx_ops ?_)))
   refine ax_q (q_mov rfl) ?_
   refine ax_q (q_ibin rfl rfl rfl) ?_
   refine ax_nil (cx_keep rfl rfl ?_)
   refine cx_cond rfl (fun h2 => ?_) (fun h2 => ?_)
   ·
    have h2 := dT h2
    refine cx_seq (cx_ops ?_)
    refine ax_q (q_mov rfl) ?_
    refine ax_nil (cx_keep rfl rfl ?_)
    refine cx_ret (ret0 rfl rfl ?_)
    exact ⟨congrArg int (by unfold szL at sp ⊢; omega), rfl⟩
   ·
    have h2 := dF h2
    have e9 : szF (left - xs.length - sumBy GPending.sz (xs.take k)) (GPending.sz xs[k]) = left - xs.length - sumBy GPending.sz (xs.take (k + 1)) := by omega
    refine cx_skip ?_
    refine cx_keep rfl rfl (cx_ops ?_)
    refine ax_q (q_mov rfl) ?_
    refine ax_q (q_add rfl rfl (by omega)) ?_
    refine ax_q (q_mov rfl) ?_
    refine ax_nil ?_
    refine ⟨_, k + 1, by omega, ⟨by omega, rfl, by omega⟩, ?_⟩
    rw [e9]
    exact by repeat constructor
  ·
   have h1 := dF h1
   refine cx_exit rfl ?_
   refine cx_keep rfl rfl (cx_seq (cx_ops ?_))
   refine ax_q (q_mov rfl) ?_
   refine ax_q (q_mov rfl) ?_
   refine ax_nil (cx_keep rfl rfl ?_)
   refine cx_ret (ret0 rfl rfl ?_)
   have hk2 : k = xs.length := by omega
   subst hk2; rw [List.take_length] at hs ⊢
   exact ⟨congrArg int (by unfold szL at sp ⊢; omega), rfl⟩


/- loop.example/g00332/laws.szIntS -/
def k_c_szIntS : XCode :=
 .seq (.ops [.op (some 4) (.mov (.k (.int .i64 0)))])
 (.keep [0, 1] (.seq (.ops [.op (some 5) (.mov (.t 1)),
   .op (some 6) (.mov (.t 0)),
   .op (some 7) (.lenS (.t 6)),
   .op (some 8) (.bin .sub (.t 5) (.t 7)),
   .op (some 1) (.mov (.t 8))])
 (.keep [1] (.seq (.seq (.ops [.op (some 9) (.mov (.t 1)),
   .op (some 10) (.bin .lss (.t 9) (.k (.int .i64 0)))])
  (.keep [1, 10] (.cond (.t 10)
  (.seq (.ops [.op (some 4) (.mov (.k (.int .i64 (-1))))])
   (.keep [4] (.ret)))
  (.skip))))
 (.keep [1] (.seq (.ops [.op (some 11) (.mov (.t 1)),
   .op (some 4) (.mov (.t 11))])
 (.keep [4] (.ret))))))))
theorem k_c_szIntS_fits : fitsF Tryz.prog 100 ⟨12, k_c_szIntS, [.t 4]⟩ = true := by kernel_rfl
theorem c_szIntS {xs : List Int} {left : Int} (h0 : 0 ≤ left) (hl : left ≤ 1048576) (hw : wfL wfInt xs) : Con Tryz.prog noMv 100 [.d (.sl 1 (xs.map intRow)), int left] [] (fun r h => r = int (szF left (szL (fun _ => 0) xs)) ∧ h = []) := by
 refine con_of2 k_c_szIntS_fits rfl fun C hP hmv => ?_
 unfold k_c_szIntS
 have hw1 := hw.1
 have sp := szF_spec left (szL (fun _ => 0) xs)
 have e0 : szL (fun _ => 0) xs = xs.length := by unfold szL; rw [sumBy_zero]; rfl
 rw [e0] at sp ⊢
 refine cx_seq (cx_ops ?_)
 refine ax_q (q_mov rfl) ?_
 refine ax_nil (cx_keep rfl rfl (cx_seq (cx_ops ?_)))
 refine ax_q (q_mov rfl) ?_
 refine ax_q (q_mov rfl) ?_
 refine ax_q (q_lenS_map rfl) ?_
 refine ax_q (q_sub rfl rfl (by omega)) ?_
 refine ax_q (q_mov rfl) ?_
 refine ax_nil (cx_keep rfl rfl (cx_seq (cx_seq (cx_ops ?_))))
 refine ax_q (q_mov rfl) ?_
 refine ax_q (q_ibin rfl rfl rfl) ?_
 refine ax_nil (cx_keep rfl rfl ?_)
 refine cx_cond rfl (fun h0 => ?_) (fun h0 => ?_)
 ·
  have h0 := dT h0
  refine cx_seq (cx_ops ?_)
  refine ax_q (q_mov rfl) ?_
  refine ax_nil (cx_keep rfl rfl ?_)
  refine cx_ret (ret0 rfl rfl ?_)
  exact ⟨congrArg int (by omega), rfl⟩
 ·
  have h0 := dF h0
  refine cx_skip ?_
  refine cx_keep rfl rfl (cx_seq (cx_ops ?_))
  refine ax_q (q_mov rfl) ?_
  refine ax_q (q_mov rfl) ?_
  refine ax_nil (cx_keep rfl rfl ?_)
  refine cx_ret (ret0 rfl rfl ?_)
  exact ⟨congrArg int (by omega), rfl⟩


/- loop.example/g00332/laws.szDisk -/
def k_c_szDisk : XCode :=
 .seq (.ops [.op (some 2) (.box (.t 0)),
   .op (some 4) (.mov (.k (.int .i64 0)))])
 (.keep [1, 2] (.seq (.ops [.op (some 5) (.fadr (.t 2) 0),
   .op (some 6) (.load1 (.t 5)),
   .op (some 7) (.mov (.t 1)),
   .call (some 8) 98 [.t 6, .t 7],
   .op (some 1) (.mov (.t 8))])
 (.keep [1, 2] (.seq (.seq (.ops [.op (some 9) (.mov (.t 1)),
   .op (some 10) (.bin .lss (.t 9) (.k (.int .i64 0)))])
  (.keep [1, 2, 10] (.cond (.t 10)
  (.seq (.ops [.op (some 4) (.mov (.k (.int .i64 (-1))))])
   (.keep [4] (.ret)))
  (.skip))))
 (.keep [1, 2] (.seq (.ops [.op (some 11) (.fadr (.t 2) 1),
   .op (some 12) (.load1 (.t 11)),
   .op (some 13) (.mov (.t 1)),
   .call (some 14) 99 [.t 12, .t 13],
   .op (some 1) (.mov (.t 14))])
 (.keep [1, 2] (.seq (.seq (.ops [.op (some 15) (.mov (.t 1)),
   .op (some 16) (.bin .lss (.t 15) (.k (.int .i64 0)))])
  (.keep [1, 2, 16] (.cond (.t 16)
  (.seq (.ops [.op (some 4) (.mov (.k (.int .i64 (-1))))])
   (.keep [4] (.ret)))
  (.skip))))
 (.keep [1, 2] (.seq (.ops [.op (some 17) (.fadr (.t 2) 3),
   .op (some 18) (.load1 (.t 17)),
   .op (some 19) (.mov (.t 1)),
   .call (some 20) 100 [.t 18, .t 19],
   .op (some 1) (.mov (.t 20))])
 (.keep [1] (.seq (.seq (.ops [.op (some 21) (.mov (.t 1)),
   .op (some 22) (.bin .lss (.t 21) (.k (.int .i64 0)))])
  (.keep [1, 22] (.cond (.t 22)
  (.seq (.ops [.op (some 4) (.mov (.k (.int .i64 (-1))))])
   (.keep [4] (.ret)))
  (.skip))))
 (.keep [1] (.seq (.ops [.op (some 23) (.mov (.t 1)),
   .op (some 4) (.mov (.t 23))])
 (.keep [4] (.ret))))))))))))))))
theorem k_c_szDisk_fits : fitsF Tryz.prog 45 ⟨24, k_c_szDisk, [.t 4]⟩ = true := by kernel_rfl
theorem c_szDisk {a : GDisk} {left : Int} (h0 : 0 ≤ left) (hl : left ≤ 1048576) (hw : a.wf) : Con Tryz.prog noMv 45 [a.av, int left] [] (fun r h => r = int (szF left (GDisk.sz a)) ∧ h = []) := by
 refine con_of2 k_c_szDisk_fits rfl fun C hP hmv => ?_
 unfold k_c_szDisk
 have sp := szF_spec left (GDisk.sz a)
 have e0 : GDisk.sz a = szL List.length a.Sectors + szL GPending.sz a.Cache + szL (fun _ => 0) a.Keep := rfl
 rw [e0] at sp ⊢
 obtain ⟨w0, w1, w2, w3⟩ := hw
 refine cx_seq (cx_ops ?_)
 refine ax_e (e_box rfl rfl (by decide) rfl rfl rfl) ?_
 refine ax_q (q_mov rfl) ?_
 refine ax_nil (cx_keep rfl rfl (cx_seq (cx_ops ?_)))
 refine ax_q (q_fadr_ptr rfl) ?_
 refine ax_q (q_load1_ptr rfl rfl rfl) ?_
 refine ax_q (q_mov rfl) ?_
 have q0 := szF_spec left (szL List.length a.Sectors)
 refine ax_call rfl (vc_pure0 (c_szStringS  ?_ ?_ ?_) hP rfl rfl ?_)
 ·
  assumption
 ·
  assumption
 ·
  assumption
 refine ax_q (q_mov rfl) ?_
 refine ax_nil (cx_keep rfl rfl (cx_seq (cx_seq (cx_ops ?_))))
 refine ax_q (q_mov rfl) ?_
 refine ax_q (q_ibin rfl rfl rfl) ?_
 refine ax_nil (cx_keep rfl rfl ?_)
 refine cx_cond rfl (fun h0 => ?_) (fun h0 => ?_)
 ·
  have h0 := dT h0
  refine cx_seq (cx_ops ?_)
  refine ax_q (q_mov rfl) ?_
  refine ax_nil (cx_keep rfl rfl ?_)
  refine cx_ret (ret0 rfl rfl ?_)
  exact ⟨congrArg int (by omega), rfl⟩
 ·
  have h0 := dF h0
  refine cx_skip ?_
  refine cx_keep rfl rfl (cx_seq (cx_ops ?_))
  refine ax_q (q_fadr_ptr rfl) ?_
  refine ax_q (q_load1_ptr rfl rfl rfl) ?_
  refine ax_q (q_mov rfl) ?_
  have q1 := szF_spec (szF left (szL List.length a.Sectors)) (szL GPending.sz a.Cache)
  refine ax_call rfl (vc_pure0 (c_szPendingS  ?_ ?_ ?_) hP rfl rfl ?_)
  ·
   first | assumption | omega
  ·
   first | assumption | omega
  ·
   assumption
  refine ax_q (q_mov rfl) ?_
  refine ax_nil (cx_keep rfl rfl (cx_seq (cx_seq (cx_ops ?_))))
  refine ax_q (q_mov rfl) ?_
  refine ax_q (q_ibin rfl rfl rfl) ?_
  refine ax_nil (cx_keep rfl rfl ?_)
  refine cx_cond rfl (fun h1 => ?_) (fun h1 => ?_)
  ·
   have h1 := dT h1
   refine cx_seq (cx_ops ?_)
   refine ax_q (q_mov rfl) ?_
   refine ax_nil (cx_keep rfl rfl ?_)
   refine cx_ret (ret0 rfl rfl ?_)
   exact ⟨congrArg int (by omega), rfl⟩
  ·
   have h1 := dF h1
   refine cx_skip ?_
   refine cx_keep rfl rfl (cx_seq (cx_ops ?_))
   refine ax_q (q_fadr_ptr rfl) ?_
   refine ax_q (q_load1_ptr rfl rfl rfl) ?_
   refine ax_q (q_mov rfl) ?_
   have q2 := szF_spec (szF (szF left (szL List.length a.Sectors)) (szL GPending.sz a.Cache)) (szL (fun _ => 0) a.Keep)
   refine ax_call rfl (vc_pure0 (c_szIntS  ?_ ?_ ?_) hP rfl rfl ?_)
   ·
    first | assumption | omega
   ·
    first | assumption | omega
   ·
    assumption
   refine ax_q (q_mov rfl) ?_
   refine ax_nil (cx_keep rfl rfl (cx_seq (cx_seq (cx_ops ?_))))
   refine ax_q (q_mov rfl) ?_
   refine ax_q (q_ibin rfl rfl rfl) ?_
   refine ax_nil (cx_keep rfl rfl ?_)
   refine cx_cond rfl (fun h2 => ?_) (fun h2 => ?_)
   ·
    have h2 := dT h2
    refine cx_seq (cx_ops ?_)
    refine ax_q (q_mov rfl) ?_
    refine ax_nil (cx_keep rfl rfl ?_)
    refine cx_ret (ret0 rfl rfl ?_)
    exact ⟨congrArg int (by omega), rfl⟩
   ·
    have h2 := dF h2
    refine cx_skip ?_
    refine cx_keep rfl rfl (cx_seq (cx_ops ?_))
    refine ax_q (q_mov rfl) ?_
    refine ax_q (q_mov rfl) ?_
    refine ax_nil (cx_keep rfl rfl ?_)
    refine cx_ret (ret0 rfl rfl ?_)
    exact ⟨congrArg int (by omega), rfl⟩


/- loop.example/g00332/laws.szLogRecord -/
def k_c_szLogRecord : XCode :=
 .seq (.ops [.op (some 2) (.box (.t 0)),
   .op (some 4) (.mov (.k (.int .i64 0)))])
 (.keep [1, 2] (.seq (.ops [.op (some 5) (.mov (.t 1)),
   .op (some 6) (.fadr (.t 2) 8),
   .op (some 7) (.load1 (.t 6)),
   .op (some 8) (.lenT (.t 7)),
   .op (some 9) (.bin .sub (.t 5) (.t 8)),
   .op (some 1) (.mov (.t 9))])
 (.keep [1, 2] (.seq (.seq (.ops [.op (some 10) (.mov (.t 1)),
   .op (some 11) (.bin .lss (.t 10) (.k (.int .i64 0)))])
  (.keep [1, 2, 11] (.cond (.t 11)
  (.seq (.ops [.op (some 4) (.mov (.k (.int .i64 (-1))))])
   (.keep [4] (.ret)))
  (.skip))))
 (.keep [1, 2] (.seq (.ops [.op (some 12) (.mov (.t 1)),
   .op (some 13) (.fadr (.t 2) 9),
   .op (some 14) (.load1 (.t 13)),
   .op (some 15) (.lenT (.t 14)),
   .op (some 16) (.bin .sub (.t 12) (.t 15)),
   .op (some 1) (.mov (.t 16))])
 (.keep [1] (.seq (.seq (.ops [.op (some 17) (.mov (.t 1)),
   .op (some 18) (.bin .lss (.t 17) (.k (.int .i64 0)))])
  (.keep [1, 18] (.cond (.t 18)
  (.seq (.ops [.op (some 4) (.mov (.k (.int .i64 (-1))))])
   (.keep [4] (.ret)))
  (.skip))))
 (.keep [1] (.seq (.ops [.op (some 19) (.mov (.t 1)),
   .op (some 4) (.mov (.t 19))])
 (.keep [4] (.ret))))))))))))
theorem k_c_szLogRecord_fits : fitsF Tryz.prog 101 ⟨20, k_c_szLogRecord, [.t 4]⟩ = true := by kernel_rfl
theorem c_szLogRecord {a : GLogRecord} {left : Int} (h0 : 0 ≤ left) (hl : left ≤ 1048576) (hw : a.wf) : Con Tryz.prog noMv 101 [a.av, int left] [] (fun r h => r = int (szF left (GLogRecord.sz a)) ∧ h = []) := by
 refine con_of2 k_c_szLogRecord_fits rfl fun C hP hmv => ?_
 unfold k_c_szLogRecord
 have sp := szF_spec left (GLogRecord.sz a)
 have e0 : GLogRecord.sz a = a.Before.length + a.After.length := rfl
 rw [e0] at sp ⊢
 obtain ⟨w0, w1, w2, w3, w4, w5, w6, w7, w8, w9⟩ := hw
 have w8x : a.Before.length ≤ 9223372036854775807 := w8
 have w9x : a.After.length ≤ 9223372036854775807 := w9
 refine cx_seq (cx_ops ?_)
 refine ax_e (e_box rfl rfl (by decide) rfl rfl rfl) ?_
 refine ax_q (q_mov rfl) ?_
 refine ax_nil (cx_keep rfl rfl (cx_seq (cx_ops ?_)))
 refine ax_q (q_mov rfl) ?_
 refine ax_q (q_fadr_ptr rfl) ?_
 refine ax_q (q_load1_ptr rfl rfl rfl) ?_
 refine ax_q (q_lenT rfl) ?_
 refine ax_q (q_sub rfl rfl (by omega)) ?_
 refine ax_q (q_mov rfl) ?_
 refine ax_nil (cx_keep rfl rfl (cx_seq (cx_seq (cx_ops ?_))))
 refine ax_q (q_mov rfl) ?_
 refine ax_q (q_ibin rfl rfl rfl) ?_
 refine ax_nil (cx_keep rfl rfl ?_)
 refine cx_cond rfl (fun h0 => ?_) (fun h0 => ?_)
 ·
  have h0 := dT h0
  refine cx_seq (cx_ops ?_)
  refine ax_q (q_mov rfl) ?_
  refine ax_nil (cx_keep rfl rfl ?_)
  refine cx_ret (ret0 rfl rfl ?_)
  exact ⟨congrArg int (by omega), rfl⟩
 ·
  have h0 := dF h0
  refine cx_skip ?_
  refine cx_keep rfl rfl (cx_seq (cx_ops ?_))
  refine ax_q (q_mov rfl) ?_
  refine ax_q (q_fadr_ptr rfl) ?_
  refine ax_q (q_load1_ptr rfl rfl rfl) ?_
  refine ax_q (q_lenT rfl) ?_
  refine ax_q (q_sub rfl rfl (by omega)) ?_
  refine ax_q (q_mov rfl) ?_
  refine ax_nil (cx_keep rfl rfl (cx_seq (cx_seq (cx_ops ?_))))
  refine ax_q (q_mov rfl) ?_
  refine ax_q (q_ibin rfl rfl rfl) ?_
  refine ax_nil (cx_keep rfl rfl ?_)
  refine cx_cond rfl (fun h1 => ?_) (fun h1 => ?_)
  ·
   have h1 := dT h1
   refine cx_seq (cx_ops ?_)
   refine ax_q (q_mov rfl) ?_
   refine ax_nil (cx_keep rfl rfl ?_)
   refine cx_ret (ret0 rfl rfl ?_)
   exact ⟨congrArg int (by omega), rfl⟩
  ·
   have h1 := dF h1
   refine cx_skip ?_
   refine cx_keep rfl rfl (cx_seq (cx_ops ?_))
   refine ax_q (q_mov rfl) ?_
   refine ax_q (q_mov rfl) ?_
   refine ax_nil (cx_keep rfl rfl ?_)
   refine cx_ret (ret0 rfl rfl ?_)
   exact ⟨congrArg int (by omega), rfl⟩


/- loop.example/g00332/laws.szLogRecordS -/
def k_c_szLogRecordS : XCode :=
 .seq (.ops [.op (some 4) (.mov (.k (.int .i64 0)))])
 (.keep [0, 1] (.seq (.ops [.op (some 6) (.mov (.t 1)),
   .op (some 7) (.mov (.t 0)),
   .op (some 8) (.lenS (.t 7)),
   .op (some 9) (.bin .sub (.t 6) (.t 8)),
   .op (some 1) (.mov (.t 9))])
 (.keep [0, 1] (.seq (.seq (.ops [.op (some 10) (.mov (.t 1)),
   .op (some 11) (.bin .lss (.t 10) (.k (.int .i64 0)))])
  (.keep [0, 1, 11] (.cond (.t 11)
  (.seq (.ops [.op (some 4) (.mov (.k (.int .i64 (-1))))])
   (.keep [4] (.ret)))
  (.skip))))
 (.keep [0, 1] (.seq (.seq (.ops [.op (some 5) (.mov (.k (.int .i64 0)))])
  (.keep [0, 1, 5] (.block 0 (.loop (.seq (.seq (.ops [.op (some 12) (.mov (.t 5)),
     .op (some 13) (.mov (.t 0)),
     .op (some 14) (.lenS (.t 13)),
     .op (some 15) (.bin .lss (.t 12) (.t 14))])
   (.keep [0, 1, 5, 15] (.cond (.t 15)
    (.skip)
    (.exit 0))))
   (.keep [0, 1, 5] (.seq (.block 1 (.seq (.ops [.op (some 18) (.mov (.t 0)),
     .op (some 19) (.mov (.t 5)),
     .op (some 20) (.iadr 10 (.t 18) (.t 19)),
     .op (some 21) (.loadN 10 (.t 20)),
     .op (some 22) (.mov (.t 1)),
     .call (some 23) 101 [.t 21, .t 22],
     .op (some 1) (.mov (.t 23))])
    (.keep [0, 1, 5] (.seq (.ops [.op (some 24) (.mov (.t 1)),
     .op (some 25) (.bin .lss (.t 24) (.k (.int .i64 0)))])
    (.keep [0, 1, 5, 25] (.cond (.t 25)
    (.seq (.ops [.op (some 4) (.mov (.k (.int .i64 (-1))))])
     (.keep [4] (.ret)))
    (.skip)))))))
   (.keep [0, 1, 5] (.ops [.op (some 16) (.mov (.t 5)),
    .op (some 17) (.bin .add (.t 16) (.k (.int .i64 1))),
    .op (some 5) (.mov (.t 17))])))))))))
 (.keep [1] (.seq (.ops [.op (some 26) (.mov (.t 1)),
   .op (some 4) (.mov (.t 26))])
 (.keep [4] (.ret))))))))))
theorem k_c_szLogRecordS_fits : fitsF Tryz.prog 46 ⟨27, k_c_szLogRecordS, [.t 4]⟩ = true := by kernel_rfl
theorem c_szLogRecordS {xs : List GLogRecord} {left : Int} (h0 : 0 ≤ left) (hl : left ≤ 1048576) (hw : wfL GLogRecord.wf xs) : Con Tryz.prog noMv 46 [.d (.sl 10 (xs.map GLogRecord.row)), int left] [] (fun r h => r = int (szF left (szL GLogRecord.sz xs)) ∧ h = []) := by
 refine con_of2 k_c_szLogRecordS_fits rfl fun C hP hmv => ?_
 unfold k_c_szLogRecordS
 have hw1 := hw.1; have hw2 := hw.2
 have sp := szF_spec left (szL GLogRecord.sz xs)
 refine cx_seq (cx_ops ?_)
 refine ax_q (q_mov rfl) ?_
 refine ax_nil (cx_keep rfl rfl (cx_seq (cx_ops ?_)))
 refine ax_q (q_mov rfl) ?_
 refine ax_q (q_mov rfl) ?_
 refine ax_q (q_lenS_map rfl) ?_
 refine ax_q (q_sub rfl rfl (by omega)) ?_
 refine ax_q (q_mov rfl) ?_
 refine ax_nil (cx_keep rfl rfl (cx_seq (cx_seq (cx_ops ?_))))
 refine ax_q (q_mov rfl) ?_
 refine ax_q (q_ibin rfl rfl rfl) ?_
 refine ax_nil (cx_keep rfl rfl ?_)
 refine cx_cond rfl (fun h0 => ?_) (fun h0 => ?_)
 ·
  have h0 := dT h0
  refine cx_seq (cx_ops ?_)
  refine ax_q (q_mov rfl) ?_
  refine ax_nil (cx_keep rfl rfl ?_)
  refine cx_ret (ret0 rfl rfl ?_)
  exact ⟨congrArg int (by unfold szL at sp ⊢; omega), rfl⟩
 ·
  have h0 := dF h0
  refine cx_skip ?_
  refine cx_keep rfl rfl (cx_seq (cx_seq (cx_ops ?_)))
  refine ax_q (q_mov rfl) ?_
  refine ax_nil (cx_keep rfl rfl (cx_block ?_))
  refine cx_loopU (fun n k => k ≤ xs.length ∧ n = xs.length - k ∧ 0 ≤ left - xs.length - sumBy GLogRecord.sz (xs.take k)) (fun k : Nat => [(1, int (left - xs.length - sumBy GLogRecord.sz (xs.take k))), (5, int k)]) (fun _ => [])
   ⟨_, 0, ⟨Nat.zero_le _, rfl, by simp [sumBy]; omega⟩, ⟨⟨rfl, congrArg (fun n => some (int n)) (by simp only [List.take_zero, sumBy]; omega), rfl, trivial⟩, trivial⟩⟩ ?_
  rintro n k ⟨hk, rfl, hs⟩
  refine cx_seq (cx_seq (cx_ops ?_))
  refine ax_q (q_mov rfl) ?_
  refine ax_q (q_mov rfl) ?_
  refine ax_q (q_lenS_map rfl) ?_
  refine ax_q (q_ibin rfl rfl rfl) ?_
  refine ax_nil (cx_keep rfl rfl ?_)
  refine cx_cond rfl (fun h1 => ?_) (fun h1 => ?_)
  ·
   have h1 := dT h1
   have h1x : k < xs.length := by omega
   have hst := sumBy_take (f := GLogRecord.sz) h1x
   have hsl := sumBy_le (f := GLogRecord.sz) xs (k + 1)
   have hwk := hw2 _ (List.getElem_mem h1x)
   refine cx_skip ?_
   refine cx_keep rfl rfl (cx_seq (cx_block (cx_seq (cx_ops ?_))))
   refine ax_q (q_mov rfl) ?_
   refine ax_q (q_mov rfl) ?_
   refine ax_q (q_ix rfl rfl (mapAt h1x)) ?_
   first | refine ax_q (q_ldN rfl rfl rfl) ?_ | refine ax_q (q_loadN_ip rfl (Nat.le_refl _)) ?_
   refine ax_q (q_mov rfl) ?_
   have spk := szF_spec (left - xs.length - sumBy GLogRecord.sz (xs.take k)) (GLogRecord.sz xs[k])
   refine ax_call rfl (vc_pure0 (c_szLogRecord  ?_ ?_ ?_) hP rfl rfl ?_)
   ·
    assumption
   ·
    first | assumption | omega
   ·
    assumption
   refine ax_q (q_mov rfl) ?_
   refine ax_nil (cx_keep rfl rfl (cx_seq (cx_ops ?_)))
   refine ax_q (q_mov rfl) ?_
   refine ax_q (q_ibin rfl rfl rfl) ?_
   refine ax_nil (cx_keep rfl rfl ?_)
   refine cx_cond rfl (fun h2 => ?_) (fun h2 => ?_)
   ·
    have h2 := dT h2
    refine cx_seq (cx_ops ?_)
    refine ax_q (q_mov rfl) ?_
    refine ax_nil (cx_keep rfl rfl ?_)
    refine cx_ret (ret0 rfl rfl ?_)
    exact ⟨congrArg int (by unfold szL at sp ⊢; omega), rfl⟩
   ·
    have h2 := dF h2
    have e9 : szF (left - xs.length - sumBy GLogRecord.sz (xs.take k)) (GLogRecord.sz xs[k]) = left - xs.length - sumBy GLogRecord.sz (xs.take (k + 1)) := by omega
    refine cx_skip ?_
    refine cx_keep rfl rfl (cx_ops ?_)
    refine ax_q (q_mov rfl) ?_
    refine ax_q (q_add rfl rfl (by omega)) ?_
    refine ax_q (q_mov rfl) ?_
    refine ax_nil ?_
    refine ⟨_, k + 1, by omega, ⟨by omega, rfl, by omega⟩, ?_⟩
    rw [e9]
    exact by repeat constructor
  ·
   have h1 := dF h1
   refine cx_exit rfl ?_
   refine cx_keep rfl rfl (cx_seq (cx_ops ?_))
   refine ax_q (q_mov rfl) ?_
   refine ax_q (q_mov rfl) ?_
   refine ax_nil (cx_keep rfl rfl ?_)
   refine cx_ret (ret0 rfl rfl ?_)
   have hk2 : k = xs.length := by omega
   subst hk2; rw [List.take_length] at hs ⊢
   exact ⟨congrArg int (by unfold szL at sp ⊢; omega), rfl⟩


/- loop.example/g00332/laws.szPage -/
def k_c_szPage : XCode :=
 .seq (.ops [.op (some 2) (.box (.t 0)),
   .op (some 4) (.mov (.k (.int .i64 0)))])
 (.keep [1, 2] (.seq (.ops [.op (some 5) (.fadr (.t 2) 1),
   .op (some 6) (.load1 (.t 5)),
   .op (some 7) (.mov (.t 1)),
   .call (some 8) 98 [.t 6, .t 7],
   .op (some 1) (.mov (.t 8))])
 (.keep [1] (.seq (.seq (.ops [.op (some 9) (.mov (.t 1)),
   .op (some 10) (.bin .lss (.t 9) (.k (.int .i64 0)))])
  (.keep [1, 10] (.cond (.t 10)
  (.seq (.ops [.op (some 4) (.mov (.k (.int .i64 (-1))))])
   (.keep [4] (.ret)))
  (.skip))))
 (.keep [1] (.seq (.ops [.op (some 11) (.mov (.t 1)),
   .op (some 4) (.mov (.t 11))])
 (.keep [4] (.ret))))))))
theorem k_c_szPage_fits : fitsF Tryz.prog 146 ⟨12, k_c_szPage, [.t 4]⟩ = true := by kernel_rfl
theorem c_szPage {a : Page} {left : Int} (h0 : 0 ≤ left) (hl : left ≤ 1048576) (hw : a.wf) : Con Tryz.prog noMv 146 [a.av, int left] [] (fun r h => r = int (szF left (Page.sz a)) ∧ h = []) := by
 refine con_of2 k_c_szPage_fits rfl fun C hP hmv => ?_
 unfold k_c_szPage
 have sp := szF_spec left (Page.sz a)
 have e0 : Page.sz a = szL List.length a.slots := rfl
 rw [e0] at sp ⊢
 obtain ⟨w0, w1⟩ := hw
 refine cx_seq (cx_ops ?_)
 refine ax_e (e_box rfl rfl (by decide) rfl rfl rfl) ?_
 refine ax_q (q_mov rfl) ?_
 refine ax_nil (cx_keep rfl rfl (cx_seq (cx_ops ?_)))
 refine ax_q (q_fadr_ptr rfl) ?_
 refine ax_q (q_load1_ptr rfl rfl rfl) ?_
 refine ax_q (q_mov rfl) ?_
 have q0 := szF_spec left (szL List.length a.slots)
 refine ax_call rfl (vc_pure0 (c_szStringS  ?_ ?_ ?_) hP rfl rfl ?_)
 ·
  assumption
 ·
  assumption
 ·
  assumption
 refine ax_q (q_mov rfl) ?_
 refine ax_nil (cx_keep rfl rfl (cx_seq (cx_seq (cx_ops ?_))))
 refine ax_q (q_mov rfl) ?_
 refine ax_q (q_ibin rfl rfl rfl) ?_
 refine ax_nil (cx_keep rfl rfl ?_)
 refine cx_cond rfl (fun h0 => ?_) (fun h0 => ?_)
 ·
  have h0 := dT h0
  refine cx_seq (cx_ops ?_)
  refine ax_q (q_mov rfl) ?_
  refine ax_nil (cx_keep rfl rfl ?_)
  refine cx_ret (ret0 rfl rfl ?_)
  exact ⟨congrArg int (by omega), rfl⟩
 ·
  have h0 := dF h0
  refine cx_skip ?_
  refine cx_keep rfl rfl (cx_seq (cx_ops ?_))
  refine ax_q (q_mov rfl) ?_
  refine ax_q (q_mov rfl) ?_
  refine ax_nil (cx_keep rfl rfl ?_)
  refine cx_ret (ret0 rfl rfl ?_)
  exact ⟨congrArg int (by omega), rfl⟩


/- loop.example/g00332/laws.szFrame -/
def k_c_szFrame : XCode :=
 .seq (.ops [.op (some 2) (.box (.t 0)),
   .op (some 4) (.mov (.k (.int .i64 0)))])
 (.keep [1, 2] (.seq (.ops [.op (some 5) (.fadr (.t 2) 1),
   .op (some 6) (.loadN 2 (.t 5)),
   .op (some 7) (.mov (.t 1)),
   .call (some 8) 146 [.t 6, .t 7],
   .op (some 1) (.mov (.t 8))])
 (.keep [1] (.seq (.seq (.ops [.op (some 9) (.mov (.t 1)),
   .op (some 10) (.bin .lss (.t 9) (.k (.int .i64 0)))])
  (.keep [1, 10] (.cond (.t 10)
  (.seq (.ops [.op (some 4) (.mov (.k (.int .i64 (-1))))])
   (.keep [4] (.ret)))
  (.skip))))
 (.keep [1] (.seq (.ops [.op (some 11) (.mov (.t 1)),
   .op (some 4) (.mov (.t 11))])
 (.keep [4] (.ret))))))))
theorem k_c_szFrame_fits : fitsF Tryz.prog 102 ⟨12, k_c_szFrame, [.t 4]⟩ = true := by kernel_rfl
theorem c_szFrame {a : GFrame} {left : Int} (h0 : 0 ≤ left) (hl : left ≤ 1048576) (hw : a.wf) : Con Tryz.prog noMv 102 [a.av, int left] [] (fun r h => r = int (szF left (GFrame.sz a)) ∧ h = []) := by
 refine con_of2 k_c_szFrame_fits rfl fun C hP hmv => ?_
 unfold k_c_szFrame
 have sp := szF_spec left (GFrame.sz a)
 have e0 : GFrame.sz a = Page.sz a.Page := rfl
 rw [e0] at sp ⊢
 obtain ⟨w0, w1, w2, w3⟩ := hw
 refine cx_seq (cx_ops ?_)
 refine ax_e (e_box rfl rfl (by decide) rfl rfl rfl) ?_
 refine ax_q (q_mov rfl) ?_
 refine ax_nil (cx_keep rfl rfl (cx_seq (cx_ops ?_)))
 refine ax_q (q_fadr_ptr rfl) ?_
 refine ax_q (q_ldN rfl rfl rfl) ?_
 refine ax_q (q_mov rfl) ?_
 have q0 := szF_spec left (Page.sz a.Page)
 refine ax_call rfl (vc_pure0 (c_szPage  ?_ ?_ ?_) hP rfl rfl ?_)
 ·
  assumption
 ·
  assumption
 ·
  assumption
 refine ax_q (q_mov rfl) ?_
 refine ax_nil (cx_keep rfl rfl (cx_seq (cx_seq (cx_ops ?_))))
 refine ax_q (q_mov rfl) ?_
 refine ax_q (q_ibin rfl rfl rfl) ?_
 refine ax_nil (cx_keep rfl rfl ?_)
 refine cx_cond rfl (fun h0 => ?_) (fun h0 => ?_)
 ·
  have h0 := dT h0
  refine cx_seq (cx_ops ?_)
  refine ax_q (q_mov rfl) ?_
  refine ax_nil (cx_keep rfl rfl ?_)
  refine cx_ret (ret0 rfl rfl ?_)
  exact ⟨congrArg int (by omega), rfl⟩
 ·
  have h0 := dF h0
  refine cx_skip ?_
  refine cx_keep rfl rfl (cx_seq (cx_ops ?_))
  refine ax_q (q_mov rfl) ?_
  refine ax_q (q_mov rfl) ?_
  refine ax_nil (cx_keep rfl rfl ?_)
  refine cx_ret (ret0 rfl rfl ?_)
  exact ⟨congrArg int (by omega), rfl⟩


/- loop.example/g00332/laws.szFrameS -/
def k_c_szFrameS : XCode :=
 .seq (.ops [.op (some 4) (.mov (.k (.int .i64 0)))])
 (.keep [0, 1] (.seq (.ops [.op (some 6) (.mov (.t 1)),
   .op (some 7) (.mov (.t 0)),
   .op (some 8) (.lenS (.t 7)),
   .op (some 9) (.bin .sub (.t 6) (.t 8)),
   .op (some 1) (.mov (.t 9))])
 (.keep [0, 1] (.seq (.seq (.ops [.op (some 10) (.mov (.t 1)),
   .op (some 11) (.bin .lss (.t 10) (.k (.int .i64 0)))])
  (.keep [0, 1, 11] (.cond (.t 11)
  (.seq (.ops [.op (some 4) (.mov (.k (.int .i64 (-1))))])
   (.keep [4] (.ret)))
  (.skip))))
 (.keep [0, 1] (.seq (.seq (.ops [.op (some 5) (.mov (.k (.int .i64 0)))])
  (.keep [0, 1, 5] (.block 0 (.loop (.seq (.seq (.ops [.op (some 12) (.mov (.t 5)),
     .op (some 13) (.mov (.t 0)),
     .op (some 14) (.lenS (.t 13)),
     .op (some 15) (.bin .lss (.t 12) (.t 14))])
   (.keep [0, 1, 5, 15] (.cond (.t 15)
    (.skip)
    (.exit 0))))
   (.keep [0, 1, 5] (.seq (.block 1 (.seq (.ops [.op (some 18) (.mov (.t 0)),
     .op (some 19) (.mov (.t 5)),
     .op (some 20) (.iadr 5 (.t 18) (.t 19)),
     .op (some 21) (.loadN 5 (.t 20)),
     .op (some 22) (.mov (.t 1)),
     .call (some 23) 102 [.t 21, .t 22],
     .op (some 1) (.mov (.t 23))])
    (.keep [0, 1, 5] (.seq (.ops [.op (some 24) (.mov (.t 1)),
     .op (some 25) (.bin .lss (.t 24) (.k (.int .i64 0)))])
    (.keep [0, 1, 5, 25] (.cond (.t 25)
    (.seq (.ops [.op (some 4) (.mov (.k (.int .i64 (-1))))])
     (.keep [4] (.ret)))
    (.skip)))))))
   (.keep [0, 1, 5] (.ops [.op (some 16) (.mov (.t 5)),
    .op (some 17) (.bin .add (.t 16) (.k (.int .i64 1))),
    .op (some 5) (.mov (.t 17))])))))))))
 (.keep [1] (.seq (.ops [.op (some 26) (.mov (.t 1)),
   .op (some 4) (.mov (.t 26))])
 (.keep [4] (.ret))))))))))
theorem k_c_szFrameS_fits : fitsF Tryz.prog 47 ⟨27, k_c_szFrameS, [.t 4]⟩ = true := by kernel_rfl
theorem c_szFrameS {xs : List GFrame} {left : Int} (h0 : 0 ≤ left) (hl : left ≤ 1048576) (hw : wfL GFrame.wf xs) : Con Tryz.prog noMv 47 [.d (.sl 5 (xs.map GFrame.row)), int left] [] (fun r h => r = int (szF left (szL GFrame.sz xs)) ∧ h = []) := by
 refine con_of2 k_c_szFrameS_fits rfl fun C hP hmv => ?_
 unfold k_c_szFrameS
 have hw1 := hw.1; have hw2 := hw.2
 have sp := szF_spec left (szL GFrame.sz xs)
 refine cx_seq (cx_ops ?_)
 refine ax_q (q_mov rfl) ?_
 refine ax_nil (cx_keep rfl rfl (cx_seq (cx_ops ?_)))
 refine ax_q (q_mov rfl) ?_
 refine ax_q (q_mov rfl) ?_
 refine ax_q (q_lenS_map rfl) ?_
 refine ax_q (q_sub rfl rfl (by omega)) ?_
 refine ax_q (q_mov rfl) ?_
 refine ax_nil (cx_keep rfl rfl (cx_seq (cx_seq (cx_ops ?_))))
 refine ax_q (q_mov rfl) ?_
 refine ax_q (q_ibin rfl rfl rfl) ?_
 refine ax_nil (cx_keep rfl rfl ?_)
 refine cx_cond rfl (fun h0 => ?_) (fun h0 => ?_)
 ·
  have h0 := dT h0
  refine cx_seq (cx_ops ?_)
  refine ax_q (q_mov rfl) ?_
  refine ax_nil (cx_keep rfl rfl ?_)
  refine cx_ret (ret0 rfl rfl ?_)
  exact ⟨congrArg int (by unfold szL at sp ⊢; omega), rfl⟩
 ·
  have h0 := dF h0
  refine cx_skip ?_
  refine cx_keep rfl rfl (cx_seq (cx_seq (cx_ops ?_)))
  refine ax_q (q_mov rfl) ?_
  refine ax_nil (cx_keep rfl rfl (cx_block ?_))
  refine cx_loopU (fun n k => k ≤ xs.length ∧ n = xs.length - k ∧ 0 ≤ left - xs.length - sumBy GFrame.sz (xs.take k)) (fun k : Nat => [(1, int (left - xs.length - sumBy GFrame.sz (xs.take k))), (5, int k)]) (fun _ => [])
   ⟨_, 0, ⟨Nat.zero_le _, rfl, by simp [sumBy]; omega⟩, ⟨⟨rfl, congrArg (fun n => some (int n)) (by simp only [List.take_zero, sumBy]; omega), rfl, trivial⟩, trivial⟩⟩ ?_
  rintro n k ⟨hk, rfl, hs⟩
  refine cx_seq (cx_seq (cx_ops ?_))
  refine ax_q (q_mov rfl) ?_
  refine ax_q (q_mov rfl) ?_
  refine ax_q (q_lenS_map rfl) ?_
  refine ax_q (q_ibin rfl rfl rfl) ?_
  refine ax_nil (cx_keep rfl rfl ?_)
  refine cx_cond rfl (fun h1 => ?_) (fun h1 => ?_)
  ·
   have h1 := dT h1
   have h1x : k < xs.length := by omega
   have hst := sumBy_take (f := GFrame.sz) h1x
   have hsl := sumBy_le (f := GFrame.sz) xs (k + 1)
   have hwk := hw2 _ (List.getElem_mem h1x)
   refine cx_skip ?_
   refine cx_keep rfl rfl (cx_seq (cx_block (cx_seq (cx_ops ?_))))
   refine ax_q (q_mov rfl) ?_
   refine ax_q (q_mov rfl) ?_
   refine ax_q (q_ix rfl rfl (mapAt h1x)) ?_
   first | refine ax_q (q_ldN rfl rfl rfl) ?_ | refine ax_q (q_loadN_ip rfl (Nat.le_refl _)) ?_
   refine ax_q (q_mov rfl) ?_
   have spk := szF_spec (left - xs.length - sumBy GFrame.sz (xs.take k)) (GFrame.sz xs[k])
   refine ax_call rfl (vc_pure0 (c_szFrame  ?_ ?_ ?_) hP rfl rfl ?_)
   ·
    assumption
   ·
    first | assumption | omega
   ·
    assumption
   refine ax_q (q_mov rfl) ?_
   refine ax_nil (cx_keep rfl rfl (cx_seq (cx_ops ?_)))
   refine ax_q (q_mov rfl) ?_
   refine ax_q (q_ibin rfl rfl rfl) ?_
   refine ax_nil (cx_keep rfl rfl ?_)
   refine cx_cond rfl (fun h2 => ?_) (fun h2 => ?_)
   ·
    have h2 := dT h2
    refine cx_seq (cx_ops ?_)
    refine ax_q (q_mov rfl) ?_
    refine ax_nil (cx_keep rfl rfl ?_)
    refine cx_ret (ret0 rfl rfl ?_)
    exact ⟨congrArg int (by unfold szL at sp ⊢; omega), rfl⟩
   ·
    have h2 := dF h2
    have e9 : szF (left - xs.length - sumBy GFrame.sz (xs.take k)) (GFrame.sz xs[k]) = left - xs.length - sumBy GFrame.sz (xs.take (k + 1)) := by omega
    refine cx_skip ?_
    refine cx_keep rfl rfl (cx_ops ?_)
    refine ax_q (q_mov rfl) ?_
    refine ax_q (q_add rfl rfl (by omega)) ?_
    refine ax_q (q_mov rfl) ?_
    refine ax_nil ?_
    refine ⟨_, k + 1, by omega, ⟨by omega, rfl, by omega⟩, ?_⟩
    rw [e9]
    exact by repeat constructor
  ·
   have h1 := dF h1
   refine cx_exit rfl ?_
   refine cx_keep rfl rfl (cx_seq (cx_ops ?_))
   refine ax_q (q_mov rfl) ?_
   refine ax_q (q_mov rfl) ?_
   refine ax_nil (cx_keep rfl rfl ?_)
   refine cx_ret (ret0 rfl rfl ?_)
   have hk2 : k = xs.length := by omega
   subst hk2; rw [List.take_length] at hs ⊢
   exact ⟨congrArg int (by unfold szL at sp ⊢; omega), rfl⟩


/- loop.example/g00332/laws.szStore -/
def k_c_szStore : XCode :=
 .seq (.ops [.op (some 2) (.box (.t 0)),
   .op (some 4) (.mov (.k (.int .i64 0)))])
 (.keep [1, 2] (.seq (.ops [.op (some 5) (.fadr (.t 2) 0),
   .op (some 6) (.loadN 4 (.t 5)),
   .op (some 7) (.mov (.t 1)),
   .call (some 8) 45 [.t 6, .t 7],
   .op (some 1) (.mov (.t 8))])
 (.keep [1, 2] (.seq (.seq (.ops [.op (some 9) (.mov (.t 1)),
   .op (some 10) (.bin .lss (.t 9) (.k (.int .i64 0)))])
  (.keep [1, 2, 10] (.cond (.t 10)
  (.seq (.ops [.op (some 4) (.mov (.k (.int .i64 (-1))))])
   (.keep [4] (.ret)))
  (.skip))))
 (.keep [1, 2] (.seq (.ops [.op (some 11) (.fadr (.t 2) 5),
   .op (some 12) (.load1 (.t 11)),
   .op (some 13) (.mov (.t 1)),
   .call (some 14) 46 [.t 12, .t 13],
   .op (some 1) (.mov (.t 14))])
 (.keep [1, 2] (.seq (.seq (.ops [.op (some 15) (.mov (.t 1)),
   .op (some 16) (.bin .lss (.t 15) (.k (.int .i64 0)))])
  (.keep [1, 2, 16] (.cond (.t 16)
  (.seq (.ops [.op (some 4) (.mov (.k (.int .i64 (-1))))])
   (.keep [4] (.ret)))
  (.skip))))
 (.keep [1, 2] (.seq (.ops [.op (some 17) (.fadr (.t 2) 7),
   .op (some 18) (.load1 (.t 17)),
   .op (some 19) (.mov (.t 1)),
   .call (some 20) 47 [.t 18, .t 19],
   .op (some 1) (.mov (.t 20))])
 (.keep [1] (.seq (.seq (.ops [.op (some 21) (.mov (.t 1)),
   .op (some 22) (.bin .lss (.t 21) (.k (.int .i64 0)))])
  (.keep [1, 22] (.cond (.t 22)
  (.seq (.ops [.op (some 4) (.mov (.k (.int .i64 (-1))))])
   (.keep [4] (.ret)))
  (.skip))))
 (.keep [1] (.seq (.ops [.op (some 23) (.mov (.t 1)),
   .op (some 4) (.mov (.t 23))])
 (.keep [4] (.ret))))))))))))))))
theorem k_c_szStore_fits : fitsF Tryz.prog 15 ⟨24, k_c_szStore, [.t 4]⟩ = true := by kernel_rfl
theorem c_szStore {a : GStore} {left : Int} (h0 : 0 ≤ left) (hl : left ≤ 1048576) (hw : a.wf) : Con Tryz.prog noMv 15 [a.av, int left] [] (fun r h => r = int (szF left (GStore.sz a)) ∧ h = []) := by
 refine con_of2 k_c_szStore_fits rfl fun C hP hmv => ?_
 unfold k_c_szStore
 have sp := szF_spec left (GStore.sz a)
 have e0 : GStore.sz a = GDisk.sz a.Disk + szL GLogRecord.sz a.Log + szL GFrame.sz a.Frames := rfl
 rw [e0] at sp ⊢
 obtain ⟨w0, w1, w2, w3, w4, w5⟩ := hw
 refine cx_seq (cx_ops ?_)
 refine ax_e (e_box rfl rfl (by decide) rfl rfl rfl) ?_
 refine ax_q (q_mov rfl) ?_
 refine ax_nil (cx_keep rfl rfl (cx_seq (cx_ops ?_)))
 refine ax_q (q_fadr_ptr rfl) ?_
 refine ax_q (q_ldN rfl rfl rfl) ?_
 refine ax_q (q_mov rfl) ?_
 have q0 := szF_spec left (GDisk.sz a.Disk)
 refine ax_call rfl (vc_pure0 (c_szDisk  ?_ ?_ ?_) hP rfl rfl ?_)
 ·
  assumption
 ·
  assumption
 ·
  assumption
 refine ax_q (q_mov rfl) ?_
 refine ax_nil (cx_keep rfl rfl (cx_seq (cx_seq (cx_ops ?_))))
 refine ax_q (q_mov rfl) ?_
 refine ax_q (q_ibin rfl rfl rfl) ?_
 refine ax_nil (cx_keep rfl rfl ?_)
 refine cx_cond rfl (fun h0 => ?_) (fun h0 => ?_)
 ·
  have h0 := dT h0
  refine cx_seq (cx_ops ?_)
  refine ax_q (q_mov rfl) ?_
  refine ax_nil (cx_keep rfl rfl ?_)
  refine cx_ret (ret0 rfl rfl ?_)
  exact ⟨congrArg int (by omega), rfl⟩
 ·
  have h0 := dF h0
  refine cx_skip ?_
  refine cx_keep rfl rfl (cx_seq (cx_ops ?_))
  refine ax_q (q_fadr_ptr rfl) ?_
  refine ax_q (q_load1_ptr rfl rfl rfl) ?_
  refine ax_q (q_mov rfl) ?_
  have q1 := szF_spec (szF left (GDisk.sz a.Disk)) (szL GLogRecord.sz a.Log)
  refine ax_call rfl (vc_pure0 (c_szLogRecordS  ?_ ?_ ?_) hP rfl rfl ?_)
  ·
   first | assumption | omega
  ·
   first | assumption | omega
  ·
   assumption
  refine ax_q (q_mov rfl) ?_
  refine ax_nil (cx_keep rfl rfl (cx_seq (cx_seq (cx_ops ?_))))
  refine ax_q (q_mov rfl) ?_
  refine ax_q (q_ibin rfl rfl rfl) ?_
  refine ax_nil (cx_keep rfl rfl ?_)
  refine cx_cond rfl (fun h1 => ?_) (fun h1 => ?_)
  ·
   have h1 := dT h1
   refine cx_seq (cx_ops ?_)
   refine ax_q (q_mov rfl) ?_
   refine ax_nil (cx_keep rfl rfl ?_)
   refine cx_ret (ret0 rfl rfl ?_)
   exact ⟨congrArg int (by omega), rfl⟩
  ·
   have h1 := dF h1
   refine cx_skip ?_
   refine cx_keep rfl rfl (cx_seq (cx_ops ?_))
   refine ax_q (q_fadr_ptr rfl) ?_
   refine ax_q (q_load1_ptr rfl rfl rfl) ?_
   refine ax_q (q_mov rfl) ?_
   have q2 := szF_spec (szF (szF left (GDisk.sz a.Disk)) (szL GLogRecord.sz a.Log)) (szL GFrame.sz a.Frames)
   refine ax_call rfl (vc_pure0 (c_szFrameS  ?_ ?_ ?_) hP rfl rfl ?_)
   ·
    first | assumption | omega
   ·
    first | assumption | omega
   ·
    assumption
   refine ax_q (q_mov rfl) ?_
   refine ax_nil (cx_keep rfl rfl (cx_seq (cx_seq (cx_ops ?_))))
   refine ax_q (q_mov rfl) ?_
   refine ax_q (q_ibin rfl rfl rfl) ?_
   refine ax_nil (cx_keep rfl rfl ?_)
   refine cx_cond rfl (fun h2 => ?_) (fun h2 => ?_)
   ·
    have h2 := dT h2
    refine cx_seq (cx_ops ?_)
    refine ax_q (q_mov rfl) ?_
    refine ax_nil (cx_keep rfl rfl ?_)
    refine cx_ret (ret0 rfl rfl ?_)
    exact ⟨congrArg int (by omega), rfl⟩
   ·
    have h2 := dF h2
    refine cx_skip ?_
    refine cx_keep rfl rfl (cx_seq (cx_ops ?_))
    refine ax_q (q_mov rfl) ?_
    refine ax_q (q_mov rfl) ?_
    refine ax_nil (cx_keep rfl rfl ?_)
    refine cx_ret (ret0 rfl rfl ?_)
    exact ⟨congrArg int (by omega), rfl⟩


/- loop.example/g00332/spec.l01In -/
def k_c_l01In : XCode :=
 .seq (.ops [.op (some 6) (.mov (.k (.bool false)))])
 (.keep [0, 1, 2] (.seq (.ops [.op (some 7) (.mov (.t 1)),
   .op (some 8) (.mov (.t 0)),
   .op (some 9) (.bin .leq (.t 7) (.t 8)),
   .op (some 10) (.mov (.t 9)),
   .andor 14 true 3 10 [.op (some 11) (.mov (.t 0)), .op (some 12) (.mov (.t 2)), .op (some 13) (.bin .leq (.t 11) (.t 12))] (.t 13),
   .op (some 6) (.mov (.t 14))])
 (.keep [6] (.ret))))
theorem k_c_l01In_fits : fitsF Tryz.prog 31 ⟨15, k_c_l01In, [.t 6]⟩ = true := by kernel_rfl
theorem c_l01In {n lo hi : Int} : Con Tryz.prog noMv 31 [int n, int lo, int hi] [] (fun r h => r = bool (inR n lo hi) ∧ h = []) := by
 refine con_of2 k_c_l01In_fits rfl fun C hP hmv => ?_
 unfold k_c_l01In
 refine cx_seq (cx_ops ?_)
 refine ax_q (q_mov rfl) ?_
 refine ax_nil (cx_keep rfl rfl (cx_seq (cx_ops ?_)))
 refine ax_q (q_mov rfl) ?_
 refine ax_q (q_mov rfl) ?_
 refine ax_q (q_ibin rfl rfl rfl) ?_
 refine ax_q (q_mov rfl) ?_
 apply ax_and rfl rfl
 ·
  intro g
  have g := dT g
  refine ax_q (q_mov rfl) ?_
  refine ax_q (q_mov rfl) ?_
  refine ax_q (q_ibin rfl rfl rfl) ?_
  exact ax_nil ⟨rfl, by repeat constructor⟩
 refine ax_q (q_mov rfl) ?_
 refine ax_nil (cx_keep rfl rfl ?_)
 refine cx_ret (ret0 rfl rfl ?_)
 exact ⟨rfl, rfl⟩


/- loop.example/g00332/spec.l05Frame -/
def k_c_l05Frame : XCode :=
 .seq (.ops [.op (some 2) (.box (.t 0)),
   .op (some 4) (.mov (.k (.int .i64 0)))])
 (.keep [1, 2] (.seq (.seq (.ops [.op (some 5) (.mov (.k (.int .i64 0)))])
  (.keep [1, 2, 5] (.block 0 (.loop (.seq (.seq (.ops [.op (some 6) (.mov (.t 5)),
     .op (some 7) (.fadr (.t 2) 7),
     .op (some 8) (.load1 (.t 7)),
     .op (some 9) (.lenS (.t 8)),
     .op (some 10) (.bin .lss (.t 6) (.t 9))])
   (.keep [1, 2, 5, 10] (.cond (.t 10)
    (.skip)
    (.exit 0))))
   (.keep [1, 2, 5] (.seq (.block 1 (.seq (.ops [.op (some 13) (.fadr (.t 2) 7),
     .op (some 14) (.load1 (.t 13)),
     .op (some 15) (.mov (.t 5)),
     .op (some 16) (.iadr 5 (.t 14) (.t 15)),
     .op (some 17) (.fadr (.t 16) 0),
     .op (some 18) (.load1 (.t 17)),
     .op (some 19) (.mov (.t 1)),
     .op (some 20) (.bin .eql (.t 18) (.t 19))])
    (.keep [1, 2, 5, 20] (.cond (.t 20)
    (.seq (.ops [.op (some 21) (.mov (.t 5)),
      .op (some 4) (.mov (.t 21))])
     (.keep [4] (.ret)))
    (.skip)))))
   (.keep [1, 2, 5] (.ops [.op (some 11) (.mov (.t 5)),
    .op (some 12) (.bin .add (.t 11) (.k (.int .i64 1))),
    .op (some 5) (.mov (.t 12))])))))))))
 (.keep [] (.seq (.ops [.op (some 4) (.mov (.k (.int .i64 (-1))))])
 (.keep [4] (.ret))))))
theorem k_c_l05Frame_fits : fitsF Tryz.prog 48 ⟨22, k_c_l05Frame, [.t 4]⟩ = true := by kernel_rfl
theorem c_l05Frame {s : GStore} {no : Int} (hf : s.Frames.length ≤ 1048576) : Con Tryz.prog noMv 48 [s.av, int no] [] (fun r h => r = int (frameAt s no) ∧ h = []) := by
 refine con_of2 k_c_l05Frame_fits rfl fun C hP hmv => ?_
 unfold k_c_l05Frame
 refine cx_seq (cx_ops ?_)
 refine ax_e (e_box rfl rfl (by decide) rfl rfl rfl) ?_
 refine ax_q (q_mov rfl) ?_
 refine ax_nil (cx_keep rfl rfl (cx_seq (cx_seq (cx_ops ?_))))
 refine ax_q (q_mov rfl) ?_
 refine ax_nil (cx_keep rfl rfl (cx_block ?_))
 refine cx_loopU (fun n k => k ≤ s.Frames.length ∧ n = s.Frames.length - k ∧ ∀ j, j < k → ∀ x, s.Frames[j]? = some x → decide (x.No = no) = false) (fun k : Nat => [(5, int k)]) (fun _ => [(2, .box (s.row.map .d))]) ⟨_, 0, ⟨Nat.zero_le _, rfl, fun j hj => by omega⟩, by repeat constructor⟩ ?_
 rintro n k ⟨hk, rfl, hb⟩
 refine cx_seq (cx_seq (cx_ops ?_))
 refine ax_q (q_mov rfl) ?_
 refine ax_q (q_fadr_ptr rfl) ?_
 refine ax_q (q_load1_ptr rfl rfl rfl) ?_
 refine ax_q (q_lenS_map rfl) ?_
 refine ax_q (q_ibin rfl rfl rfl) ?_
 refine ax_nil (cx_keep rfl rfl ?_)
 refine cx_cond rfl (fun h0 => ?_) (fun h0 => ?_)
 ·
  have h0 := dT h0
  have h0x : k < s.Frames.length := by omega
  refine cx_skip ?_
  refine cx_keep rfl rfl (cx_seq (cx_block (cx_seq (cx_ops ?_))))
  refine ax_q (q_fadr_ptr rfl) ?_
  refine ax_q (q_load1_ptr rfl rfl rfl) ?_
  refine ax_q (q_mov rfl) ?_
  refine ax_q (q_ix rfl rfl (mapAt h0x)) ?_
  first | refine ax_q (q_fadr_ptr rfl) ?_ | refine ax_q (q_fadr_rptr rfl) ?_ | refine ax_q (q_fadr_ip rfl) ?_
  first | refine ax_q (q_load1_ptr rfl rfl rfl) ?_ | refine ax_q (q_load1_ip rfl) ?_
  refine ax_q (q_mov rfl) ?_
  refine ax_q (q_ibin rfl rfl rfl) ?_
  refine ax_nil (cx_keep rfl rfl ?_)
  refine cx_cond rfl (fun h1 => ?_) (fun h1 => ?_)
  ·
   have h1 := dT h1
   refine cx_seq (cx_ops ?_)
   refine ax_q (q_mov rfl) ?_
   refine ax_q (q_mov rfl) ?_
   refine ax_nil (cx_keep rfl rfl ?_)
   refine cx_ret (ret0 rfl rfl ?_)
   exact ⟨by unfold frameAt; rw [idxOf_hit h0x hb (decide_eq_true h1)]; rfl, rfl⟩
  ·
   have h1 := dF h1
   refine cx_skip ?_
   refine cx_keep rfl rfl (cx_ops ?_)
   refine ax_q (q_mov rfl) ?_
   refine ax_qe (r' := int ((k + 1 : Nat) : Int)) (q_ibin rfl rfl rfl) (by rw [wi (by omega) (by omega)]; rfl) ?_
   refine ax_q (q_mov rfl) ?_
   refine ax_nil ?_
   exact ⟨_, k + 1, by omega, ⟨by omega, rfl, before_step h0x hb (decide_eq_false h1)⟩, by repeat constructor⟩
 ·
  have h0 := dF h0
  have h0x : k = s.Frames.length := by omega
  refine cx_exit rfl ?_
  refine cx_keep rfl rfl (cx_seq (cx_ops ?_))
  refine ax_q (q_mov rfl) ?_
  refine ax_nil (cx_keep rfl rfl ?_)
  refine cx_ret (ret0 rfl rfl ?_)
  exact ⟨by unfold frameAt; rw [idxOf_none (fun i hi => hb i (by omega))]; rfl, rfl⟩


/- loop.example/g00332/spec.DiskOK -/
def k_c_sDiskOK : XCode :=
 .seq (.ops [.op (some 1) (.box (.t 0)),
   .op (some 2) (.mov (.k (.bool false)))])
 (.keep [1] (.seq (.ops [.op (some 7) (.fadr (.t 1) 0),
   .op (some 8) (.load1 (.t 7)),
   .op (some 9) (.lenS (.t 8)),
   .op (some 3) (.mov (.t 9))])
 (.keep [1, 3] (.seq (.seq (.ops [.op (some 10) (.mov (.t 3)),
   .call (some 11) 31 [.t 10, .k (.int .i64 1), .k (.int .i64 100)],
   .op (some 12) (.not (.t 11)),
   .op (some 13) (.mov (.t 12)),
   .andor 18 false 3 13 [.op (some 14) (.fadr (.t 1) 1), .op (some 15) (.load1 (.t 14)), .op (some 16) (.lenS (.t 15)), .op (some 17) (.bin .gtr (.t 16) (.k (.int .i64 500)))] (.t 17),
   .op (some 19) (.mov (.t 18)),
   .andor 24 false 9 19 [.op (some 20) (.fadr (.t 1) 3), .op (some 21) (.load1 (.t 20)), .op (some 22) (.lenS (.t 21)), .op (some 23) (.bin .gtr (.t 22) (.k (.int .i64 500)))] (.t 23),
   .op (some 25) (.mov (.t 24)),
   .andor 35 false 15 25 [.op (some 26) (.fadr (.t 1) 2), .op (some 27) (.load1 (.t 26)), .op (some 28) (.not (.t 27)), .op (some 29) (.mov (.t 28)), .andor 34 true 19 29 [.op (some 30) (.fadr (.t 1) 3), .op (some 31) (.load1 (.t 30)), .op (some 32) (.lenS (.t 31)), .op (some 33) (.bin .gtr (.t 32) (.k (.int .i64 0)))] (.t 33)] (.t 34)])
  (.keep [1, 3, 35] (.cond (.t 35)
  (.seq (.ops [.op (some 2) (.mov (.k (.bool false)))])
   (.keep [2] (.ret)))
  (.skip))))
 (.keep [1, 3] (.seq (.seq (.ops [.op (some 4) (.mov (.k (.int .i64 0)))])
  (.keep [1, 3, 4] (.block 0 (.loop (.seq (.seq (.ops [.op (some 36) (.mov (.t 4)),
     .op (some 37) (.mov (.t 3)),
     .op (some 38) (.bin .lss (.t 36) (.t 37))])
   (.keep [1, 3, 4, 38] (.cond (.t 38)
    (.skip)
    (.exit 0))))
   (.keep [1, 3, 4] (.seq (.block 1 (.seq (.ops [.op (some 41) (.fadr (.t 1) 0),
     .op (some 42) (.load1 (.t 41)),
     .op (some 43) (.mov (.t 4)),
     .op (some 44) (.iadr 1 (.t 42) (.t 43)),
     .op (some 45) (.load1 (.t 44)),
     .op (some 46) (.lenT (.t 45)),
     .op (some 47) (.bin .gtr (.t 46) (.k (.int .i64 160)))])
    (.keep [1, 3, 4, 47] (.cond (.t 47)
    (.seq (.ops [.op (some 2) (.mov (.k (.bool false)))])
     (.keep [2] (.ret)))
    (.skip)))))
   (.keep [1, 3, 4] (.ops [.op (some 39) (.mov (.t 4)),
    .op (some 40) (.bin .add (.t 39) (.k (.int .i64 1))),
    .op (some 4) (.mov (.t 40))])))))))))
 (.keep [1, 3] (.seq (.seq (.ops [.op (some 5) (.mov (.k (.int .i64 0)))])
  (.keep [1, 3, 5] (.block 2 (.loop (.seq (.seq (.ops [.op (some 48) (.mov (.t 5)),
     .op (some 49) (.fadr (.t 1) 1),
     .op (some 50) (.load1 (.t 49)),
     .op (some 51) (.lenS (.t 50)),
     .op (some 52) (.bin .lss (.t 48) (.t 51))])
   (.keep [1, 3, 5, 52] (.cond (.t 52)
    (.skip)
    (.exit 2))))
   (.keep [1, 3, 5] (.seq (.block 3 (.seq (.ops [.op (some 55) (.fadr (.t 1) 1),
     .op (some 56) (.load1 (.t 55)),
     .op (some 57) (.mov (.t 5)),
     .op (some 58) (.iadr 2 (.t 56) (.t 57)),
     .op (some 59) (.loadN 2 (.t 58)),
     .op (some 6) (.alloc [.int .i64 0, .str []]),
     .op none (.store 2 (.t 6) (.t 59))])
    (.keep [1, 3, 5, 6] (.seq (.ops [.op (some 60) (.fadr (.t 6) 0),
     .op (some 61) (.load1 (.t 60)),
     .op (some 62) (.mov (.t 3)),
     .op (some 63) (.bin .sub (.t 62) (.k (.int .i64 1))),
     .call (some 64) 31 [.t 61, .k (.int .i64 0), .t 63],
     .op (some 65) (.not (.t 64)),
     .op (some 66) (.mov (.t 65)),
     .andor 71 false 6 66 [.op (some 67) (.fadr (.t 6) 1), .op (some 68) (.load1 (.t 67)), .op (some 69) (.lenT (.t 68)), .op (some 70) (.bin .gtr (.t 69) (.k (.int .i64 160)))] (.t 70)])
    (.keep [1, 3, 5, 71] (.cond (.t 71)
    (.seq (.ops [.op (some 2) (.mov (.k (.bool false)))])
     (.keep [2] (.ret)))
    (.skip)))))))
   (.keep [1, 3, 5] (.ops [.op (some 53) (.mov (.t 5)),
    .op (some 54) (.bin .add (.t 53) (.k (.int .i64 1))),
    .op (some 5) (.mov (.t 54))])))))))))
 (.keep [] (.seq (.ops [.op (some 2) (.mov (.k (.bool true)))])
 (.keep [2] (.ret))))))))))))
theorem k_c_sDiskOK_fits : fitsF Tryz.prog 71 ⟨72, k_c_sDiskOK, [.t 2]⟩ = true := by kernel_rfl
theorem c_sDiskOK {d : GDisk} (hw0 : d.Sectors.length ≤ 1048576) (hw1 : d.Cache.length ≤ 1048576) (hw2 : d.Keep.length ≤ 1048576) : Con Tryz.prog noMv 71 [d.av] [] (fun r h => r = bool (diskOK d) ∧ h = []) := by
 refine con_of2 k_c_sDiskOK_fits rfl fun C hP hmv => ?_
 unfold k_c_sDiskOK
 refine cx_seq (cx_ops ?_)
 refine ax_e (e_box rfl rfl (by decide) rfl rfl rfl) ?_
 refine ax_q (q_mov rfl) ?_
 refine ax_nil (cx_keep rfl rfl (cx_seq (cx_ops ?_)))
 refine ax_q (q_fadr_ptr rfl) ?_
 refine ax_q (q_load1_ptr rfl rfl rfl) ?_
 refine ax_q (q_lenS_map rfl) ?_
 refine ax_q (q_mov rfl) ?_
 refine ax_nil (cx_keep rfl rfl (cx_seq (cx_seq (cx_ops ?_))))
 refine ax_q (q_mov rfl) ?_
 refine ax_call rfl (vc_pure0 (c_l01In  ) hP rfl rfl ?_)
 refine ax_q (q_not rfl) ?_
 refine ax_q (q_mov rfl) ?_
 apply ax_or rfl rfl
 ·
  intro g
  have g := bF g
  refine ax_q (q_fadr_ptr rfl) ?_
  refine ax_q (q_load1_ptr rfl rfl rfl) ?_
  refine ax_q (q_lenS_map rfl) ?_
  refine ax_q (q_ibin rfl rfl rfl) ?_
  exact ax_nil ⟨rfl, by repeat constructor⟩
 refine ax_q (q_mov rfl) ?_
 apply ax_or rfl rfl
 ·
  intro g
  have g := (fun h => And.intro (bF (or_F h).1) (dF (or_F h).2)) g
  refine ax_q (q_fadr_ptr rfl) ?_
  refine ax_q (q_load1_ptr rfl rfl rfl) ?_
  refine ax_q (q_lenS_map rfl) ?_
  refine ax_q (q_ibin rfl rfl rfl) ?_
  exact ax_nil ⟨rfl, by repeat constructor⟩
 refine ax_q (q_mov rfl) ?_
 apply ax_or rfl rfl
 ·
  intro g
  have g := (fun h => And.intro ((fun h => And.intro (bF (or_F h).1) (dF (or_F h).2)) (or_F h).1) (dF (or_F h).2)) g
  refine ax_q (q_fadr_ptr rfl) ?_
  refine ax_q (q_load1_ptr rfl rfl rfl) ?_
  refine ax_q (q_not rfl) ?_
  refine ax_q (q_mov rfl) ?_
  apply ax_and rfl rfl
  ·
   intro g
   have g := bT g
   refine ax_q (q_fadr_ptr rfl) ?_
   refine ax_q (q_load1_ptr rfl rfl rfl) ?_
   refine ax_q (q_lenS_map rfl) ?_
   refine ax_q (q_ibin rfl rfl rfl) ?_
   exact ax_nil ⟨rfl, by repeat constructor⟩
  exact ax_nil ⟨rfl, by repeat constructor⟩
 refine ax_nil (cx_keep rfl rfl ?_)
 refine cx_cond rfl (fun h0 => ?_) (fun h0 => ?_)
 ·
  have h0 : badHead d = true := h0
  refine cx_seq (cx_ops ?_)
  refine ax_q (q_mov rfl) ?_
  refine ax_nil (cx_keep rfl rfl ?_)
  refine cx_ret (ret0 rfl rfl ?_)
  exact ⟨by unfold diskOK; rw [h0]; rfl, rfl⟩
 ·
  have h0 : badHead d = false := h0
  refine cx_skip ?_
  refine cx_keep rfl rfl (cx_seq (cx_seq (cx_ops ?_)))
  refine ax_q (q_mov rfl) ?_
  refine ax_nil (cx_keep rfl rfl (cx_block ?_))
  refine cx_loopU (fun n k => k ≤ d.Sectors.length ∧ n = d.Sectors.length - k ∧ ∀ j, j < k → ∀ x, d.Sectors[j]? = some x → long160 x = false) (fun k : Nat => [(4, int k)]) (fun _ => [(1, .box [.d (.sl 1 (d.Sectors.map strRow)), .d (.sl 2 (d.Cache.map GPending.row)), .d (.bool d.Armed), .d (.sl 1 (d.Keep.map intRow))])]) ⟨_, 0, ⟨Nat.zero_le _, rfl, fun j hj => by omega⟩, by repeat constructor⟩ ?_
  rintro n k ⟨hk, rfl, hb⟩
  refine cx_seq (cx_seq (cx_ops ?_))
  refine ax_q (q_mov rfl) ?_
  refine ax_q (q_mov rfl) ?_
  refine ax_q (q_ibin rfl rfl rfl) ?_
  refine ax_nil (cx_keep rfl rfl ?_)
  refine cx_cond rfl (fun h1 => ?_) (fun h1 => ?_)
  ·
   have h1 := dT h1
   have h1x : k < d.Sectors.length := by omega
   refine cx_skip ?_
   refine cx_keep rfl rfl (cx_seq (cx_block (cx_seq (cx_ops ?_))))
   refine ax_q (q_fadr_ptr rfl) ?_
   refine ax_q (q_load1_ptr rfl rfl rfl) ?_
   refine ax_q (q_mov rfl) ?_
   refine ax_q (q_ix rfl rfl (mapAt h1x)) ?_
   first | refine ax_q (q_load1_ptr rfl rfl rfl) ?_ | refine ax_q (q_load1_ip rfl) ?_
   refine ax_q (q_lenT rfl) ?_
   refine ax_q (q_ibin rfl rfl rfl) ?_
   refine ax_nil (cx_keep rfl rfl ?_)
   refine cx_cond rfl (fun h2 => ?_) (fun h2 => ?_)
   ·
    have h2 : long160 d.Sectors[k] = true := h2
    refine cx_seq (cx_ops ?_)
    refine ax_q (q_mov rfl) ?_
    refine ax_nil (cx_keep rfl rfl ?_)
    refine cx_ret (ret0 rfl rfl ?_)
    exact ⟨by unfold diskOK; rw [h0, any_hit h1x h2]; rfl, rfl⟩
   ·
    have h2 : long160 d.Sectors[k] = false := h2
    refine cx_skip ?_
    refine cx_keep rfl rfl (cx_ops ?_)
    refine ax_q (q_mov rfl) ?_
    refine ax_qe (r' := int ((k + 1 : Nat) : Int)) (q_ibin rfl rfl rfl) (by rw [wi (by omega) (by omega)]; rfl) ?_
    refine ax_q (q_mov rfl) ?_
    refine ax_nil ?_
    exact ⟨_, k + 1, by omega, ⟨by omega, rfl, before_step h1x hb h2⟩, by repeat constructor⟩
  ·
   have h1 := dF h1
   have h1x : k = d.Sectors.length := by omega
   subst h1x
   refine cx_exit rfl ?_
   refine cx_keep rfl rfl (cx_seq (cx_seq (cx_ops ?_)))
   refine ax_q (q_mov rfl) ?_
   refine ax_nil (cx_keep rfl rfl (cx_block ?_))
   refine cx_loopU (fun n k => k ≤ d.Cache.length ∧ n = d.Cache.length - k ∧ ∀ j, j < k → ∀ x, d.Cache[j]? = some x → badAt d.Sectors.length x = false) (fun k : Nat => [(5, int k)]) (fun _ => [(1, .box [.d (.sl 1 (d.Sectors.map strRow)), .d (.sl 2 (d.Cache.map GPending.row)), .d (.bool d.Armed), .d (.sl 1 (d.Keep.map intRow))])]) ⟨_, 0, ⟨Nat.zero_le _, rfl, fun j hj => by omega⟩, by repeat constructor⟩ ?_
   rintro n k ⟨hk, rfl, hc⟩
   refine cx_seq (cx_seq (cx_ops ?_))
   refine ax_q (q_mov rfl) ?_
   refine ax_q (q_fadr_ptr rfl) ?_
   refine ax_q (q_load1_ptr rfl rfl rfl) ?_
   refine ax_q (q_lenS_map rfl) ?_
   refine ax_q (q_ibin rfl rfl rfl) ?_
   refine ax_nil (cx_keep rfl rfl ?_)
   refine cx_cond rfl (fun h3 => ?_) (fun h3 => ?_)
   ·
    have h3 := dT h3
    have h3x : k < d.Cache.length := by omega
    refine cx_skip ?_
    refine cx_keep rfl rfl (cx_seq (cx_block (cx_seq (cx_ops ?_))))
    refine ax_q (q_fadr_ptr rfl) ?_
    refine ax_q (q_load1_ptr rfl rfl rfl) ?_
    refine ax_q (q_mov rfl) ?_
    refine ax_q (q_ix rfl rfl (mapAt h3x)) ?_
    first | refine ax_q (q_ldN rfl rfl rfl) ?_ | refine ax_q (q_loadN_ip rfl (Nat.le_refl _)) ?_
    refine ax_e (e_alloc (by decide) rfl rfl) ?_
    refine ax_e (e_st rfl rfl rfl rfl rfl rfl rfl) ?_
    refine ax_nil (cx_keep rfl rfl (cx_seq (cx_ops ?_)))
    refine ax_q (q_fadr_ptr rfl) ?_
    refine ax_q (q_load1_ptr rfl rfl rfl) ?_
    refine ax_q (q_mov rfl) ?_
    refine ax_q (q_sub rfl rfl (by omega)) ?_
    refine ax_call rfl (vc_pure0 (c_l01In  ) hP rfl rfl ?_)
    refine ax_q (q_not rfl) ?_
    refine ax_q (q_mov rfl) ?_
    apply ax_or rfl rfl
    ·
     intro g
     have g := bF g
     refine ax_q (q_fadr_ptr rfl) ?_
     refine ax_q (q_load1_ptr rfl rfl rfl) ?_
     refine ax_q (q_lenT rfl) ?_
     refine ax_q (q_ibin rfl rfl rfl) ?_
     exact ax_nil ⟨rfl, by repeat constructor⟩
    refine ax_nil (cx_keep rfl rfl ?_)
    refine cx_cond rfl (fun h4 => ?_) (fun h4 => ?_)
    ·
     have h4 : badAt d.Sectors.length d.Cache[k] = true := h4
     refine cx_seq (cx_ops ?_)
     refine ax_q (q_mov rfl) ?_
     refine ax_nil (cx_keep rfl rfl ?_)
     refine cx_ret (ret0 rfl rfl ?_)
     exact ⟨by unfold diskOK; rw [h0, any_hit h3x h4, Bool.not_true, Bool.and_false, Bool.and_false]; rfl, rfl⟩
    ·
     have h4 : badAt d.Sectors.length d.Cache[k] = false := h4
     refine cx_skip ?_
     refine cx_keep rfl rfl (cx_ops ?_)
     refine ax_q (q_mov rfl) ?_
     refine ax_qe (r' := int ((k + 1 : Nat) : Int)) (q_ibin rfl rfl rfl) (by rw [wi (by omega) (by omega)]; rfl) ?_
     refine ax_q (q_mov rfl) ?_
     refine ax_nil ?_
     exact ⟨_, k + 1, by omega, ⟨by omega, rfl, before_step h3x hc h4⟩, by repeat constructor⟩
   ·
    have h3 := dF h3
    have h3x : k = d.Cache.length := by omega
    subst h3x
    refine cx_exit rfl ?_
    refine cx_keep rfl rfl (cx_seq (cx_ops ?_))
    refine ax_q (q_mov rfl) ?_
    refine ax_nil (cx_keep rfl rfl ?_)
    refine cx_ret (ret0 rfl rfl ?_)
    exact ⟨by unfold diskOK; rw [h0, any_all (fun i hi => hb i (by omega)), any_all (fun i hi => hc i (by omega))]; rfl, rfl⟩


/- loop.example/g00332/spec.l04ReadCheck -/
def k_c_l04ReadCheck : XCode :=
 .seq (.ops [.op (some 2) (.mov (.k (.nils 2))),
   .op (some 3) (.mov (.k (.nils 2))),
   .op (some 4) (.mov (.k (.bool false)))])
 (.keep [0] (.seq (.ops [.op (some 10) (.bslice 2 []),
   .op (some 11) (.bslice 2 []),
   .op (some 12) (.bslice 1 [.t 10, .t 11]),
   .op (some 5) (.mov (.t 12))])
 (.keep [0, 5] (.seq (.ops [.op (some 6) (.mov (.k (.int .i64 0)))])
 (.keep [0, 5, 6] (.seq (.seq (.ops [.op (some 7) (.mov (.k (.int .i64 0)))])
  (.keep [0, 5, 6, 7] (.block 0 (.loop (.seq (.seq (.ops [.op (some 13) (.mov (.t 7)),
     .op (some 14) (.bin .lss (.t 13) (.k (.int .i64 2)))])
   (.keep [0, 5, 6, 7, 14] (.cond (.t 14)
    (.skip)
    (.exit 0))))
   (.keep [0, 5, 6, 7] (.seq (.block 1 (.seq (.seq (.ops [.op (some 17) (.mov (.t 6)),
      .op (some 18) (.mov (.t 0)),
      .op (some 19) (.lenT (.t 18)),
      .op (some 20) (.bin .geq (.t 17) (.t 19))])
    (.keep [0, 5, 6, 7, 20] (.cond (.t 20)
     (.seq (.draw [.op (some 21) (.mov (.t 5)),
       .op (some 22) (.iadr 1 (.t 21) (.k (.int .i64 0))),
       .op (some 23) (.load1 (.t 22)),
       .op (some 24) (.mov (.t 5)),
       .op (some 25) (.iadr 1 (.t 24) (.k (.int .i64 1))),
       .op (some 26) (.load1 (.t 25)),
       .op (some 2) (.mov (.t 23)),
       .op (some 3) (.mov (.t 26)),
       .op (some 4) (.mov (.k (.bool false)))])
     (.keep [2, 3, 4] (.ret)))
     (.skip))))
    (.keep [0, 5, 6, 7] (.seq (.ops [.op (some 27) (.mov (.t 0)),
     .op (some 28) (.mov (.t 6)),
     .op (some 29) (.idxS (.t 27) (.t 28)),
     .op (some 30) (.conv .i64 (.t 29)),
     .op (some 8) (.mov (.t 30))])
    (.keep [0, 5, 6, 7, 8] (.seq (.ops [.op (some 31) (.mov (.t 6)),
     .op (some 32) (.bin .add (.t 31) (.k (.int .i64 1))),
     .op (some 6) (.mov (.t 32))])
    (.keep [0, 5, 6, 7, 8] (.seq (.seq (.ops [.op (some 33) (.mov (.t 6)),
      .op (some 34) (.mov (.t 8)),
      .op (some 35) (.bin .mul (.k (.int .i64 2)) (.t 34)),
      .op (some 36) (.bin .add (.t 33) (.t 35)),
      .op (some 37) (.mov (.t 0)),
      .op (some 38) (.lenT (.t 37)),
      .op (some 39) (.bin .gtr (.t 36) (.t 38))])
    (.keep [0, 5, 6, 7, 8, 39] (.cond (.t 39)
     (.seq (.draw [.op (some 40) (.mov (.t 5)),
       .op (some 41) (.iadr 1 (.t 40) (.k (.int .i64 0))),
       .op (some 42) (.load1 (.t 41)),
       .op (some 43) (.mov (.t 5)),
       .op (some 44) (.iadr 1 (.t 43) (.k (.int .i64 1))),
       .op (some 45) (.load1 (.t 44)),
       .op (some 2) (.mov (.t 42)),
       .op (some 3) (.mov (.t 45)),
       .op (some 4) (.mov (.k (.bool false)))])
     (.keep [2, 3, 4] (.ret)))
     (.skip))))
    (.keep [0, 5, 6, 7, 8] (.seq (.ops [.op (some 9) (.mov (.k (.int .i64 0)))])
    (.keep [0, 5, 6, 7, 8, 9] (.block 2 (.loop (.seq (.seq (.ops [.op (some 46) (.mov (.t 9)),
       .op (some 47) (.mov (.t 8)),
       .op (some 48) (.bin .lss (.t 46) (.t 47))])
     (.keep [0, 5, 6, 7, 8, 9, 48] (.cond (.t 48)
      (.skip)
      (.exit 2))))
     (.keep [0, 5, 6, 7, 8, 9] (.seq (.block 3 (.seq (.drawE [[], [], [], [], [2, 3], [2, 3, 4], [], [], [6, 7], [6, 7, 8], [], [], [11], [10, 11, 12], [10, 11, 12, 13], [6, 7, 8, 9, 10, 11, 12, 13, 14], [6, 7, 8, 9, 10, 11, 12, 13, 14, 15], [2, 3, 4, 5, 6, 7, 8, 9, 10, 11, 12, 13, 14, 15, 16], [0, 1, 2, 3, 4, 5, 6, 7, 8, 9, 10, 11, 12, 13, 14, 15, 16, 17], [0, 1, 2, 3, 4, 5, 6, 7, 8, 9, 10, 11, 12, 13, 14, 15, 16, 17, 18]] [.op (some 51) (.mov (.t 5)),
       .op (some 52) (.mov (.t 7)),
       .op (some 53) (.mov (.t 5)),
       .op (some 54) (.mov (.t 7)),
       .op (some 55) (.iadr 1 (.t 53) (.t 54)),
       .op (some 56) (.load1 (.t 55)),
       .op (some 57) (.mov (.t 0)),
       .op (some 58) (.mov (.t 6)),
       .op (some 59) (.idxS (.t 57) (.t 58)),
       .op (some 60) (.conv .i64 (.t 59)),
       .op (some 61) (.mov (.t 0)),
       .op (some 62) (.mov (.t 6)),
       .op (some 63) (.bin .add (.t 62) (.k (.int .i64 1))),
       .op (some 64) (.idxS (.t 61) (.t 63)),
       .op (some 65) (.conv .i64 (.t 64)),
       .op (some 66) (.build [.int .i64 0, .int .i64 0] [(0, 1, .t 60), (1, 1, .t 65)]),
       .op (some 67) (.bslice 2 [.t 66]),
       .op (some 68) (.app 2 16 [.int .i64 0, .int .i64 0] (.t 56) (.t 67))]
       [.op (some 69) (.iadr 1 (.t 51) (.t 52)),
       .op none (.store 1 (.t 69) (.t 68))])
      (.keep [0, 5, 6, 7, 8, 9] (.ops [.op (some 70) (.mov (.t 6)),
       .op (some 71) (.bin .add (.t 70) (.k (.int .i64 2))),
       .op (some 6) (.mov (.t 71))]))))
     (.keep [0, 5, 6, 7, 8, 9] (.ops [.op (some 49) (.mov (.t 9)),
      .op (some 50) (.bin .add (.t 49) (.k (.int .i64 1))),
      .op (some 9) (.mov (.t 50))]))))))))))))))))))
   (.keep [0, 5, 6, 7] (.ops [.op (some 15) (.mov (.t 7)),
    .op (some 16) (.bin .add (.t 15) (.k (.int .i64 1))),
    .op (some 7) (.mov (.t 16))])))))))))
 (.keep [0, 5, 6] (.seq (.draw [.op (some 72) (.mov (.t 5)),
   .op (some 73) (.iadr 1 (.t 72) (.k (.int .i64 0))),
   .op (some 74) (.load1 (.t 73)),
   .op (some 75) (.mov (.t 5)),
   .op (some 76) (.iadr 1 (.t 75) (.k (.int .i64 1))),
   .op (some 77) (.load1 (.t 76)),
   .op (some 78) (.mov (.t 6)),
   .op (some 79) (.mov (.t 0)),
   .op (some 80) (.lenT (.t 79)),
   .op (some 81) (.bin .eql (.t 78) (.t 80)),
   .op (some 2) (.mov (.t 74)),
   .op (some 3) (.mov (.t 77)),
   .op (some 4) (.mov (.t 81))])
 (.keep [2, 3, 4] (.ret))))))))))
theorem k_c_l04ReadCheck_fits : fitsF Tryz.prog 165 ⟨82, k_c_l04ReadCheck, [.t 2, .t 3, .t 4]⟩ = true := by kernel_rfl
set_option maxHeartbeats 4000000 in
theorem c_l04ReadCheck {t : Str} (hl : t.length ≤ 1048576) : Con Tryz.prog noMv 165 [str t] [] (fun r h => r = .tup [.d (.sl 2 ((readX t).1.map prRow)), .d (.sl 2 ((readX t).2.1.map prRow)), bool (readX t).2.2] ∧ h = []) := by
 refine con_of2 k_c_l04ReadCheck_fits rfl fun C hP hmv => ?_
 unfold k_c_l04ReadCheck
 refine cx_seq (cx_ops ?_)
 refine ax_q (q_mov rfl) ?_
 refine ax_q (q_mov rfl) ?_
 refine ax_q (q_mov rfl) ?_
 refine ax_nil (cx_keep rfl rfl (cx_seq (cx_ops ?_)))
 refine ax_e (e_bslice rfl (by decide) rfl rfl) ?_
 refine ax_e (e_bslice rfl (by decide) rfl rfl) ?_
 refine ax_e (e_bsliceB rfl rfl rfl (by decide) rfl rfl) ?_
 refine ax_q (q_mov rfl) ?_
 refine ax_nil (cx_keep rfl rfl (cx_seq (cx_ops ?_)))
 refine ax_q (q_mov rfl) ?_
 refine ax_nil (cx_keep rfl rfl (cx_seq (cx_seq (cx_ops ?_))))
 refine ax_q (q_mov rfl) ?_
 refine ax_nil (cx_keep rfl rfl (cx_block ?_))
 refine cx_loopU (fun m (s : Nat × List Pr × List Pr × Nat) => m = 2 - s.1 ∧ CkInv t s.1 s.2.1 s.2.2.1 s.2.2.2) (fun s => [(6, int (s.2.2.2 : Nat)), (7, int (s.1 : Nat))]) (fun s => [(12, .box [.osl 10 2 0 s.2.1.length, .osl 11 2 0 s.2.2.1.length]), (10, .rows 2 (s.2.1.map prRow)), (11, .rows 2 (s.2.2.1.map prRow))]) ⟨_, (0, [], [], 0), ⟨rfl, ck0⟩, by repeat constructor⟩ ?_
 rintro m ⟨k, l1, l2, p⟩ ⟨rfl, hk⟩
 simp only at hk ⊢
 obtain ⟨hp, hl1, hl2, hk⟩ := hk
 refine cx_seq (cx_seq (cx_ops ?_))
 refine ax_q (q_mov rfl) ?_
 refine ax_q (q_ibin rfl rfl rfl) ?_
 refine ax_nil (cx_keep rfl rfl ?_)
 refine cx_cond rfl (fun h0 => ?_) (fun h0 => ?_)
 ·
  have h0 := dT h0
  have hk : (k = 0 ∧ l1 = [] ∧ l2 = [] ∧ p = 0) ∨ (k = 1 ∧ l2 = [] ∧ readX t = stage2 l1 (t.drop p)) := by
   rcases hk with h | h | ⟨h, _⟩
   ·
    exact .inl h
   ·
    exact .inr h
   ·
    omega
  rcases hk with ⟨rfl, rfl, rfl, rfl⟩ | ⟨rfl, rfl, hkk⟩
  ·
   skip
   refine cx_skip ?_
   refine cx_keep rfl rfl (cx_seq (cx_block (cx_seq (cx_seq (cx_ops ?_)))))
   refine ax_q (q_mov rfl) ?_
   refine ax_q (q_mov rfl) ?_
   refine ax_q (q_lenT rfl) ?_
   refine ax_q (q_ibin rfl rfl rfl) ?_
   refine ax_nil (cx_keep rfl rfl ?_)
   refine cx_cond rfl (fun h1 => ?_) (fun h1 => ?_)
   ·
    have h1 := dT h1
    refine cx_seq (cx_draw ?_)
    refine ax_q (q_mov rfl) ?_
    refine ax_q (q_ixB rfl rfl (by decide)) ?_
    refine ax_q (q_load1_ptr rfl rfl rfl) ?_
    refine ax_q (q_mov rfl) ?_
    refine ax_q (q_ixB rfl rfl (by decide)) ?_
    refine ax_q (q_load1_ptr rfl rfl rfl) ?_
    refine ax_q (q_mov rfl) ?_
    refine ax_q (q_mov rfl) ?_
    refine ax_q (q_mov rfl) ?_
    refine ax_nil (cx_keep rfl rfl ?_)
    refine cx_wk (wk_frz 2 10 rfl rfl (.whole (by simp)) rfl) ?_
    refine cx_wk (wk_frz 3 11 rfl rfl (.whole (by simp)) rfl) ?_
    refine cx_ret (ret0 rfl rfl ?_)
    rw [ck_a0 (by omega)]; exact ⟨rfl, rfl⟩
   ·
    have h1 := dF h1
    have h1x : 0 < t.length := by omega
    have hb := t[0].toNat_lt
    refine cx_skip ?_
    refine cx_keep rfl rfl (cx_seq (cx_ops ?_))
    refine ax_q (q_mov rfl) ?_
    refine ax_q (q_mov rfl) ?_
    refine ax_q (q_idxN rfl rfl (by first | assumption | omega)) ?_
    refine ax_q (q_convB rfl) ?_
    refine ax_q (q_mov rfl) ?_
    refine ax_nil (cx_keep rfl rfl (cx_seq (cx_ops ?_)))
    refine ax_q (q_mov rfl) ?_
    refine ax_q (q_add rfl rfl (by omega)) ?_
    refine ax_q (q_mov rfl) ?_
    refine ax_nil (cx_keep rfl rfl (cx_seq (cx_seq (cx_ops ?_))))
    refine ax_q (q_mov rfl) ?_
    refine ax_q (q_mov rfl) ?_
    refine ax_q (q_mul rfl rfl (by omega)) ?_
    refine ax_q (q_add rfl rfl (by omega)) ?_
    refine ax_q (q_mov rfl) ?_
    refine ax_q (q_lenT rfl) ?_
    refine ax_q (q_ibin rfl rfl rfl) ?_
    refine ax_nil (cx_keep rfl rfl ?_)
    refine cx_cond rfl (fun h2 => ?_) (fun h2 => ?_)
    ·
     have h2 := dT h2
     refine cx_seq (cx_draw ?_)
     refine ax_q (q_mov rfl) ?_
     refine ax_q (q_ixB rfl rfl (by decide)) ?_
     refine ax_q (q_load1_ptr rfl rfl rfl) ?_
     refine ax_q (q_mov rfl) ?_
     refine ax_q (q_ixB rfl rfl (by decide)) ?_
     refine ax_q (q_load1_ptr rfl rfl rfl) ?_
     refine ax_q (q_mov rfl) ?_
     refine ax_q (q_mov rfl) ?_
     refine ax_q (q_mov rfl) ?_
     refine ax_nil (cx_keep rfl rfl ?_)
     refine cx_wk (wk_frz 2 10 rfl rfl (.whole (by simp)) rfl) ?_
     refine cx_wk (wk_frz 3 11 rfl rfl (.whole (by simp)) rfl) ?_
     refine cx_ret (ret0 rfl rfl ?_)
     rw [ck_a1 (h := h1x) (by omega)]; exact ⟨rfl, rfl⟩
    ·
     have h2 := dF h2
     refine cx_skip ?_
     refine cx_keep rfl rfl (cx_seq (cx_ops ?_))
     refine ax_q (q_mov rfl) ?_
     refine ax_nil (cx_keep rfl rfl (cx_block ?_))
     obtain ⟨l, q1, q2, q3⟩ := @ck_list t (0 + 1) t[0].toNat (by omega)
     refine cx_loopU (fun m i => i ≤ t[0].toNat ∧ m = t[0].toNat - i) (fun i : Nat => [(6, int (((0 + 1 + 2 * i : Nat)) : Int)), (9, int (i : Nat))]) (fun i => [(12, .box [.osl 10 2 0 (l.take i).length, .osl 11 2 0 0]), (10, .rows 2 ((l.take i).map prRow)), (11, .rows 2 [])]) ⟨_, 0, ⟨Nat.zero_le _, rfl⟩, by repeat constructor⟩ ?_
     rintro m i ⟨hi, rfl⟩
     refine cx_seq (cx_seq (cx_ops ?_))
     refine ax_q (q_mov rfl) ?_
     refine ax_q (q_mov rfl) ?_
     refine ax_q (q_ibin rfl rfl rfl) ?_
     refine ax_nil (cx_keep rfl rfl ?_)
     refine cx_cond rfl (fun h3 => ?_) (fun h3 => ?_)
     ·
      have h3 := dT h3
      have e3 := q3 i (by omega) (by omega)
      refine cx_skip ?_
      refine cx_keep rfl rfl (cx_seq (cx_block (cx_seq ?_)))
      refine cx_drawL 17 68 (Nat.beq 10) (nrA 10) [] ([(10, .rows 2 ((l.take (i + 1)).map prRow))]) [[5], [7], [5], [7], [53, 54], [55], [0], [6], [57, 58], [59], [0], [6], [62], [61, 63], [64], [60, 65], [66], [56, 67]] [[10, 12], [10, 12], [], [], [], [], [], [], [], [], [], [], [], [], [], [], [], [10, 12]] rfl ?_
      first | refine ⟨_, .inr ⟨rfl, _, rfl, .inr ⟨rfl, rfl, .inr rfl, rfl, rfl⟩, loc_q (q_mov rfl)⟩, ?_⟩
      first | refine ⟨_, .inr ⟨rfl, _, rfl, .inr ⟨rfl, rfl, .inr rfl, rfl, rfl⟩, loc_q (q_mov rfl)⟩, ?_⟩
      first | refine ⟨_, .inr ⟨rfl, _, rfl, .inl rfl, loc_q (q_mov rfl)⟩, ?_⟩
      first | refine ⟨_, .inr ⟨rfl, _, rfl, .inl rfl, loc_q (q_mov rfl)⟩, ?_⟩
      first | refine ⟨_, .inr ⟨rfl, _, rfl, .inl rfl, loc_q (q_ixB rfl rfl (by decide))⟩, ?_⟩
      first | refine ⟨_, .inr ⟨rfl, _, rfl, .inl rfl, loc_q (q_load1_ptr rfl rfl rfl)⟩, ?_⟩
      first | refine ⟨_, .inr ⟨rfl, _, rfl, .inl rfl, loc_q (q_mov rfl)⟩, ?_⟩
      first | refine ⟨_, .inr ⟨rfl, _, rfl, .inl rfl, loc_q (q_mov rfl)⟩, ?_⟩
      first | refine ⟨_, .inr ⟨rfl, _, rfl, .inl rfl, loc_q (q_idxN rfl rfl (by first | assumption | omega))⟩, ?_⟩
      refine ⟨_, .inr ⟨rfl, _, rfl, .inl rfl, loc_q (q_convB rfl)⟩, ?_⟩
      first | refine ⟨_, .inr ⟨rfl, _, rfl, .inl rfl, loc_q (q_mov rfl)⟩, ?_⟩
      first | refine ⟨_, .inr ⟨rfl, _, rfl, .inl rfl, loc_q (q_mov rfl)⟩, ?_⟩
      first | refine ⟨_, .inr ⟨rfl, _, rfl, .inl rfl, loc_qe (r' := int ((0 + 1 + 2 * i + 1 : Nat) : Int)) (q_ibin rfl rfl rfl) (by rw [wi (by omega) (by omega)]; rfl)⟩, ?_⟩
      first | refine ⟨_, .inr ⟨rfl, _, rfl, .inl rfl, loc_q (q_idxN rfl rfl (by first | assumption | omega))⟩, ?_⟩
      refine ⟨_, .inr ⟨rfl, _, rfl, .inl rfl, loc_q (q_convB rfl)⟩, ?_⟩
      first | refine ⟨_, .inr ⟨rfl, _, rfl, .inl rfl, loc_q (q_build rfl)⟩, ?_⟩
      first | refine ⟨_, .inr ⟨rfl, _, rfl, .inl rfl, loc_bslice rfl⟩, ?_⟩
      refine ⟨⟨68, _, []⟩, .inl ⟨rfl, rfl, rfl, locl_app (n' := (l.take (i + 1)).length) (rs' := (l.take (i + 1)).map prRow) rfl rfl (by simp) rfl (fun _ _ h => src_osl (h _ _ rfl) (by simp)) (.inl (by decide)) (hbnd (by simp only [List.length_take]; omega) (by simp) (by decide)) (by simp only [List.drop_zero, Nat.min_self, List.length_take, List.length_cons, List.length_nil, Nat.min_eq_left (show i ≤ l.length by omega), Nat.min_eq_left (show i + 1 ≤ l.length by omega)]) ((congrArg (· ++ _) (List.take_of_length_le (by simp))).trans (take_pr e3))⟩, ?_⟩
      refine ⟨rfl, ?_⟩
      refine ax_q (q_ixB rfl rfl (by decide)) ?_
      refine ax_e (e_st rfl rfl rfl rfl rfl rfl rfl) ?_
      refine ax_nil (cx_keep rfl rfl (cx_ops ?_))
      refine ax_q (q_mov rfl) ?_
      refine ax_q (q_add rfl rfl (by omega)) ?_
      refine ax_q (q_mov rfl) ?_
      refine ax_nil (cx_keep rfl rfl (cx_ops ?_))
      refine ax_q (q_mov rfl) ?_
      refine ax_q (q_add rfl rfl (by omega)) ?_
      refine ax_q (q_mov rfl) ?_
      refine ax_nil ?_
      exact ⟨_, i + 1, by omega, ⟨by omega, rfl⟩, by repeat constructor⟩
     ·
      have h3 := dF h3
      obtain rfl : i = t[0].toNat := by omega
      have e4 : l.take t[0].toNat = l := List.take_of_length_le (by omega)
      rw [e4]
      refine cx_exit rfl ?_
      refine cx_keep rfl rfl (cx_ops ?_)
      refine ax_q (q_mov rfl) ?_
      refine ax_q (q_add rfl rfl (by omega)) ?_
      refine ax_q (q_mov rfl) ?_
      refine ax_nil ?_
      exact ⟨_, (1, l, [], 0 + 1 + 2 * t[0].toNat), by omega, ⟨rfl, ck_a2 q1 q2 (by omega)⟩, by repeat constructor⟩
  ·
   skip
   refine cx_skip ?_
   refine cx_keep rfl rfl (cx_seq (cx_block (cx_seq (cx_seq (cx_ops ?_)))))
   refine ax_q (q_mov rfl) ?_
   refine ax_q (q_mov rfl) ?_
   refine ax_q (q_lenT rfl) ?_
   refine ax_q (q_ibin rfl rfl rfl) ?_
   refine ax_nil (cx_keep rfl rfl ?_)
   refine cx_cond rfl (fun h1 => ?_) (fun h1 => ?_)
   ·
    have h1 := dT h1
    refine cx_seq (cx_draw ?_)
    refine ax_q (q_mov rfl) ?_
    refine ax_q (q_ixB rfl rfl (by decide)) ?_
    refine ax_q (q_load1_ptr rfl rfl rfl) ?_
    refine ax_q (q_mov rfl) ?_
    refine ax_q (q_ixB rfl rfl (by decide)) ?_
    refine ax_q (q_load1_ptr rfl rfl rfl) ?_
    refine ax_q (q_mov rfl) ?_
    refine ax_q (q_mov rfl) ?_
    refine ax_q (q_mov rfl) ?_
    refine ax_nil (cx_keep rfl rfl ?_)
    refine cx_wk (wk_frz 2 10 rfl rfl (.whole (by simp)) rfl) ?_
    refine cx_wk (wk_frz 3 11 rfl rfl (.whole (by simp)) rfl) ?_
    refine cx_ret (ret0 rfl rfl ?_)
    rw [ck_b0 hkk (by omega)]; exact ⟨rfl, rfl⟩
   ·
    have h1 := dF h1
    have h1x : p < t.length := by omega
    have hb := t[p].toNat_lt
    refine cx_skip ?_
    refine cx_keep rfl rfl (cx_seq (cx_ops ?_))
    refine ax_q (q_mov rfl) ?_
    refine ax_q (q_mov rfl) ?_
    refine ax_q (q_idxN rfl rfl (by first | assumption | omega)) ?_
    refine ax_q (q_convB rfl) ?_
    refine ax_q (q_mov rfl) ?_
    refine ax_nil (cx_keep rfl rfl (cx_seq (cx_ops ?_)))
    refine ax_q (q_mov rfl) ?_
    refine ax_q (q_add rfl rfl (by omega)) ?_
    refine ax_q (q_mov rfl) ?_
    refine ax_nil (cx_keep rfl rfl (cx_seq (cx_seq (cx_ops ?_))))
    refine ax_q (q_mov rfl) ?_
    refine ax_q (q_mov rfl) ?_
    refine ax_q (q_mul rfl rfl (by omega)) ?_
    refine ax_q (q_add rfl rfl (by omega)) ?_
    refine ax_q (q_mov rfl) ?_
    refine ax_q (q_lenT rfl) ?_
    refine ax_q (q_ibin rfl rfl rfl) ?_
    refine ax_nil (cx_keep rfl rfl ?_)
    refine cx_cond rfl (fun h2 => ?_) (fun h2 => ?_)
    ·
     have h2 := dT h2
     refine cx_seq (cx_draw ?_)
     refine ax_q (q_mov rfl) ?_
     refine ax_q (q_ixB rfl rfl (by decide)) ?_
     refine ax_q (q_load1_ptr rfl rfl rfl) ?_
     refine ax_q (q_mov rfl) ?_
     refine ax_q (q_ixB rfl rfl (by decide)) ?_
     refine ax_q (q_load1_ptr rfl rfl rfl) ?_
     refine ax_q (q_mov rfl) ?_
     refine ax_q (q_mov rfl) ?_
     refine ax_q (q_mov rfl) ?_
     refine ax_nil (cx_keep rfl rfl ?_)
     refine cx_wk (wk_frz 2 10 rfl rfl (.whole (by simp)) rfl) ?_
     refine cx_wk (wk_frz 3 11 rfl rfl (.whole (by simp)) rfl) ?_
     refine cx_ret (ret0 rfl rfl ?_)
     rw [ck_b1 hkk (h := h1x) (by omega)]; exact ⟨rfl, rfl⟩
    ·
     have h2 := dF h2
     refine cx_skip ?_
     refine cx_keep rfl rfl (cx_seq (cx_ops ?_))
     refine ax_q (q_mov rfl) ?_
     refine ax_nil (cx_keep rfl rfl (cx_block ?_))
     obtain ⟨l, q1, q2, q3⟩ := @ck_list t (p + 1) t[p].toNat (by omega)
     refine cx_loopU (fun m i => i ≤ t[p].toNat ∧ m = t[p].toNat - i) (fun i : Nat => [(6, int (((p + 1 + 2 * i : Nat)) : Int)), (9, int (i : Nat))]) (fun i => [(12, .box [.osl 10 2 0 l1.length, .osl 11 2 0 (l.take i).length]), (10, .rows 2 (l1.map prRow)), (11, .rows 2 ((l.take i).map prRow))]) ⟨_, 0, ⟨Nat.zero_le _, rfl⟩, by repeat constructor⟩ ?_
     rintro m i ⟨hi, rfl⟩
     refine cx_seq (cx_seq (cx_ops ?_))
     refine ax_q (q_mov rfl) ?_
     refine ax_q (q_mov rfl) ?_
     refine ax_q (q_ibin rfl rfl rfl) ?_
     refine ax_nil (cx_keep rfl rfl ?_)
     refine cx_cond rfl (fun h3 => ?_) (fun h3 => ?_)
     ·
      have h3 := dT h3
      have e3 := q3 i (by omega) (by omega)
      refine cx_skip ?_
      refine cx_keep rfl rfl (cx_seq (cx_block (cx_seq ?_)))
      refine cx_drawL 17 68 (Nat.beq 11) (nrA 11) [] ([(11, .rows 2 ((l.take (i + 1)).map prRow))]) [[5], [7], [5], [7], [53, 54], [55], [0], [6], [57, 58], [59], [0], [6], [62], [61, 63], [64], [60, 65], [66], [56, 67]] [[11, 12], [11, 12], [], [], [], [], [], [], [], [], [], [], [], [], [], [], [], [11, 12]] rfl ?_
      first | refine ⟨_, .inr ⟨rfl, _, rfl, .inr ⟨rfl, rfl, .inr rfl, rfl, rfl⟩, loc_q (q_mov rfl)⟩, ?_⟩
      first | refine ⟨_, .inr ⟨rfl, _, rfl, .inr ⟨rfl, rfl, .inr rfl, rfl, rfl⟩, loc_q (q_mov rfl)⟩, ?_⟩
      first | refine ⟨_, .inr ⟨rfl, _, rfl, .inl rfl, loc_q (q_mov rfl)⟩, ?_⟩
      first | refine ⟨_, .inr ⟨rfl, _, rfl, .inl rfl, loc_q (q_mov rfl)⟩, ?_⟩
      first | refine ⟨_, .inr ⟨rfl, _, rfl, .inl rfl, loc_q (q_ixB rfl rfl (by decide))⟩, ?_⟩
      first | refine ⟨_, .inr ⟨rfl, _, rfl, .inl rfl, loc_q (q_load1_ptr rfl rfl rfl)⟩, ?_⟩
      first | refine ⟨_, .inr ⟨rfl, _, rfl, .inl rfl, loc_q (q_mov rfl)⟩, ?_⟩
      first | refine ⟨_, .inr ⟨rfl, _, rfl, .inl rfl, loc_q (q_mov rfl)⟩, ?_⟩
      first | refine ⟨_, .inr ⟨rfl, _, rfl, .inl rfl, loc_q (q_idxN rfl rfl (by first | assumption | omega))⟩, ?_⟩
      refine ⟨_, .inr ⟨rfl, _, rfl, .inl rfl, loc_q (q_convB rfl)⟩, ?_⟩
      first | refine ⟨_, .inr ⟨rfl, _, rfl, .inl rfl, loc_q (q_mov rfl)⟩, ?_⟩
      first | refine ⟨_, .inr ⟨rfl, _, rfl, .inl rfl, loc_q (q_mov rfl)⟩, ?_⟩
      first | refine ⟨_, .inr ⟨rfl, _, rfl, .inl rfl, loc_qe (r' := int ((p + 1 + 2 * i + 1 : Nat) : Int)) (q_ibin rfl rfl rfl) (by rw [wi (by omega) (by omega)]; rfl)⟩, ?_⟩
      first | refine ⟨_, .inr ⟨rfl, _, rfl, .inl rfl, loc_q (q_idxN rfl rfl (by first | assumption | omega))⟩, ?_⟩
      refine ⟨_, .inr ⟨rfl, _, rfl, .inl rfl, loc_q (q_convB rfl)⟩, ?_⟩
      first | refine ⟨_, .inr ⟨rfl, _, rfl, .inl rfl, loc_q (q_build rfl)⟩, ?_⟩
      first | refine ⟨_, .inr ⟨rfl, _, rfl, .inl rfl, loc_bslice rfl⟩, ?_⟩
      refine ⟨⟨68, _, []⟩, .inl ⟨rfl, rfl, rfl, locl_app (n' := (l.take (i + 1)).length) (rs' := (l.take (i + 1)).map prRow) rfl rfl (by simp) rfl (fun _ _ h => src_osl (h _ _ rfl) (by simp)) (.inl (by decide)) (hbnd (by simp only [List.length_take]; omega) (by simp) (by decide)) (by simp only [List.drop_zero, Nat.min_self, List.length_take, List.length_cons, List.length_nil, Nat.min_eq_left (show i ≤ l.length by omega), Nat.min_eq_left (show i + 1 ≤ l.length by omega)]) ((congrArg (· ++ _) (List.take_of_length_le (by simp))).trans (take_pr e3))⟩, ?_⟩
      refine ⟨rfl, ?_⟩
      refine ax_q (q_ixB rfl rfl (by decide)) ?_
      refine ax_e (e_st rfl rfl rfl rfl rfl rfl rfl) ?_
      refine ax_nil (cx_keep rfl rfl (cx_ops ?_))
      refine ax_q (q_mov rfl) ?_
      refine ax_q (q_add rfl rfl (by omega)) ?_
      refine ax_q (q_mov rfl) ?_
      refine ax_nil (cx_keep rfl rfl (cx_ops ?_))
      refine ax_q (q_mov rfl) ?_
      refine ax_q (q_add rfl rfl (by omega)) ?_
      refine ax_q (q_mov rfl) ?_
      refine ax_nil ?_
      exact ⟨_, i + 1, by omega, ⟨by omega, rfl⟩, by repeat constructor⟩
     ·
      have h3 := dF h3
      obtain rfl : i = t[p].toNat := by omega
      have e4 : l.take t[p].toNat = l := List.take_of_length_le (by omega)
      rw [e4]
      refine cx_exit rfl ?_
      refine cx_keep rfl rfl (cx_ops ?_)
      refine ax_q (q_mov rfl) ?_
      refine ax_q (q_add rfl rfl (by omega)) ?_
      refine ax_q (q_mov rfl) ?_
      refine ax_nil ?_
      exact ⟨_, (2, l1, l, p + 1 + 2 * t[p].toNat), by omega, ⟨rfl, ck_b2 hkk hl1 q1 q2 (by omega)⟩, by repeat constructor⟩
 ·
  have h0 := dF h0
  obtain ⟨rfl, hkk⟩ : k = 2 ∧ readX t = (l1, l2, decide (p = t.length)) := by
   rcases hk with ⟨h, _⟩ | ⟨h, _⟩ | h
   ·
    omega
   ·
    omega
   ·
    exact h
  refine cx_exit rfl ?_
  refine cx_keep rfl rfl (cx_seq (cx_draw ?_))
  refine ax_q (q_mov rfl) ?_
  refine ax_q (q_ixB rfl rfl (by decide)) ?_
  refine ax_q (q_load1_ptr rfl rfl rfl) ?_
  refine ax_q (q_mov rfl) ?_
  refine ax_q (q_ixB rfl rfl (by decide)) ?_
  refine ax_q (q_load1_ptr rfl rfl rfl) ?_
  refine ax_q (q_mov rfl) ?_
  refine ax_q (q_mov rfl) ?_
  refine ax_q (q_lenT rfl) ?_
  refine ax_q (q_ibin rfl rfl rfl) ?_
  refine ax_q (q_mov rfl) ?_
  refine ax_q (q_mov rfl) ?_
  refine ax_q (q_mov rfl) ?_
  refine ax_nil (cx_keep rfl rfl ?_)
  refine cx_wk (wk_frz 2 10 rfl rfl (.whole (by simp)) rfl) ?_
  refine cx_wk (wk_frz 3 11 rfl rfl (.whole (by simp)) rfl) ?_
  refine cx_ret (ret0 rfl rfl ?_)
  have e : decide ((p : Int) = (t.length : Int)) = decide (p = t.length) := by congr 1; exact propext (by omega)
  rw [hkk]; exact ⟨by rw [e]; rfl, rfl⟩


/- loop.example/g00332/spec.l04CheckOK -/
def k_c_l04CheckOK : XCode :=
 .seq (.ops [.op (some 1) (.box (.t 0)),
   .op (some 2) (.mov (.k (.bool false)))])
 (.keep [1] (.seq (.ops [.op (some 9) (.fadr (.t 1) 9),
   .op (some 10) (.load1 (.t 9)),
   .call (some 11) 165 [.t 10],
   .op (some 8) (.mov (.t 11)),
   .op (some 12) (.ext (.t 8) 0),
   .op (some 13) (.ext (.t 8) 1),
   .op (some 14) (.ext (.t 8) 2),
   .op (some 3) (.mov (.t 12)),
   .op (some 4) (.mov (.t 13)),
   .op (some 5) (.mov (.t 14))])
 (.keep [1, 3, 4, 5] (.seq (.seq (.ops [.op (some 15) (.mov (.t 5)),
   .op (some 16) (.not (.t 15)),
   .op (some 17) (.mov (.t 16)),
   .andor 21 false 2 17 [.op (some 18) (.mov (.t 3)), .op (some 19) (.lenS (.t 18)), .op (some 20) (.bin .gtr (.t 19) (.k (.int .i64 8)))] (.t 20),
   .op (some 22) (.mov (.t 21)),
   .andor 26 false 7 22 [.op (some 23) (.mov (.t 4)), .op (some 24) (.lenS (.t 23)), .op (some 25) (.bin .gtr (.t 24) (.k (.int .i64 10)))] (.t 25)])
  (.keep [1, 3, 4, 26] (.cond (.t 26)
  (.seq (.ops [.op (some 2) (.mov (.k (.bool false)))])
   (.keep [2] (.ret)))
  (.skip))))
 (.keep [1, 3, 4] (.seq (.seq (.ops [.op (some 6) (.mov (.k (.int .i64 0)))])
  (.keep [1, 3, 4, 6] (.block 0 (.loop (.seq (.seq (.ops [.op (some 27) (.mov (.t 6)),
     .op (some 28) (.mov (.t 3)),
     .op (some 29) (.lenS (.t 28)),
     .op (some 30) (.bin .lss (.t 27) (.t 29))])
   (.keep [1, 3, 4, 6, 30] (.cond (.t 30)
    (.skip)
    (.exit 0))))
   (.keep [1, 3, 4, 6] (.seq (.block 1 (.seq (.draw [.op (some 33) (.mov (.t 3)),
     .op (some 34) (.mov (.t 6)),
     .op (some 35) (.iadr 2 (.t 33) (.t 34)),
     .op (some 36) (.iadrA 1 2 (.t 35) (.k (.int .i64 0))),
     .op (some 37) (.load1 (.t 36)),
     .call (some 38) 31 [.t 37, .k (.int .i64 0), .k (.int .i64 7)],
     .op (some 39) (.not (.t 38)),
     .op (some 40) (.mov (.t 39)),
     .andor 51 false 7 40 [.op (some 41) (.mov (.t 3)), .op (some 42) (.mov (.t 6)), .op (some 43) (.iadr 2 (.t 41) (.t 42)), .op (some 44) (.iadrA 1 2 (.t 43) (.k (.int .i64 1))), .op (some 45) (.load1 (.t 44)), .op (some 46) (.fadr (.t 1) 1), .op (some 47) (.load1 (.t 46)), .op (some 48) (.bin .sub (.t 47) (.k (.int .i64 1))), .call (some 49) 31 [.t 45, .k (.int .i64 1), .t 48], .op (some 50) (.not (.t 49))] (.t 50),
     .op (some 52) (.mov (.t 51)),
     .andor 69 false 19 52 [.op (some 53) (.mov (.t 6)), .op (some 54) (.bin .gtr (.t 53) (.k (.int .i64 0))), .op (some 55) (.mov (.t 54)), .andor 68 true 22 55 [.op (some 56) (.mov (.t 3)), .op (some 57) (.mov (.t 6)), .op (some 58) (.bin .sub (.t 57) (.k (.int .i64 1))), .op (some 59) (.iadr 2 (.t 56) (.t 58)), .op (some 60) (.iadrA 1 2 (.t 59) (.k (.int .i64 0))), .op (some 61) (.load1 (.t 60)), .op (some 62) (.mov (.t 3)), .op (some 63) (.mov (.t 6)), .op (some 64) (.iadr 2 (.t 62) (.t 63)), .op (some 65) (.iadrA 1 2 (.t 64) (.k (.int .i64 0))), .op (some 66) (.load1 (.t 65)), .op (some 67) (.bin .geq (.t 61) (.t 66))] (.t 67)] (.t 68)])
    (.keep [1, 3, 4, 6, 69] (.cond (.t 69)
    (.seq (.ops [.op (some 2) (.mov (.k (.bool false)))])
     (.keep [2] (.ret)))
    (.skip)))))
   (.keep [1, 3, 4, 6] (.ops [.op (some 31) (.mov (.t 6)),
    .op (some 32) (.bin .add (.t 31) (.k (.int .i64 1))),
    .op (some 6) (.mov (.t 32))])))))))))
 (.keep [1, 4] (.seq (.seq (.ops [.op (some 7) (.mov (.k (.int .i64 0)))])
  (.keep [1, 4, 7] (.block 2 (.loop (.seq (.seq (.ops [.op (some 70) (.mov (.t 7)),
     .op (some 71) (.mov (.t 4)),
     .op (some 72) (.lenS (.t 71)),
     .op (some 73) (.bin .lss (.t 70) (.t 72))])
   (.keep [1, 4, 7, 73] (.cond (.t 73)
    (.skip)
    (.exit 2))))
   (.keep [1, 4, 7] (.seq (.block 3 (.seq (.draw [.op (some 76) (.mov (.t 4)),
     .op (some 77) (.mov (.t 7)),
     .op (some 78) (.iadr 2 (.t 76) (.t 77)),
     .op (some 79) (.iadrA 1 2 (.t 78) (.k (.int .i64 0))),
     .op (some 80) (.load1 (.t 79)),
     .call (some 81) 31 [.t 80, .k (.int .i64 1), .k (.int .i64 60)],
     .op (some 82) (.not (.t 81)),
     .op (some 83) (.mov (.t 82)),
     .andor 94 false 7 83 [.op (some 84) (.mov (.t 4)), .op (some 85) (.mov (.t 7)), .op (some 86) (.iadr 2 (.t 84) (.t 85)), .op (some 87) (.iadrA 1 2 (.t 86) (.k (.int .i64 1))), .op (some 88) (.load1 (.t 87)), .op (some 89) (.fadr (.t 1) 1), .op (some 90) (.load1 (.t 89)), .op (some 91) (.bin .sub (.t 90) (.k (.int .i64 1))), .call (some 92) 31 [.t 88, .k (.int .i64 1), .t 91], .op (some 93) (.not (.t 92))] (.t 93),
     .op (some 95) (.mov (.t 94)),
     .andor 112 false 19 95 [.op (some 96) (.mov (.t 7)), .op (some 97) (.bin .gtr (.t 96) (.k (.int .i64 0))), .op (some 98) (.mov (.t 97)), .andor 111 true 22 98 [.op (some 99) (.mov (.t 4)), .op (some 100) (.mov (.t 7)), .op (some 101) (.bin .sub (.t 100) (.k (.int .i64 1))), .op (some 102) (.iadr 2 (.t 99) (.t 101)), .op (some 103) (.iadrA 1 2 (.t 102) (.k (.int .i64 0))), .op (some 104) (.load1 (.t 103)), .op (some 105) (.mov (.t 4)), .op (some 106) (.mov (.t 7)), .op (some 107) (.iadr 2 (.t 105) (.t 106)), .op (some 108) (.iadrA 1 2 (.t 107) (.k (.int .i64 0))), .op (some 109) (.load1 (.t 108)), .op (some 110) (.bin .geq (.t 104) (.t 109))] (.t 110)] (.t 111)])
    (.keep [1, 4, 7, 112] (.cond (.t 112)
    (.seq (.ops [.op (some 2) (.mov (.k (.bool false)))])
     (.keep [2] (.ret)))
    (.skip)))))
   (.keep [1, 4, 7] (.ops [.op (some 74) (.mov (.t 7)),
    .op (some 75) (.bin .add (.t 74) (.k (.int .i64 1))),
    .op (some 7) (.mov (.t 75))])))))))))
 (.keep [] (.seq (.ops [.op (some 2) (.mov (.k (.bool true)))])
 (.keep [2] (.ret))))))))))))
theorem k_c_l04CheckOK_fits : fitsF Tryz.prog 124 ⟨113, k_c_l04CheckOK, [.t 2]⟩ = true := by kernel_rfl
set_option maxHeartbeats 4000000 in
theorem c_l04CheckOK {x : GLogRecord} (hl : x.After.length ≤ 1048576) (hm : 1 ≤ x.Lsn ∧ x.Lsn ≤ 60) : Con Tryz.prog noMv 124 [x.av] [] (fun r h => r = bool (checkOK x.After x.Lsn) ∧ h = []) := by
 refine con_of2 k_c_l04CheckOK_fits rfl fun C hP hmv => ?_
 unfold k_c_l04CheckOK
 refine cx_seq (cx_ops ?_)
 refine ax_e (e_box rfl rfl (by decide) rfl rfl rfl) ?_
 refine ax_q (q_mov rfl) ?_
 refine ax_nil (cx_keep rfl rfl (cx_seq (cx_ops ?_)))
 refine ax_q (q_fadr_ptr rfl) ?_
 refine ax_q (q_load1_ptr rfl rfl rfl) ?_
 refine ax_call rfl (vc_pure0 (c_l04ReadCheck (t := x.After) ?_) hP rfl rfl ?_)
 ·
  assumption
 have hl12 := @readX_len x.After
 refine ax_q (q_mov rfl) ?_
 refine ax_q (q_ext rfl rfl) ?_
 refine ax_q (q_ext rfl rfl) ?_
 refine ax_q (q_ext rfl rfl) ?_
 refine ax_q (q_mov rfl) ?_
 refine ax_q (q_mov rfl) ?_
 refine ax_q (q_mov rfl) ?_
 refine ax_nil (cx_keep rfl rfl (cx_seq (cx_seq (cx_ops ?_))))
 refine ax_q (q_mov rfl) ?_
 refine ax_q (q_not rfl) ?_
 refine ax_q (q_mov rfl) ?_
 apply ax_or rfl rfl
 ·
  intro g
  have g := bF g
  refine ax_q (q_mov rfl) ?_
  refine ax_q (q_lenS_map rfl) ?_
  refine ax_q (q_ibin rfl rfl rfl) ?_
  exact ax_nil ⟨rfl, by repeat constructor⟩
 refine ax_q (q_mov rfl) ?_
 apply ax_or rfl rfl
 ·
  intro g
  have g := (fun h => And.intro (bF (or_F h).1) (dF (or_F h).2)) g
  refine ax_q (q_mov rfl) ?_
  refine ax_q (q_lenS_map rfl) ?_
  refine ax_q (q_ibin rfl rfl rfl) ?_
  exact ax_nil ⟨rfl, by repeat constructor⟩
 refine ax_nil (cx_keep rfl rfl ?_)
 refine cx_cond rfl (fun h0 => ?_) (fun h0 => ?_)
 ·
  have h0 : badX (readX x.After) = true := h0
  refine cx_seq (cx_ops ?_)
  refine ax_q (q_mov rfl) ?_
  refine ax_nil (cx_keep rfl rfl ?_)
  refine cx_ret (ret0 rfl rfl ?_)
  exact ⟨by rw [checkX, h0]; rfl, rfl⟩
 ·
  have h0 : badX (readX x.After) = false := h0
  refine cx_skip ?_
  refine cx_keep rfl rfl (cx_seq (cx_seq (cx_ops ?_)))
  refine ax_q (q_mov rfl) ?_
  refine ax_nil (cx_keep rfl rfl (cx_block ?_))
  refine cx_loopU (fun m k => k ≤ (readX x.After).1.length ∧ m = (readX x.After).1.length - k ∧ checkOK x.After x.Lsn = (okL 7 x.Lsn ((readX x.After).1.drop k) (prevP (readX x.After).1 (-1) k) && okL 60 x.Lsn (readX x.After).2.1 0)) (fun k : Nat => [(6, int k)]) (fun _ => [(1, .box (x.row.map .d))]) ⟨_, 0, ⟨Nat.zero_le _, rfl, by rw [checkX, h0]; rfl⟩, by repeat constructor⟩ ?_
  rintro m k ⟨hk, rfl, hc⟩
  refine cx_seq (cx_seq (cx_ops ?_))
  refine ax_q (q_mov rfl) ?_
  refine ax_q (q_mov rfl) ?_
  refine ax_q (q_lenS_map rfl) ?_
  refine ax_q (q_ibin rfl rfl rfl) ?_
  refine ax_nil (cx_keep rfl rfl ?_)
  refine cx_cond rfl (fun h1 => ?_) (fun h1 => ?_)
  ·
   have h1 := dT h1
   have hkx : k < (readX x.After).1.length := by omega
   refine cx_skip ?_
   refine cx_keep rfl rfl (cx_seq (cx_block (cx_seq (cx_draw ?_))))
   refine ax_q (q_mov rfl) ?_
   refine ax_q (q_mov rfl) ?_
   refine ax_q (q_ix rfl rfl (mapAt hkx)) ?_
   refine ax_q (q_iadrI rfl rfl (by decide) (by decide)) ?_
   first | refine ax_q (q_load1_ptr rfl rfl rfl) ?_ | refine ax_q (q_load1_ip rfl) ?_
   refine ax_callq rfl (c_l01In  ) hP (lal_id _ rfl) rfl ?_
   refine ax_q (q_not rfl) ?_
   refine ax_q (q_mov rfl) ?_
   apply ax_or rfl rfl
   ·
    intro g
    have g := bF g
    refine ax_q (q_mov rfl) ?_
    refine ax_q (q_mov rfl) ?_
    refine ax_q (q_ix rfl rfl (mapAt hkx)) ?_
    refine ax_q (q_iadrI rfl rfl (by decide) (by decide)) ?_
    first | refine ax_q (q_load1_ptr rfl rfl rfl) ?_ | refine ax_q (q_load1_ip rfl) ?_
    refine ax_q (q_fadr_ptr rfl) ?_
    refine ax_q (q_load1_ptr rfl rfl rfl) ?_
    refine ax_qe (r' := int (x.Lsn - 1)) (q_ibin rfl rfl rfl) (by rw [wi (by omega) (by omega)]) ?_
    refine ax_callq rfl (c_l01In  ) hP (lal_id _ rfl) rfl ?_
    refine ax_q (q_not rfl) ?_
    exact ax_nil ⟨rfl, by repeat constructor⟩
   refine ax_q (q_mov rfl) ?_
   apply ax_or rfl rfl
   ·
    intro g
    have g := (fun h => And.intro (bF (or_F h).1) (bF (or_F h).2)) g
    refine ax_q (q_mov rfl) ?_
    refine ax_q (q_ibin rfl rfl rfl) ?_
    refine ax_q (q_mov rfl) ?_
    apply ax_and rfl rfl
    ·
     intro g
     have g := dT g
     refine ax_q (q_mov rfl) ?_
     refine ax_q (q_mov rfl) ?_
     refine ax_qe (r' := int ((k - 1 : Nat) : Int)) (q_ibin rfl rfl rfl) (by rw [wi (by omega) (by omega)]; exact congrArg AM.int (by omega)) ?_
     refine ax_q (q_ix rfl rfl (mapAt (Nat.lt_of_le_of_lt (Nat.sub_le k 1) hkx))) ?_
     refine ax_q (q_iadrI rfl rfl (by decide) (by decide)) ?_
     first | refine ax_q (q_load1_ptr rfl rfl rfl) ?_ | refine ax_q (q_load1_ip rfl) ?_
     refine ax_q (q_mov rfl) ?_
     refine ax_q (q_mov rfl) ?_
     refine ax_q (q_ix rfl rfl (mapAt hkx)) ?_
     refine ax_q (q_iadrI rfl rfl (by decide) (by decide)) ?_
     first | refine ax_q (q_load1_ptr rfl rfl rfl) ?_ | refine ax_q (q_load1_ip rfl) ?_
     refine ax_q (q_ibin rfl rfl rfl) ?_
     exact ax_nil ⟨rfl, by repeat constructor⟩
    exact ax_nil ⟨rfl, by repeat constructor⟩
   refine ax_nil (cx_keep rfl rfl ?_)
   refine cx_cond rfl (fun h2 => ?_) (fun h2 => ?_)
   ·
    have h2 : badPr 0 7 x.Lsn (readX x.After).1 k hkx = true := h2
    refine cx_seq (cx_ops ?_)
    refine ax_q (q_mov rfl) ?_
    refine ax_nil (cx_keep rfl rfl ?_)
    refine cx_ret (ret0 rfl rfl ?_)
    exact ⟨by rw [hc, okL_step hkx (by decide), show badPr ((-1) + 1) 7 x.Lsn (readX x.After).1 k hkx = true from h2]; rfl, rfl⟩
   ·
    have h2 : badPr 0 7 x.Lsn (readX x.After).1 k hkx = false := h2
    refine cx_skip ?_
    refine cx_keep rfl rfl (cx_ops ?_)
    refine ax_q (q_mov rfl) ?_
    refine ax_qe (r' := int ((k + 1 : Nat) : Int)) (q_ibin rfl rfl rfl) (by rw [wi (by omega) (by omega)]; rfl) ?_
    refine ax_q (q_mov rfl) ?_
    refine ax_nil ?_
    exact ⟨_, k + 1, by omega, ⟨by omega, rfl, by rw [hc, okL_step hkx (by decide), show badPr ((-1) + 1) 7 x.Lsn (readX x.After).1 k hkx = false from h2, Bool.not_false, Bool.true_and]⟩, by repeat constructor⟩
  ·
   have h1 := dF h1
   obtain rfl : k = (readX x.After).1.length := by omega
   refine cx_exit rfl ?_
   refine cx_keep rfl rfl (cx_seq (cx_seq (cx_ops ?_)))
   refine ax_q (q_mov rfl) ?_
   refine ax_nil (cx_keep rfl rfl (cx_block ?_))
   refine cx_loopU (fun m k => k ≤ (readX x.After).2.1.length ∧ m = (readX x.After).2.1.length - k ∧ checkOK x.After x.Lsn = (okL 60 x.Lsn ((readX x.After).2.1.drop k) (prevP (readX x.After).2.1 0 k))) (fun k : Nat => [(7, int k)]) (fun _ => [(1, .box (x.row.map .d))]) ⟨_, 0, ⟨Nat.zero_le _, rfl, by rw [hc, okL_end]; rfl⟩, by repeat constructor⟩ ?_
   rintro m k ⟨hk, rfl, hc⟩
   refine cx_seq (cx_seq (cx_ops ?_))
   refine ax_q (q_mov rfl) ?_
   refine ax_q (q_mov rfl) ?_
   refine ax_q (q_lenS_map rfl) ?_
   refine ax_q (q_ibin rfl rfl rfl) ?_
   refine ax_nil (cx_keep rfl rfl ?_)
   refine cx_cond rfl (fun h3 => ?_) (fun h3 => ?_)
   ·
    have h3 := dT h3
    have hkx : k < (readX x.After).2.1.length := by omega
    refine cx_skip ?_
    refine cx_keep rfl rfl (cx_seq (cx_block (cx_seq (cx_draw ?_))))
    refine ax_q (q_mov rfl) ?_
    refine ax_q (q_mov rfl) ?_
    refine ax_q (q_ix rfl rfl (mapAt hkx)) ?_
    refine ax_q (q_iadrI rfl rfl (by decide) (by decide)) ?_
    first | refine ax_q (q_load1_ptr rfl rfl rfl) ?_ | refine ax_q (q_load1_ip rfl) ?_
    refine ax_callq rfl (c_l01In  ) hP (lal_id _ rfl) rfl ?_
    refine ax_q (q_not rfl) ?_
    refine ax_q (q_mov rfl) ?_
    apply ax_or rfl rfl
    ·
     intro g
     have g := bF g
     refine ax_q (q_mov rfl) ?_
     refine ax_q (q_mov rfl) ?_
     refine ax_q (q_ix rfl rfl (mapAt hkx)) ?_
     refine ax_q (q_iadrI rfl rfl (by decide) (by decide)) ?_
     first | refine ax_q (q_load1_ptr rfl rfl rfl) ?_ | refine ax_q (q_load1_ip rfl) ?_
     refine ax_q (q_fadr_ptr rfl) ?_
     refine ax_q (q_load1_ptr rfl rfl rfl) ?_
     refine ax_qe (r' := int (x.Lsn - 1)) (q_ibin rfl rfl rfl) (by rw [wi (by omega) (by omega)]) ?_
     refine ax_callq rfl (c_l01In  ) hP (lal_id _ rfl) rfl ?_
     refine ax_q (q_not rfl) ?_
     exact ax_nil ⟨rfl, by repeat constructor⟩
    refine ax_q (q_mov rfl) ?_
    apply ax_or rfl rfl
    ·
     intro g
     have g := (fun h => And.intro (bF (or_F h).1) (bF (or_F h).2)) g
     refine ax_q (q_mov rfl) ?_
     refine ax_q (q_ibin rfl rfl rfl) ?_
     refine ax_q (q_mov rfl) ?_
     apply ax_and rfl rfl
     ·
      intro g
      have g := dT g
      refine ax_q (q_mov rfl) ?_
      refine ax_q (q_mov rfl) ?_
      refine ax_qe (r' := int ((k - 1 : Nat) : Int)) (q_ibin rfl rfl rfl) (by rw [wi (by omega) (by omega)]; exact congrArg AM.int (by omega)) ?_
      refine ax_q (q_ix rfl rfl (mapAt (Nat.lt_of_le_of_lt (Nat.sub_le k 1) hkx))) ?_
      refine ax_q (q_iadrI rfl rfl (by decide) (by decide)) ?_
      first | refine ax_q (q_load1_ptr rfl rfl rfl) ?_ | refine ax_q (q_load1_ip rfl) ?_
      refine ax_q (q_mov rfl) ?_
      refine ax_q (q_mov rfl) ?_
      refine ax_q (q_ix rfl rfl (mapAt hkx)) ?_
      refine ax_q (q_iadrI rfl rfl (by decide) (by decide)) ?_
      first | refine ax_q (q_load1_ptr rfl rfl rfl) ?_ | refine ax_q (q_load1_ip rfl) ?_
      refine ax_q (q_ibin rfl rfl rfl) ?_
      exact ax_nil ⟨rfl, by repeat constructor⟩
     exact ax_nil ⟨rfl, by repeat constructor⟩
    refine ax_nil (cx_keep rfl rfl ?_)
    refine cx_cond rfl (fun h4 => ?_) (fun h4 => ?_)
    ·
     have h4 : badPr 1 60 x.Lsn (readX x.After).2.1 k hkx = true := h4
     refine cx_seq (cx_ops ?_)
     refine ax_q (q_mov rfl) ?_
     refine ax_nil (cx_keep rfl rfl ?_)
     refine cx_ret (ret0 rfl rfl ?_)
     exact ⟨by rw [hc, okL_step hkx (by decide), show badPr (0 + 1) 60 x.Lsn (readX x.After).2.1 k hkx = true from h4]; rfl, rfl⟩
    ·
     have h4 : badPr 1 60 x.Lsn (readX x.After).2.1 k hkx = false := h4
     refine cx_skip ?_
     refine cx_keep rfl rfl (cx_ops ?_)
     refine ax_q (q_mov rfl) ?_
     refine ax_qe (r' := int ((k + 1 : Nat) : Int)) (q_ibin rfl rfl rfl) (by rw [wi (by omega) (by omega)]; rfl) ?_
     refine ax_q (q_mov rfl) ?_
     refine ax_nil ?_
     exact ⟨_, k + 1, by omega, ⟨by omega, rfl, by rw [hc, okL_step hkx (by decide), show badPr (0 + 1) 60 x.Lsn (readX x.After).2.1 k hkx = false from h4, Bool.not_false, Bool.true_and]⟩, by repeat constructor⟩
   ·
    have h3 := dF h3
    obtain rfl : k = (readX x.After).2.1.length := by omega
    refine cx_exit rfl ?_
    refine cx_keep rfl rfl (cx_seq (cx_ops ?_))
    refine ax_q (q_mov rfl) ?_
    refine ax_nil (cx_keep rfl rfl ?_)
    refine cx_ret (ret0 rfl rfl ?_)
    exact ⟨by rw [hc, okL_end]; rfl, rfl⟩


/- loop.example/g00332/spec.RecordOK -/
def k_c_sRecordOK : XCode :=
 .seq (.ops [.op (some 1) (.box (.t 0)),
   .op (some 2) (.mov (.k (.bool false)))])
 (.keep [1] (.seq (.seq (.ops [.op (some 4) (.fadr (.t 1) 0),
   .op (some 5) (.load1 (.t 4)),
   .call (some 6) 31 [.t 5, .k (.int .i64 1), .k (.int .i64 60)],
   .op (some 7) (.not (.t 6)),
   .op (some 8) (.mov (.t 7)),
   .andor 13 false 4 8 [.op (some 9) (.fadr (.t 1) 1), .op (some 10) (.load1 (.t 9)), .call (some 11) 31 [.t 10, .k (.int .i64 1), .k (.int .i64 60)], .op (some 12) (.not (.t 11))] (.t 12),
   .op (some 14) (.mov (.t 13)),
   .andor 19 false 10 14 [.op (some 15) (.fadr (.t 1) 3), .op (some 16) (.load1 (.t 15)), .call (some 17) 31 [.t 16, .k (.int .i64 1), .k (.int .i64 6)], .op (some 18) (.not (.t 17))] (.t 18),
   .op (some 20) (.mov (.t 19)),
   .andor 28 false 16 20 [.op (some 21) (.fadr (.t 1) 4), .op (some 22) (.load1 (.t 21)), .op (some 23) (.fadr (.t 1) 1), .op (some 24) (.load1 (.t 23)), .op (some 25) (.bin .sub (.t 24) (.k (.int .i64 1))), .call (some 26) 31 [.t 22, .k (.int .i64 0), .t 25], .op (some 27) (.not (.t 26))] (.t 27),
   .op (some 29) (.mov (.t 28)),
   .andor 37 false 25 29 [.op (some 30) (.fadr (.t 1) 5), .op (some 31) (.load1 (.t 30)), .op (some 32) (.fadr (.t 1) 1), .op (some 33) (.load1 (.t 32)), .op (some 34) (.bin .sub (.t 33) (.k (.int .i64 1))), .call (some 35) 31 [.t 31, .k (.int .i64 0), .t 34], .op (some 36) (.not (.t 35))] (.t 36),
   .op (some 38) (.mov (.t 37)),
   .andor 43 false 34 38 [.op (some 39) (.fadr (.t 1) 6), .op (some 40) (.load1 (.t 39)), .call (some 41) 31 [.t 40, .k (.int .i64 0), .k (.int .i64 7)], .op (some 42) (.not (.t 41))] (.t 42),
   .op (some 44) (.mov (.t 43)),
   .andor 49 false 40 44 [.op (some 45) (.fadr (.t 1) 7), .op (some 46) (.load1 (.t 45)), .call (some 47) 31 [.t 46, .k (.int .i64 0), .k (.int .i64 3)], .op (some 48) (.not (.t 47))] (.t 48),
   .op (some 50) (.mov (.t 49)),
   .andor 55 false 46 50 [.op (some 51) (.fadr (.t 1) 8), .op (some 52) (.load1 (.t 51)), .op (some 53) (.lenT (.t 52)), .op (some 54) (.bin .gtr (.t 53) (.k (.int .i64 30)))] (.t 54)])
  (.keep [1, 55] (.cond (.t 55)
  (.seq (.ops [.op (some 2) (.mov (.k (.bool false)))])
   (.keep [2] (.ret)))
  (.skip))))
 (.keep [1] (.seq (.seq (.ops [.op (some 56) (.fadr (.t 1) 3),
   .op (some 57) (.load1 (.t 56)),
   .op (some 58) (.bin .eql (.t 57) (.k (.int .i64 6)))])
  (.keep [1, 58] (.cond (.t 58)
  (.seq (.ops [.op (some 59) (.fadr (.t 1) 2),
    .op (some 60) (.load1 (.t 59)),
    .op (some 61) (.bin .eql (.t 60) (.k (.int .i64 0))),
    .op (some 62) (.mov (.t 61)),
    .andor 66 true 3 62 [.op (some 63) (.fadr (.t 1) 4), .op (some 64) (.load1 (.t 63)), .op (some 65) (.bin .eql (.t 64) (.k (.int .i64 0)))] (.t 65),
    .op (some 67) (.mov (.t 66)),
    .andor 71 true 8 67 [.op (some 68) (.fadr (.t 1) 5), .op (some 69) (.load1 (.t 68)), .op (some 70) (.bin .eql (.t 69) (.k (.int .i64 0)))] (.t 70),
    .op (some 72) (.mov (.t 71)),
    .andor 76 true 13 72 [.op (some 73) (.fadr (.t 1) 6), .op (some 74) (.load1 (.t 73)), .op (some 75) (.bin .eql (.t 74) (.k (.int .i64 0)))] (.t 75),
    .op (some 77) (.mov (.t 76)),
    .andor 81 true 18 77 [.op (some 78) (.fadr (.t 1) 7), .op (some 79) (.load1 (.t 78)), .op (some 80) (.bin .eql (.t 79) (.k (.int .i64 0)))] (.t 80),
    .op (some 82) (.mov (.t 81)),
    .andor 86 true 23 82 [.op (some 83) (.fadr (.t 1) 8), .op (some 84) (.load1 (.t 83)), .op (some 85) (.bin .eql (.t 84) (.k (.str [])))] (.t 85),
    .op (some 87) (.mov (.t 86)),
    .andor 90 true 28 87 [.op (some 88) (.loadN 10 (.t 1)), .call (some 89) 124 [.t 88]] (.t 89),
    .op (some 2) (.mov (.t 90))])
   (.keep [2] (.ret)))
  (.skip))))
 (.keep [1] (.seq (.seq (.ops [.op (some 91) (.fadr (.t 1) 2),
   .op (some 92) (.load1 (.t 91)),
   .call (some 93) 31 [.t 92, .k (.int .i64 1), .k (.int .i64 60)],
   .op (some 94) (.not (.t 93)),
   .op (some 95) (.mov (.t 94)),
   .andor 100 false 4 95 [.op (some 96) (.fadr (.t 1) 9), .op (some 97) (.load1 (.t 96)), .op (some 98) (.lenT (.t 97)), .op (some 99) (.bin .gtr (.t 98) (.k (.int .i64 30)))] (.t 99)])
  (.keep [1, 100] (.cond (.t 100)
  (.seq (.ops [.op (some 2) (.mov (.k (.bool false)))])
   (.keep [2] (.ret)))
  (.skip))))
 (.keep [1] (.seq (.ops [.op (some 101) (.fadr (.t 1) 3),
   .op (some 102) (.load1 (.t 101)),
   .op (some 103) (.bin .eql (.t 102) (.k (.int .i64 2))),
   .op (some 104) (.mov (.t 103)),
   .andor 108 false 3 104 [.op (some 105) (.fadr (.t 1) 3), .op (some 106) (.load1 (.t 105)), .op (some 107) (.bin .eql (.t 106) (.k (.int .i64 3)))] (.t 107),
   .op (some 3) (.mov (.t 108))])
 (.keep [1, 3] (.seq (.seq (.ops [.op (some 109) (.mov (.t 3)),
   .op (some 110) (.not (.t 109)),
   .op (some 111) (.mov (.t 110)),
   .andor 130 true 2 111 [.op (some 112) (.fadr (.t 1) 6), .op (some 113) (.load1 (.t 112)), .op (some 114) (.bin .neq (.t 113) (.k (.int .i64 0))), .op (some 115) (.mov (.t 114)), .andor 119 false 6 115 [.op (some 116) (.fadr (.t 1) 7), .op (some 117) (.load1 (.t 116)), .op (some 118) (.bin .neq (.t 117) (.k (.int .i64 0)))] (.t 118), .op (some 120) (.mov (.t 119)), .andor 124 false 11 120 [.op (some 121) (.fadr (.t 1) 8), .op (some 122) (.load1 (.t 121)), .op (some 123) (.bin .neq (.t 122) (.k (.str [])))] (.t 123), .op (some 125) (.mov (.t 124)), .andor 129 false 16 125 [.op (some 126) (.fadr (.t 1) 9), .op (some 127) (.load1 (.t 126)), .op (some 128) (.bin .neq (.t 127) (.k (.str [])))] (.t 128)] (.t 129),
   .op (some 131) (.mov (.t 130)),
   .andor 140 false 22 131 [.op (some 132) (.fadr (.t 1) 3), .op (some 133) (.load1 (.t 132)), .op (some 134) (.bin .neq (.t 133) (.k (.int .i64 3))), .op (some 135) (.mov (.t 134)), .andor 139 true 26 135 [.op (some 136) (.fadr (.t 1) 5), .op (some 137) (.load1 (.t 136)), .op (some 138) (.bin .neq (.t 137) (.k (.int .i64 0)))] (.t 138)] (.t 139),
   .op (some 141) (.mov (.t 140)),
   .andor 150 false 32 141 [.op (some 142) (.fadr (.t 1) 3), .op (some 143) (.load1 (.t 142)), .op (some 144) (.bin .eql (.t 143) (.k (.int .i64 3))), .op (some 145) (.mov (.t 144)), .andor 149 true 36 145 [.op (some 146) (.fadr (.t 1) 8), .op (some 147) (.load1 (.t 146)), .op (some 148) (.bin .neq (.t 147) (.k (.str [])))] (.t 148)] (.t 149)])
  (.keep [1, 150] (.cond (.t 150)
  (.seq (.ops [.op (some 2) (.mov (.k (.bool false)))])
   (.keep [2] (.ret)))
  (.skip))))
 (.keep [1] (.seq (.ops [.op (some 151) (.fadr (.t 1) 3),
   .op (some 152) (.load1 (.t 151)),
   .op (some 153) (.bin .eql (.t 152) (.k (.int .i64 1))),
   .op (some 154) (.fadr (.t 1) 4),
   .op (some 155) (.load1 (.t 154)),
   .op (some 156) (.bin .eql (.t 155) (.k (.int .i64 0))),
   .op (some 157) (.eqb false (.t 153) (.t 156)),
   .op (some 2) (.mov (.t 157))])
 (.keep [2] (.ret))))))))))))))
theorem k_c_sRecordOK_fits : fitsF Tryz.prog 72 ⟨158, k_c_sRecordOK, [.t 2]⟩ = true := by kernel_rfl
set_option maxHeartbeats 4000000 in
theorem c_sRecordOK {x : GLogRecord} (hl : x.After.length ≤ 1048576) : Con Tryz.prog noMv 72 [x.av] [] (fun r h => r = bool (recOK x) ∧ h = []) := by
 refine con_of2 k_c_sRecordOK_fits rfl fun C hP hmv => ?_
 unfold k_c_sRecordOK
 refine cx_seq (cx_ops ?_)
 refine ax_e (e_box rfl rfl (by decide) rfl rfl rfl) ?_
 refine ax_q (q_mov rfl) ?_
 refine ax_nil (cx_keep rfl rfl (cx_seq (cx_seq (cx_ops ?_))))
 refine ax_q (q_fadr_ptr rfl) ?_
 refine ax_q (q_load1_ptr rfl rfl rfl) ?_
 refine ax_call rfl (vc_pure0 (c_l01In  ) hP rfl rfl ?_)
 refine ax_q (q_not rfl) ?_
 refine ax_q (q_mov rfl) ?_
 apply ax_or rfl rfl
 ·
  intro g
  have g := bF g
  refine ax_q (q_fadr_ptr rfl) ?_
  refine ax_q (q_load1_ptr rfl rfl rfl) ?_
  refine ax_call rfl (vc_pure0 (c_l01In  ) hP rfl rfl ?_)
  refine ax_q (q_not rfl) ?_
  exact ax_nil ⟨rfl, by repeat constructor⟩
 refine ax_q (q_mov rfl) ?_
 apply ax_or rfl rfl
 ·
  intro g
  have g := (fun h => And.intro (bF (or_F h).1) (bF (or_F h).2)) g
  refine ax_q (q_fadr_ptr rfl) ?_
  refine ax_q (q_load1_ptr rfl rfl rfl) ?_
  refine ax_call rfl (vc_pure0 (c_l01In  ) hP rfl rfl ?_)
  refine ax_q (q_not rfl) ?_
  exact ax_nil ⟨rfl, by repeat constructor⟩
 refine ax_q (q_mov rfl) ?_
 apply ax_or rfl rfl
 ·
  intro g
  have g := (fun h => And.intro ((fun h => And.intro (bF (or_F h).1) (bF (or_F h).2)) (or_F h).1) (bF (or_F h).2)) g
  refine ax_q (q_fadr_ptr rfl) ?_
  refine ax_q (q_load1_ptr rfl rfl rfl) ?_
  refine ax_q (q_fadr_ptr rfl) ?_
  refine ax_q (q_load1_ptr rfl rfl rfl) ?_
  refine ax_qe (r' := int (x.Lsn - 1)) (q_ibin rfl rfl rfl) (by have hL := inR_iff.1 g.1.2; rw [wi (by omega) (by omega)]) ?_
  refine ax_call rfl (vc_pure0 (c_l01In  ) hP rfl rfl ?_)
  refine ax_q (q_not rfl) ?_
  exact ax_nil ⟨rfl, by repeat constructor⟩
 refine ax_q (q_mov rfl) ?_
 apply ax_or rfl rfl
 ·
  intro g
  have g := (fun h => And.intro ((fun h => And.intro ((fun h => And.intro (bF (or_F h).1) (bF (or_F h).2)) (or_F h).1) (bF (or_F h).2)) (or_F h).1) (bF (or_F h).2)) g
  refine ax_q (q_fadr_ptr rfl) ?_
  refine ax_q (q_load1_ptr rfl rfl rfl) ?_
  refine ax_q (q_fadr_ptr rfl) ?_
  refine ax_q (q_load1_ptr rfl rfl rfl) ?_
  refine ax_qe (r' := int (x.Lsn - 1)) (q_ibin rfl rfl rfl) (by have hL := inR_iff.1 g.1.1.2; rw [wi (by omega) (by omega)]) ?_
  refine ax_call rfl (vc_pure0 (c_l01In  ) hP rfl rfl ?_)
  refine ax_q (q_not rfl) ?_
  exact ax_nil ⟨rfl, by repeat constructor⟩
 refine ax_q (q_mov rfl) ?_
 apply ax_or rfl rfl
 ·
  intro g
  have g := (fun h => And.intro ((fun h => And.intro ((fun h => And.intro ((fun h => And.intro (bF (or_F h).1) (bF (or_F h).2)) (or_F h).1) (bF (or_F h).2)) (or_F h).1) (bF (or_F h).2)) (or_F h).1) (bF (or_F h).2)) g
  refine ax_q (q_fadr_ptr rfl) ?_
  refine ax_q (q_load1_ptr rfl rfl rfl) ?_
  refine ax_call rfl (vc_pure0 (c_l01In  ) hP rfl rfl ?_)
  refine ax_q (q_not rfl) ?_
  exact ax_nil ⟨rfl, by repeat constructor⟩
 refine ax_q (q_mov rfl) ?_
 apply ax_or rfl rfl
 ·
  intro g
  have g := (fun h => And.intro ((fun h => And.intro ((fun h => And.intro ((fun h => And.intro ((fun h => And.intro (bF (or_F h).1) (bF (or_F h).2)) (or_F h).1) (bF (or_F h).2)) (or_F h).1) (bF (or_F h).2)) (or_F h).1) (bF (or_F h).2)) (or_F h).1) (bF (or_F h).2)) g
  refine ax_q (q_fadr_ptr rfl) ?_
  refine ax_q (q_load1_ptr rfl rfl rfl) ?_
  refine ax_call rfl (vc_pure0 (c_l01In  ) hP rfl rfl ?_)
  refine ax_q (q_not rfl) ?_
  exact ax_nil ⟨rfl, by repeat constructor⟩
 refine ax_q (q_mov rfl) ?_
 apply ax_or rfl rfl
 ·
  intro g
  have g := (fun h => And.intro ((fun h => And.intro ((fun h => And.intro ((fun h => And.intro ((fun h => And.intro ((fun h => And.intro (bF (or_F h).1) (bF (or_F h).2)) (or_F h).1) (bF (or_F h).2)) (or_F h).1) (bF (or_F h).2)) (or_F h).1) (bF (or_F h).2)) (or_F h).1) (bF (or_F h).2)) (or_F h).1) (bF (or_F h).2)) g
  refine ax_q (q_fadr_ptr rfl) ?_
  refine ax_q (q_load1_ptr rfl rfl rfl) ?_
  refine ax_q (q_lenT rfl) ?_
  refine ax_q (q_ibin rfl rfl rfl) ?_
  exact ax_nil ⟨rfl, by repeat constructor⟩
 refine ax_nil (cx_keep rfl rfl ?_)
 refine cx_cond rfl (fun h0 => ?_) (fun h0 => ?_)
 ·
  have h0 : badS0 x = true := h0
  refine cx_seq (cx_ops ?_)
  refine ax_q (q_mov rfl) ?_
  refine ax_nil (cx_keep rfl rfl ?_)
  refine cx_ret (ret0 rfl rfl ?_)
  exact ⟨by rw [recS_0 h0]; rfl, rfl⟩
 ·
  have h0 : badS0 x = false := h0
  refine cx_skip ?_
  refine cx_keep rfl rfl (cx_seq (cx_seq (cx_ops ?_)))
  refine ax_q (q_fadr_ptr rfl) ?_
  refine ax_q (q_load1_ptr rfl rfl rfl) ?_
  have hS := badS0_no.1 h0
  refine ax_q (q_ibin rfl rfl rfl) ?_
  refine ax_nil (cx_keep rfl rfl ?_)
  refine cx_cond rfl (fun h1 => ?_) (fun h1 => ?_)
  ·
   have h1 := dT h1
   refine cx_seq (cx_ops ?_)
   refine ax_q (q_fadr_ptr rfl) ?_
   refine ax_q (q_load1_ptr rfl rfl rfl) ?_
   refine ax_q (q_ibin rfl rfl rfl) ?_
   refine ax_q (q_mov rfl) ?_
   apply ax_and rfl rfl
   ·
    intro g
    have g := dT g
    refine ax_q (q_fadr_ptr rfl) ?_
    refine ax_q (q_load1_ptr rfl rfl rfl) ?_
    refine ax_q (q_ibin rfl rfl rfl) ?_
    exact ax_nil ⟨rfl, by repeat constructor⟩
   refine ax_q (q_mov rfl) ?_
   apply ax_and rfl rfl
   ·
    intro g
    have g := (fun h => And.intro (dT (and_T h).1) (dT (and_T h).2)) g
    refine ax_q (q_fadr_ptr rfl) ?_
    refine ax_q (q_load1_ptr rfl rfl rfl) ?_
    refine ax_q (q_ibin rfl rfl rfl) ?_
    exact ax_nil ⟨rfl, by repeat constructor⟩
   refine ax_q (q_mov rfl) ?_
   apply ax_and rfl rfl
   ·
    intro g
    have g := (fun h => And.intro ((fun h => And.intro (dT (and_T h).1) (dT (and_T h).2)) (and_T h).1) (dT (and_T h).2)) g
    refine ax_q (q_fadr_ptr rfl) ?_
    refine ax_q (q_load1_ptr rfl rfl rfl) ?_
    refine ax_q (q_ibin rfl rfl rfl) ?_
    exact ax_nil ⟨rfl, by repeat constructor⟩
   refine ax_q (q_mov rfl) ?_
   apply ax_and rfl rfl
   ·
    intro g
    have g := (fun h => And.intro ((fun h => And.intro ((fun h => And.intro (dT (and_T h).1) (dT (and_T h).2)) (and_T h).1) (dT (and_T h).2)) (and_T h).1) (dT (and_T h).2)) g
    refine ax_q (q_fadr_ptr rfl) ?_
    refine ax_q (q_load1_ptr rfl rfl rfl) ?_
    refine ax_q (q_ibin rfl rfl rfl) ?_
    exact ax_nil ⟨rfl, by repeat constructor⟩
   refine ax_q (q_mov rfl) ?_
   apply ax_and rfl rfl
   ·
    intro g
    have g := (fun h => And.intro ((fun h => And.intro ((fun h => And.intro ((fun h => And.intro (dT (and_T h).1) (dT (and_T h).2)) (and_T h).1) (dT (and_T h).2)) (and_T h).1) (dT (and_T h).2)) (and_T h).1) (dT (and_T h).2)) g
    refine ax_q (q_fadr_ptr rfl) ?_
    refine ax_q (q_load1_ptr rfl rfl rfl) ?_
    refine ax_q (q_sbin rfl rfl rfl) ?_
    exact ax_nil ⟨rfl, by repeat constructor⟩
   refine ax_q (q_mov rfl) ?_
   apply ax_and rfl rfl
   ·
    intro g
    have g := (fun h => And.intro ((fun h => And.intro ((fun h => And.intro ((fun h => And.intro ((fun h => And.intro (dT (and_T h).1) (dT (and_T h).2)) (and_T h).1) (dT (and_T h).2)) (and_T h).1) (dT (and_T h).2)) (and_T h).1) (dT (and_T h).2)) (and_T h).1) (dT (and_T h).2)) g
    refine ax_q (q_ldN rfl rfl rfl) ?_
    refine ax_call rfl (vc_pure0 (c_l04CheckOK (x := x) ?_ ?_) hP rfl rfl ?_)
    ·
     assumption
    ·
     exact hS.l
    exact ax_nil ⟨rfl, by repeat constructor⟩
   refine ax_q (q_mov rfl) ?_
   refine ax_nil (cx_keep rfl rfl ?_)
   refine cx_ret (ret0 rfl rfl ?_)
   exact ⟨congrArg AM.bool (recS_6 hS h1), rfl⟩
  ·
   have h1 := dF h1
   refine cx_skip ?_
   refine cx_keep rfl rfl (cx_seq (cx_seq (cx_ops ?_)))
   refine ax_q (q_fadr_ptr rfl) ?_
   refine ax_q (q_load1_ptr rfl rfl rfl) ?_
   refine ax_call rfl (vc_pure0 (c_l01In  ) hP rfl rfl ?_)
   refine ax_q (q_not rfl) ?_
   refine ax_q (q_mov rfl) ?_
   apply ax_or rfl rfl
   ·
    intro g
    have g := bF g
    refine ax_q (q_fadr_ptr rfl) ?_
    refine ax_q (q_load1_ptr rfl rfl rfl) ?_
    refine ax_q (q_lenT rfl) ?_
    refine ax_q (q_ibin rfl rfl rfl) ?_
    exact ax_nil ⟨rfl, by repeat constructor⟩
   refine ax_nil (cx_keep rfl rfl ?_)
   refine cx_cond rfl (fun h2 => ?_) (fun h2 => ?_)
   ·
    have h2 : badS2 x = true := h2
    refine cx_seq (cx_ops ?_)
    refine ax_q (q_mov rfl) ?_
    refine ax_nil (cx_keep rfl rfl ?_)
    refine cx_ret (ret0 rfl rfl ?_)
    exact ⟨by rw [recS_2 h1 h2]; rfl, rfl⟩
   ·
    have h2 : badS2 x = false := h2
    refine cx_skip ?_
    refine cx_keep rfl rfl (cx_seq (cx_ops ?_))
    refine ax_q (q_fadr_ptr rfl) ?_
    refine ax_q (q_load1_ptr rfl rfl rfl) ?_
    refine ax_q (q_ibin rfl rfl rfl) ?_
    refine ax_q (q_mov rfl) ?_
    apply ax_or rfl rfl
    ·
     intro g
     have g := dF g
     refine ax_q (q_fadr_ptr rfl) ?_
     refine ax_q (q_load1_ptr rfl rfl rfl) ?_
     refine ax_q (q_ibin rfl rfl rfl) ?_
     exact ax_nil ⟨rfl, by repeat constructor⟩
    refine ax_q (q_mov rfl) ?_
    refine ax_nil (cx_keep rfl rfl (cx_seq (cx_seq (cx_ops ?_))))
    refine ax_q (q_mov rfl) ?_
    refine ax_q (q_not rfl) ?_
    refine ax_q (q_mov rfl) ?_
    apply ax_and rfl rfl
    ·
     intro g
     have g := (fun h => (fun h => And.intro (dF (or_F h).1) (dF (or_F h).2)) (bT h)) g
     refine ax_q (q_fadr_ptr rfl) ?_
     refine ax_q (q_load1_ptr rfl rfl rfl) ?_
     refine ax_q (q_ibin rfl rfl rfl) ?_
     refine ax_q (q_mov rfl) ?_
     apply ax_or rfl rfl
     ·
      intro g
      have g := nF g
      refine ax_q (q_fadr_ptr rfl) ?_
      refine ax_q (q_load1_ptr rfl rfl rfl) ?_
      refine ax_q (q_ibin rfl rfl rfl) ?_
      exact ax_nil ⟨rfl, by repeat constructor⟩
     refine ax_q (q_mov rfl) ?_
     apply ax_or rfl rfl
     ·
      intro g
      have g := (fun h => And.intro (nF (or_F h).1) (nF (or_F h).2)) g
      refine ax_q (q_fadr_ptr rfl) ?_
      refine ax_q (q_load1_ptr rfl rfl rfl) ?_
      refine ax_q (q_sbin rfl rfl rfl) ?_
      exact ax_nil ⟨rfl, by repeat constructor⟩
     refine ax_q (q_mov rfl) ?_
     apply ax_or rfl rfl
     ·
      intro g
      have g := (fun h => And.intro ((fun h => And.intro (nF (or_F h).1) (nF (or_F h).2)) (or_F h).1) (nF (or_F h).2)) g
      refine ax_q (q_fadr_ptr rfl) ?_
      refine ax_q (q_load1_ptr rfl rfl rfl) ?_
      refine ax_q (q_sbin rfl rfl rfl) ?_
      exact ax_nil ⟨rfl, by repeat constructor⟩
     exact ax_nil ⟨rfl, by repeat constructor⟩
    refine ax_q (q_mov rfl) ?_
    apply ax_or rfl rfl
    ·
     intro g
     have g := (fun h => (and_F h).imp (fun h => (fun h => (or_T h).imp dT dT) (bF h)) (fun h => And.intro ((fun h => And.intro ((fun h => And.intro (nF (or_F h).1) (nF (or_F h).2)) (or_F h).1) (nF (or_F h).2)) (or_F h).1) (nF (or_F h).2))) g
     refine ax_q (q_fadr_ptr rfl) ?_
     refine ax_q (q_load1_ptr rfl rfl rfl) ?_
     refine ax_q (q_ibin rfl rfl rfl) ?_
     refine ax_q (q_mov rfl) ?_
     apply ax_and rfl rfl
     ·
      intro g
      have g := nT g
      refine ax_q (q_fadr_ptr rfl) ?_
      refine ax_q (q_load1_ptr rfl rfl rfl) ?_
      refine ax_q (q_ibin rfl rfl rfl) ?_
      exact ax_nil ⟨rfl, by repeat constructor⟩
     exact ax_nil ⟨rfl, by repeat constructor⟩
    refine ax_q (q_mov rfl) ?_
    apply ax_or rfl rfl
    ·
     intro g
     have g := (fun h => And.intro ((fun h => (and_F h).imp (fun h => (fun h => (or_T h).imp dT dT) (bF h)) (fun h => And.intro ((fun h => And.intro ((fun h => And.intro (nF (or_F h).1) (nF (or_F h).2)) (or_F h).1) (nF (or_F h).2)) (or_F h).1) (nF (or_F h).2))) (or_F h).1) ((fun h => (and_F h).imp nF nF) (or_F h).2)) g
     refine ax_q (q_fadr_ptr rfl) ?_
     refine ax_q (q_load1_ptr rfl rfl rfl) ?_
     refine ax_q (q_ibin rfl rfl rfl) ?_
     refine ax_q (q_mov rfl) ?_
     apply ax_and rfl rfl
     ·
      intro g
      have g := dT g
      refine ax_q (q_fadr_ptr rfl) ?_
      refine ax_q (q_load1_ptr rfl rfl rfl) ?_
      refine ax_q (q_sbin rfl rfl rfl) ?_
      exact ax_nil ⟨rfl, by repeat constructor⟩
     exact ax_nil ⟨rfl, by repeat constructor⟩
    refine ax_nil (cx_keep rfl rfl ?_)
    refine cx_cond rfl (fun h3 => ?_) (fun h3 => ?_)
    ·
     have h3 : badS3 x = true := h3
     refine cx_seq (cx_ops ?_)
     refine ax_q (q_mov rfl) ?_
     refine ax_nil (cx_keep rfl rfl ?_)
     refine cx_ret (ret0 rfl rfl ?_)
     exact ⟨by rw [recS_3 h1 h3]; rfl, rfl⟩
    ·
     have h3 : badS3 x = false := h3
     refine cx_skip ?_
     refine cx_keep rfl rfl (cx_seq (cx_ops ?_))
     refine ax_q (q_fadr_ptr rfl) ?_
     refine ax_q (q_load1_ptr rfl rfl rfl) ?_
     refine ax_q (q_ibin rfl rfl rfl) ?_
     refine ax_q (q_fadr_ptr rfl) ?_
     refine ax_q (q_load1_ptr rfl rfl rfl) ?_
     refine ax_q (q_ibin rfl rfl rfl) ?_
     refine ax_q (q_eqb rfl rfl) ?_
     refine ax_q (q_mov rfl) ?_
     refine ax_nil (cx_keep rfl rfl ?_)
     refine cx_ret (ret0 rfl rfl ?_)
     exact ⟨congrArg AM.bool (recS_4 hS h1 h2 h3), rfl⟩


/- loop.example/g00332/spec.PageOK -/
def k_c_sPageOK : XCode :=
 .seq (.ops [.op (some 1) (.box (.t 0)),
   .op (some 2) (.mov (.k (.bool false)))])
 (.keep [1] (.seq (.seq (.ops [.op (some 4) (.fadr (.t 1) 0),
   .op (some 5) (.load1 (.t 4)),
   .call (some 6) 31 [.t 5, .k (.int .i64 0), .k (.int .i64 1000)],
   .op (some 7) (.not (.t 6)),
   .op (some 8) (.mov (.t 7)),
   .andor 13 false 4 8 [.op (some 9) (.fadr (.t 1) 1), .op (some 10) (.load1 (.t 9)), .op (some 11) (.lenS (.t 10)), .op (some 12) (.bin .neq (.t 11) (.k (.int .i64 4)))] (.t 12)])
  (.keep [1, 13] (.cond (.t 13)
  (.seq (.ops [.op (some 2) (.mov (.k (.bool false)))])
   (.keep [2] (.ret)))
  (.skip))))
 (.keep [1] (.seq (.seq (.ops [.op (some 3) (.mov (.k (.int .i64 0)))])
  (.keep [1, 3] (.block 0 (.loop (.seq (.seq (.ops [.op (some 14) (.mov (.t 3)),
     .op (some 15) (.bin .lss (.t 14) (.k (.int .i64 4)))])
   (.keep [1, 3, 15] (.cond (.t 15)
    (.skip)
    (.exit 0))))
   (.keep [1, 3] (.seq (.block 1 (.seq (.ops [.op (some 18) (.fadr (.t 1) 1),
     .op (some 19) (.load1 (.t 18)),
     .op (some 20) (.mov (.t 3)),
     .op (some 21) (.iadr 1 (.t 19) (.t 20)),
     .op (some 22) (.load1 (.t 21)),
     .op (some 23) (.lenT (.t 22)),
     .op (some 24) (.bin .gtr (.t 23) (.k (.int .i64 30)))])
    (.keep [1, 3, 24] (.cond (.t 24)
    (.seq (.ops [.op (some 2) (.mov (.k (.bool false)))])
     (.keep [2] (.ret)))
    (.skip)))))
   (.keep [1, 3] (.ops [.op (some 16) (.mov (.t 3)),
    .op (some 17) (.bin .add (.t 16) (.k (.int .i64 1))),
    .op (some 3) (.mov (.t 17))])))))))))
 (.keep [] (.seq (.ops [.op (some 2) (.mov (.k (.bool true)))])
 (.keep [2] (.ret))))))))
theorem k_c_sPageOK_fits : fitsF Tryz.prog 73 ⟨25, k_c_sPageOK, [.t 2]⟩ = true := by kernel_rfl
theorem c_sPageOK {p : Page} (hl : p.slots.length ≤ 1048576) : Con Tryz.prog noMv 73 [p.av] [] (fun r h => r = bool (pageOK p) ∧ h = []) := by
 refine con_of2 k_c_sPageOK_fits rfl fun C hP hmv => ?_
 unfold k_c_sPageOK
 refine cx_seq (cx_ops ?_)
 refine ax_e (e_box rfl rfl (by decide) rfl rfl rfl) ?_
 refine ax_q (q_mov rfl) ?_
 refine ax_nil (cx_keep rfl rfl (cx_seq (cx_seq (cx_ops ?_))))
 refine ax_q (q_fadr_ptr rfl) ?_
 refine ax_q (q_load1_ptr rfl rfl rfl) ?_
 refine ax_call rfl (vc_pure0 (c_l01In  ) hP rfl rfl ?_)
 refine ax_q (q_not rfl) ?_
 refine ax_q (q_mov rfl) ?_
 apply ax_or rfl rfl
 ·
  intro g
  have g := bF g
  refine ax_q (q_fadr_ptr rfl) ?_
  refine ax_q (q_load1_ptr rfl rfl rfl) ?_
  refine ax_q (q_lenS_map rfl) ?_
  refine ax_q (q_ibin rfl rfl rfl) ?_
  exact ax_nil ⟨rfl, by repeat constructor⟩
 refine ax_nil (cx_keep rfl rfl ?_)
 refine cx_cond rfl (fun h0 => ?_) (fun h0 => ?_)
 ·
  have h0 : hdP p = true := h0
  refine cx_seq (cx_ops ?_)
  refine ax_q (q_mov rfl) ?_
  refine ax_nil (cx_keep rfl rfl ?_)
  refine cx_ret (ret0 rfl rfl ?_)
  exact ⟨by rw [pageOK_hd h0]; rfl, rfl⟩
 ·
  have h0 : hdP p = false := h0
  have h4 := hdP_len h0
  refine cx_skip ?_
  refine cx_keep rfl rfl (cx_seq (cx_seq (cx_ops ?_)))
  refine ax_q (q_mov rfl) ?_
  refine ax_nil (cx_keep rfl rfl (cx_block ?_))
  refine cx_loopU (fun n k => k ≤ 4 ∧ n = 4 - k ∧ ∀ j, j < k → ∀ x, p.slots[j]? = some x → decide ((30 : Int) < (x.length : Int)) = false) (fun k : Nat => [(3, int k)]) (fun _ => [(1, .box [.d (.int .i64 p.lsn), .d (.sl 1 (p.slots.map strRow))])]) ⟨_, 0, ⟨Nat.zero_le _, rfl, fun j hj => by omega⟩, by repeat constructor⟩ ?_
  rintro n k ⟨hk, rfl, hb⟩
  refine cx_seq (cx_seq (cx_ops ?_))
  refine ax_q (q_mov rfl) ?_
  refine ax_q (q_ibin rfl rfl rfl) ?_
  refine ax_nil (cx_keep rfl rfl ?_)
  refine cx_cond rfl (fun h1 => ?_) (fun h1 => ?_)
  ·
   have h1 := dT h1
   have h1x : k < p.slots.length := by omega
   refine cx_skip ?_
   refine cx_keep rfl rfl (cx_seq (cx_block (cx_seq (cx_ops ?_))))
   refine ax_q (q_fadr_ptr rfl) ?_
   refine ax_q (q_load1_ptr rfl rfl rfl) ?_
   refine ax_q (q_mov rfl) ?_
   refine ax_q (q_ix rfl rfl (mapAt h1x)) ?_
   first | refine ax_q (q_load1_ptr rfl rfl rfl) ?_ | refine ax_q (q_load1_ip rfl) ?_
   refine ax_q (q_lenT rfl) ?_
   refine ax_q (q_ibin rfl rfl rfl) ?_
   refine ax_nil (cx_keep rfl rfl ?_)
   refine cx_cond rfl (fun h2 => ?_) (fun h2 => ?_)
   ·
    have h2 : decide ((30 : Int) < (p.slots[k].length : Int)) = true := h2
    refine cx_seq (cx_ops ?_)
    refine ax_q (q_mov rfl) ?_
    refine ax_nil (cx_keep rfl rfl ?_)
    refine cx_ret (ret0 rfl rfl ?_)
    exact ⟨by rw [pageOK_int, any_hit h1x h2, Bool.not_true, Bool.and_false]; rfl, rfl⟩
   ·
    have h2 : decide ((30 : Int) < (p.slots[k].length : Int)) = false := h2
    refine cx_skip ?_
    refine cx_keep rfl rfl (cx_ops ?_)
    refine ax_q (q_mov rfl) ?_
    refine ax_qe (r' := int ((k + 1 : Nat) : Int)) (q_ibin rfl rfl rfl) (by rw [wi (by omega) (by omega)]; rfl) ?_
    refine ax_q (q_mov rfl) ?_
    refine ax_nil ?_
    exact ⟨_, k + 1, by omega, ⟨by omega, rfl, before_step h1x hb h2⟩, by repeat constructor⟩
  ·
   have h1 := dF h1
   have h1x : k = p.slots.length := by omega
   subst h1x
   refine cx_exit rfl ?_
   refine cx_keep rfl rfl (cx_seq (cx_ops ?_))
   refine ax_q (q_mov rfl) ?_
   refine ax_nil (cx_keep rfl rfl ?_)
   refine cx_ret (ret0 rfl rfl ?_)
   exact ⟨by rw [pageOK_int, any_all (fun i hi => hb i (by omega)), hdP_in h0]; rfl, rfl⟩


/- loop.example/g00332/spec.l02Read -/
def k_c_l02Read : XCode :=
 .seq (.ops [.op (some 2) (.box (.t 0)),
   .op (some 4) (.mov (.k (.str [])))])
 (.keep [1, 2] (.seq (.seq (.ops [.op (some 6) (.fadr (.t 2) 1),
   .op (some 7) (.load1 (.t 6)),
   .op (some 8) (.lenS (.t 7)),
   .op (some 9) (.bin .sub (.t 8) (.k (.int .i64 1))),
   .op (some 5) (.mov (.t 9))])
  (.keep [1, 2, 5] (.block 0 (.loop (.seq (.seq (.ops [.op (some 10) (.mov (.t 5)),
     .op (some 11) (.bin .geq (.t 10) (.k (.int .i64 0)))])
   (.keep [1, 2, 5, 11] (.cond (.t 11)
    (.skip)
    (.exit 0))))
   (.keep [1, 2, 5] (.seq (.block 1 (.seq (.ops [.op (some 14) (.fadr (.t 2) 1),
     .op (some 15) (.load1 (.t 14)),
     .op (some 16) (.mov (.t 5)),
     .op (some 17) (.iadr 2 (.t 15) (.t 16)),
     .op (some 18) (.fadr (.t 17) 0),
     .op (some 19) (.load1 (.t 18)),
     .op (some 20) (.mov (.t 1)),
     .op (some 21) (.bin .eql (.t 19) (.t 20))])
    (.keep [1, 2, 5, 21] (.cond (.t 21)
    (.seq (.ops [.op (some 22) (.fadr (.t 2) 1),
      .op (some 23) (.load1 (.t 22)),
      .op (some 24) (.mov (.t 5)),
      .op (some 25) (.iadr 2 (.t 23) (.t 24)),
      .op (some 26) (.fadr (.t 25) 1),
      .op (some 27) (.load1 (.t 26)),
      .op (some 4) (.mov (.t 27))])
     (.keep [4] (.ret)))
    (.skip)))))
   (.keep [1, 2, 5] (.ops [.op (some 12) (.mov (.t 5)),
    .op (some 13) (.bin .sub (.t 12) (.k (.int .i64 1))),
    .op (some 5) (.mov (.t 13))])))))))))
 (.keep [1, 2] (.seq (.ops [.op (some 28) (.fadr (.t 2) 0),
   .op (some 29) (.load1 (.t 28)),
   .op (some 30) (.mov (.t 1)),
   .op (some 31) (.iadr 1 (.t 29) (.t 30)),
   .op (some 32) (.load1 (.t 31)),
   .op (some 4) (.mov (.t 32))])
 (.keep [4] (.ret))))))
theorem k_c_l02Read_fits : fitsF Tryz.prog 125 ⟨33, k_c_l02Read, [.t 4]⟩ = true := by kernel_rfl
theorem c_l02Read {d : GDisk} {i : Nat} (hi : i < d.Sectors.length) (hw0 : d.Sectors.length ≤ 1048576) (hw1 : d.Cache.length ≤ 1048576) (hw2 : d.Keep.length ≤ 1048576) : Con Tryz.prog noMv 125 [d.av, int (i : Nat)] [] (fun r h => r = str (txtD d i) ∧ h = []) := by
 refine con_of2 k_c_l02Read_fits rfl fun C hP hmv => ?_
 unfold k_c_l02Read
 refine cx_seq (cx_ops ?_)
 refine ax_e (e_box rfl rfl (by decide) rfl rfl rfl) ?_
 refine ax_q (q_mov rfl) ?_
 refine ax_nil (cx_keep rfl rfl (cx_seq (cx_seq (cx_ops ?_))))
 refine ax_q (q_fadr_ptr rfl) ?_
 refine ax_q (q_load1_ptr rfl rfl rfl) ?_
 refine ax_q (q_lenS_map rfl) ?_
 refine ax_qe (r' := int ((d.Cache.length : Int) - 1)) (q_ibin rfl rfl rfl) (by rw [wi (by omega) (by omega)]) ?_
 refine ax_q (q_mov rfl) ?_
 refine ax_nil (cx_keep rfl rfl (cx_block ?_))
 refine cx_loopU (fun m j => j ≤ d.Cache.length ∧ m = j ∧ txtD d i = lastW (d.Cache.take j) i (d.Sectors.getD i [])) (fun j : Nat => [(5, int ((j : Int) - 1))]) (fun _ => [(2, .box [.d (.sl 1 (d.Sectors.map strRow)), .d (.sl 2 (d.Cache.map GPending.row)), .d (.bool d.Armed), .d (.sl 1 (d.Keep.map intRow))])]) ⟨_, d.Cache.length, ⟨Nat.le_refl _, rfl, by rw [List.take_length]; rfl⟩, by repeat constructor⟩ ?_
 rintro m j ⟨hj, rfl, he⟩
 refine cx_seq (cx_seq (cx_ops ?_))
 refine ax_q (q_mov rfl) ?_
 refine ax_q (q_ibin rfl rfl rfl) ?_
 refine ax_nil (cx_keep rfl rfl ?_)
 refine cx_cond rfl (fun h0 => ?_) (fun h0 => ?_)
 ·
  have h0 := dT h0
  obtain ⟨m, rfl⟩ : ∃ n2, m = n2 + 1 := ⟨m - 1, by omega⟩
  have hjx : m < d.Cache.length := by omega
  rw [show (((m + 1 : Nat) : Int) - 1) = (m : Int) from by omega]
  refine cx_skip ?_
  refine cx_keep rfl rfl (cx_seq (cx_block (cx_seq (cx_ops ?_))))
  refine ax_q (q_fadr_ptr rfl) ?_
  refine ax_q (q_load1_ptr rfl rfl rfl) ?_
  refine ax_q (q_mov rfl) ?_
  refine ax_q (q_ix rfl rfl (mapAt hjx)) ?_
  first | refine ax_q (q_fadr_ptr rfl) ?_ | refine ax_q (q_fadr_rptr rfl) ?_ | refine ax_q (q_fadr_ip rfl) ?_
  first | refine ax_q (q_load1_ptr rfl rfl rfl) ?_ | refine ax_q (q_load1_ip rfl) ?_
  refine ax_q (q_mov rfl) ?_
  refine ax_q (q_ibin rfl rfl rfl) ?_
  refine ax_nil (cx_keep rfl rfl ?_)
  refine cx_cond rfl (fun h1 => ?_) (fun h1 => ?_)
  ·
   have h1 := dT h1
   refine cx_seq (cx_ops ?_)
   refine ax_q (q_fadr_ptr rfl) ?_
   refine ax_q (q_load1_ptr rfl rfl rfl) ?_
   refine ax_q (q_mov rfl) ?_
   refine ax_q (q_ix rfl rfl (mapAt hjx)) ?_
   first | refine ax_q (q_fadr_ptr rfl) ?_ | refine ax_q (q_fadr_rptr rfl) ?_ | refine ax_q (q_fadr_ip rfl) ?_
   first | refine ax_q (q_load1_ptr rfl rfl rfl) ?_ | refine ax_q (q_load1_ip rfl) ?_
   refine ax_q (q_mov rfl) ?_
   refine ax_nil (cx_keep rfl rfl ?_)
   refine cx_ret (ret0 rfl rfl ?_)
   exact ⟨by rw [he, lastW_yes hjx h1]; rfl, rfl⟩
  ·
   have h1 := dF h1
   refine cx_skip ?_
   refine cx_keep rfl rfl (cx_ops ?_)
   refine ax_q (q_mov rfl) ?_
   refine ax_qe (r' := int ((m : Int) - 1)) (q_ibin rfl rfl rfl) (by rw [wi (by omega) (by omega)]) ?_
   refine ax_q (q_mov rfl) ?_
   refine ax_nil ?_
   exact ⟨_, m, by omega, ⟨by omega, rfl, by rw [he, lastW_no hjx h1]⟩, by repeat constructor⟩
 ·
  have h0 := dF h0
  obtain rfl : m = 0 := by omega
  refine cx_exit rfl ?_
  refine cx_keep rfl rfl (cx_seq (cx_ops ?_))
  refine ax_q (q_fadr_ptr rfl) ?_
  refine ax_q (q_load1_ptr rfl rfl rfl) ?_
  refine ax_q (q_mov rfl) ?_
  refine ax_q (q_ix rfl rfl (mapAtZ (z := []) hi)) ?_
  first | refine ax_q (q_load1_ptr rfl rfl rfl) ?_ | refine ax_q (q_load1_ip rfl) ?_
  refine ax_q (q_mov rfl) ?_
  refine ax_nil (cx_keep rfl rfl ?_)
  refine cx_ret (ret0 rfl rfl ?_)
  exact ⟨by rw [he]; rfl, rfl⟩


/- loop.example/g00332/spec.NewPage -/
def k_c_sNewPage : XCode :=
 .seq (.ops [.op (some 0) (.alloc [.int .i64 0, .nils 1])])
 (.keep [0] (.seq (.ops [.op (some 1) (.mkslice 1 16 [.str []] (.k (.int .i64 4)) (.k (.int .i64 4))),
   .op (some 2) (.build [.int .i64 0, .nils 1] [(1, 1, .t 1)]),
   .op none (.store 2 (.t 0) (.t 2))])
 (.keep [0] (.ret))))
theorem k_c_sNewPage_fits : fitsF Tryz.prog 126 ⟨3, k_c_sNewPage, [.cN 0 2]⟩ = true := by kernel_rfl
theorem c_sNewPage  : Con Tryz.prog noMv 126 [] [] (fun r h => r = (⟨0, [[], [], [], []]⟩ : Page).avO 0 ∧ h = (⟨0, [[], [], [], []]⟩ : Page).hO 0) := by
 refine con_of2 k_c_sNewPage_fits rfl fun C hP hmv => ?_
 unfold k_c_sNewPage
 refine cx_seq (cx_ops ?_)
 refine ax_e (e_alloc (by decide) rfl rfl) ?_
 refine ax_nil (cx_keep rfl rfl (cx_seq (cx_ops ?_)))
 refine ax_e (e_mkslice rfl rfl rfl (by omega) (by omega) (by omega) (by decide) rfl rfl) ?_
 refine ax_q (q_build rfl) ?_
 refine ax_e (e_st rfl rfl rfl rfl rfl rfl rfl) ?_
 refine ax_nil (cx_keep rfl rfl ?_)
 refine cx_ret (retN (fun _ => 0) [1] rfl rfl rfl rfl rfl ?_)
 exact ⟨rfl, rfl⟩


/- loop.example/g00332/spec.l01Of -/
def k_c_l01Of : XCode :=
 .seq (.ops [.op (some 2) (.mov (.k (.int .i64 0)))])
 (.keep [0] (.seq (.ops [.op (some 3) (.mov (.k (.int .i64 0)))])
 (.keep [0, 3] (.seq (.seq (.ops [.op (some 4) (.mov (.k (.int .i64 0)))])
  (.keep [0, 3, 4] (.block 0 (.loop (.seq (.seq (.ops [.op (some 5) (.mov (.t 4)),
     .op (some 6) (.mov (.t 0)),
     .op (some 7) (.lenT (.t 6)),
     .op (some 8) (.bin .lss (.t 5) (.t 7))])
   (.keep [0, 3, 4, 8] (.cond (.t 8)
    (.skip)
    (.exit 0))))
   (.keep [0, 3, 4] (.seq (.block 1 (.ops [.op (some 11) (.mov (.t 3)),
     .op (some 12) (.bin .mul (.t 11) (.k (.int .i64 256))),
     .op (some 13) (.mov (.t 0)),
     .op (some 14) (.mov (.t 4)),
     .op (some 15) (.idxS (.t 13) (.t 14)),
     .op (some 16) (.conv .i64 (.t 15)),
     .op (some 17) (.bin .add (.t 12) (.t 16)),
     .op (some 3) (.mov (.t 17))]))
   (.keep [0, 3, 4] (.ops [.op (some 9) (.mov (.t 4)),
    .op (some 10) (.bin .add (.t 9) (.k (.int .i64 1))),
    .op (some 4) (.mov (.t 10))])))))))))
 (.keep [3] (.seq (.ops [.op (some 18) (.mov (.t 3)),
   .op (some 2) (.mov (.t 18))])
 (.keep [2] (.ret))))))))
theorem k_c_l01Of_fits : fitsF Tryz.prog 168 ⟨19, k_c_l01Of, [.t 2]⟩ = true := by kernel_rfl
theorem c_l01Of {t : Str} (hl : t.length ≤ 4) : Con Tryz.prog noMv 168 [str t] [] (fun r h => r = int (bigN t) ∧ h = []) := by
 refine con_of2 k_c_l01Of_fits rfl fun C hP hmv => ?_
 unfold k_c_l01Of
 refine cx_seq (cx_ops ?_)
 refine ax_q (q_mov rfl) ?_
 refine ax_nil (cx_keep rfl rfl (cx_seq (cx_ops ?_)))
 refine ax_q (q_mov rfl) ?_
 refine ax_nil (cx_keep rfl rfl (cx_seq (cx_seq (cx_ops ?_))))
 refine ax_q (q_mov rfl) ?_
 refine ax_nil (cx_keep rfl rfl (cx_block ?_))
 refine cx_loopU (fun n k => k ≤ t.length ∧ n = t.length - k) (fun k : Nat => [(3, int (bigN (t.take k))), (4, int k)]) (fun _ => []) ⟨_, 0, ⟨Nat.zero_le _, rfl⟩, by repeat constructor⟩ ?_
 rintro n k ⟨hk, rfl⟩
 refine cx_seq (cx_seq (cx_ops ?_))
 refine ax_q (q_mov rfl) ?_
 refine ax_q (q_mov rfl) ?_
 refine ax_q (q_lenT rfl) ?_
 refine ax_q (q_ibin rfl rfl rfl) ?_
 refine ax_nil (cx_keep rfl rfl ?_)
 refine cx_cond rfl (fun h0 => ?_) (fun h0 => ?_)
 ·
  have h0 := dT h0
  have h0x : k < t.length := by omega
  have hlt := bigN_lt3 hl h0x
  have hbt := t[k].toNat_lt
  refine cx_skip ?_
  refine cx_keep rfl rfl (cx_seq (cx_block (cx_ops ?_)))
  refine ax_q (q_mov rfl) ?_
  refine ax_qe (r' := int ((bigN (t.take k) * 256 : Nat) : Int)) (q_ibin rfl rfl rfl) (by rw [wi (by omega) (by omega)]; exact congrArg AM.int (by omega)) ?_
  refine ax_q (q_mov rfl) ?_
  refine ax_q (q_mov rfl) ?_
  refine ax_q (q_idxN rfl rfl h0x) ?_
  refine ax_q (q_convB rfl) ?_
  refine ax_qe (r' := int ((bigN (t.take k) * 256 + t[k].toNat : Nat) : Int)) (q_ibin rfl rfl rfl) (by rw [wi (by omega) (by omega)]; exact congrArg AM.int (by omega)) ?_
  refine ax_q (q_mov rfl) ?_
  refine ax_nil (cx_keep rfl rfl (cx_ops ?_))
  refine ax_q (q_mov rfl) ?_
  refine ax_qe (r' := int ((k + 1 : Nat) : Int)) (q_ibin rfl rfl rfl) (by rw [wi (by omega) (by omega)]; rfl) ?_
  refine ax_q (q_mov rfl) ?_
  refine ax_nil ?_
  exact ⟨_, k + 1, by omega, ⟨by omega, rfl⟩, by rw [bigN_succ h0x]; exact (by repeat constructor)⟩
 ·
  have h0 := dF h0
  obtain rfl : k = t.length := by omega
  rw [List.take_length]
  refine cx_exit rfl ?_
  refine cx_keep rfl rfl (cx_seq (cx_ops ?_))
  refine ax_q (q_mov rfl) ?_
  refine ax_q (q_mov rfl) ?_
  refine ax_nil (cx_keep rfl rfl ?_)
  refine cx_ret (ret0 rfl rfl ?_)
  exact ⟨rfl, rfl⟩


/- loop.example/g00332/spec.l01Check -/
def k_c_l01Check : XCode :=
 .seq (.ops [.op (some 2) (.mov (.k (.int .i64 0)))])
 (.keep [0] (.seq (.ops [.op (some 3) (.mov (.k (.int .i64 4294967295)))])
 (.keep [0, 3] (.seq (.seq (.ops [.op (some 4) (.mov (.k (.int .i64 0)))])
  (.keep [0, 3, 4] (.block 0 (.loop (.seq (.seq (.ops [.op (some 6) (.mov (.t 4)),
     .op (some 7) (.mov (.t 0)),
     .op (some 8) (.lenS (.t 7)),
     .op (some 9) (.bin .lss (.t 6) (.t 8))])
   (.keep [0, 3, 4, 9] (.cond (.t 9)
    (.skip)
    (.exit 0))))
   (.keep [0, 3, 4] (.seq (.block 1 (.seq (.ops [.op (some 12) (.mov (.t 3)),
     .op (some 13) (.mov (.t 0)),
     .op (some 14) (.mov (.t 4)),
     .op (some 15) (.iadr 1 (.t 13) (.t 14)),
     .op (some 16) (.load1 (.t 15)),
     .op (some 17) (.conv .i64 (.t 16)),
     .op (some 18) (.bin .xor (.t 12) (.t 17)),
     .op (some 3) (.mov (.t 18))])
    (.keep [0, 3, 4] (.seq (.ops [.op (some 5) (.mov (.k (.int .i64 0)))])
    (.keep [0, 3, 4, 5] (.block 2 (.loop (.seq (.seq (.ops [.op (some 19) (.mov (.t 5)),
       .op (some 20) (.bin .lss (.t 19) (.k (.int .i64 8)))])
     (.keep [0, 3, 4, 5, 20] (.cond (.t 20)
      (.skip)
      (.exit 2))))
     (.keep [0, 3, 4, 5] (.seq (.block 3 (.ops [.op (some 23) (.mov (.t 3)),
       .op (some 24) (.bin .shr (.t 23) (.k (.int .u64 1))),
       .op (some 25) (.mov (.t 3)),
       .op (some 26) (.bin .and (.t 25) (.k (.int .i64 1))),
       .op (some 27) (.bin .mul (.t 26) (.k (.int .i64 3988292384))),
       .op (some 28) (.bin .xor (.t 24) (.t 27)),
       .op (some 3) (.mov (.t 28))]))
     (.keep [0, 3, 4, 5] (.ops [.op (some 21) (.mov (.t 5)),
      .op (some 22) (.bin .add (.t 21) (.k (.int .i64 1))),
      .op (some 5) (.mov (.t 22))]))))))))))))
   (.keep [0, 3, 4] (.ops [.op (some 10) (.mov (.t 4)),
    .op (some 11) (.bin .add (.t 10) (.k (.int .i64 1))),
    .op (some 4) (.mov (.t 11))])))))))))
 (.keep [3] (.seq (.ops [.op (some 29) (.mov (.t 3)),
   .op (some 30) (.bin .xor (.t 29) (.k (.int .i64 4294967295))),
   .op (some 2) (.mov (.t 30))])
 (.keep [2] (.ret))))))))
theorem k_c_l01Check_fits : fitsF Tryz.prog 170 ⟨31, k_c_l01Check, [.t 2]⟩ = true := by kernel_rfl
theorem c_l01Check {l : Str} (hl : l.length ≤ 1048576) : Con Tryz.prog noMv 170 [.d (.sl 1 (l.map byteRow))] [] (fun r h => r = int (crcN l) ∧ h = []) := by
 refine con_of2 k_c_l01Check_fits rfl fun C hP hmv => ?_
 unfold k_c_l01Check
 refine cx_seq (cx_ops ?_)
 refine ax_q (q_mov rfl) ?_
 refine ax_nil (cx_keep rfl rfl (cx_seq (cx_ops ?_)))
 refine ax_q (q_mov rfl) ?_
 refine ax_nil (cx_keep rfl rfl (cx_seq (cx_seq (cx_ops ?_))))
 refine ax_q (q_mov rfl) ?_
 refine ax_nil (cx_keep rfl rfl (cx_block ?_))
 refine cx_loopU (fun n k => k ≤ l.length ∧ n = l.length - k) (fun k : Nat => [(3, int (crcS (l.take k))), (4, int k)]) (fun _ => []) ⟨_, 0, ⟨Nat.zero_le _, rfl⟩, by repeat constructor⟩ ?_
 rintro n k ⟨hk, rfl⟩
 refine cx_seq (cx_seq (cx_ops ?_))
 refine ax_q (q_mov rfl) ?_
 refine ax_q (q_mov rfl) ?_
 refine ax_q (q_lenS_map rfl) ?_
 refine ax_q (q_ibin rfl rfl rfl) ?_
 refine ax_nil (cx_keep rfl rfl ?_)
 refine cx_cond rfl (fun h0 => ?_) (fun h0 => ?_)
 ·
  have h0 := dT h0
  have h0x : k < l.length := by omega
  have hlt : crcS (l.take k) < 4294967296 := crcS_lt
  have hxb : (crcS (l.take k) ^^^ l[k].toNat) < 4294967296 := xb_lt hlt
  have hc := l[k].toNat_lt
  refine cx_skip ?_
  refine cx_keep rfl rfl (cx_seq (cx_block (cx_seq (cx_ops ?_))))
  refine ax_q (q_mov rfl) ?_
  refine ax_q (q_mov rfl) ?_
  refine ax_q (q_mov rfl) ?_
  refine ax_q (q_ix rfl rfl (mapAt h0x)) ?_
  first | refine ax_q (q_load1_ptr rfl rfl rfl) ?_ | refine ax_q (q_load1_ip rfl) ?_
  refine ax_q (q_convB rfl) ?_
  refine ax_qe (r' := int ((crcS (l.take k) ^^^ l[k].toNat : Nat) : Int)) (q_ibit rfl rfl rfl) (by rw [x64 hlt (by omega)]) ?_
  refine ax_q (q_mov rfl) ?_
  refine ax_nil (cx_keep rfl rfl (cx_seq (cx_ops ?_)))
  refine ax_q (q_mov rfl) ?_
  refine ax_nil (cx_keep rfl rfl (cx_block ?_))
  refine cx_loopU (fun n j => j ≤ 8 ∧ n = 8 - j) (fun j : Nat => [(3, int (bitsN j (crcS (l.take k) ^^^ l[k].toNat))), (5, int j)]) (fun _ => []) ⟨_, 0, ⟨Nat.zero_le _, rfl⟩, by repeat constructor⟩ ?_
  rintro n j ⟨hj, rfl⟩
  refine cx_seq (cx_seq (cx_ops ?_))
  refine ax_q (q_mov rfl) ?_
  refine ax_q (q_ibin rfl rfl rfl) ?_
  refine ax_nil (cx_keep rfl rfl ?_)
  refine cx_cond rfl (fun h1 => ?_) (fun h1 => ?_)
  ·
   have h1 := dT h1
   have hbl : bitsN j (crcS (l.take k) ^^^ l[k].toNat) < 4294967296 := bitsN_lt hxb j
   have hm2 := Nat.mod_lt (bitsN j (crcS (l.take k) ^^^ l[k].toNat)) (show 0 < 2 by omega)
   refine cx_skip ?_
   refine cx_keep rfl rfl (cx_seq (cx_block (cx_ops ?_)))
   refine ax_q (q_mov rfl) ?_
   refine ax_qe (r' := int ((bitsN j (crcS (l.take k) ^^^ l[k].toNat) / 2 : Nat) : Int)) (q_ishf rfl rfl rfl (by omega)) (congrArg AM.int sh1) ?_
   refine ax_q (q_mov rfl) ?_
   refine ax_qe (r' := int ((bitsN j (crcS (l.take k) ^^^ l[k].toNat) % 2 : Nat) : Int)) (q_ibit rfl rfl rfl) (by rw [a64 hbl]) ?_
   refine ax_qe (r' := int ((bitsN j (crcS (l.take k) ^^^ l[k].toNat) % 2 * 3988292384 : Nat) : Int)) (q_ibin rfl rfl rfl) (by rw [wi (by omega) (by omega)]; exact congrArg AM.int (by omega)) ?_
   refine ax_qe (r' := int (bitsN (j + 1) (crcS (l.take k) ^^^ l[k].toNat) : Nat)) (q_ibit rfl rfl rfl) (congrArg AM.int (bit1_x64 hbl)) ?_
   refine ax_q (q_mov rfl) ?_
   refine ax_nil (cx_keep rfl rfl (cx_ops ?_))
   refine ax_q (q_mov rfl) ?_
   refine ax_qe (r' := int ((j + 1 : Nat) : Int)) (q_ibin rfl rfl rfl) (by rw [wi (by omega) (by omega)]; rfl) ?_
   refine ax_q (q_mov rfl) ?_
   refine ax_nil ?_
   exact ⟨_, j + 1, by omega, ⟨by omega, rfl⟩, by repeat constructor⟩
  ·
   have h1 := dF h1
   obtain rfl : j = 8 := by omega
   refine cx_exit rfl ?_
   refine cx_keep rfl rfl (cx_ops ?_)
   refine ax_q (q_mov rfl) ?_
   refine ax_qe (r' := int ((k + 1 : Nat) : Int)) (q_ibin rfl rfl rfl) (by rw [wi (by omega) (by omega)]; rfl) ?_
   refine ax_q (q_mov rfl) ?_
   refine ax_nil ?_
   exact ⟨_, k + 1, by omega, ⟨by omega, rfl⟩, by rw [crcS_succ h0x]; exact (by repeat constructor)⟩
 ·
  have h0 := dF h0
  obtain rfl : k = l.length := by omega
  refine cx_exit rfl ?_
  refine cx_keep rfl rfl (cx_seq (cx_ops ?_))
  refine ax_q (q_mov rfl) ?_
  refine ax_qe (r' := int (crcN l)) (q_ibit rfl rfl rfl) (by rw [List.take_length]; exact congrArg AM.int (x64 (b := 4294967295) crcS_lt (by omega))) ?_
  refine ax_q (q_mov rfl) ?_
  refine ax_nil (cx_keep rfl rfl ?_)
  refine cx_ret (ret0 rfl rfl ?_)
  exact ⟨rfl, rfl⟩


/- loop.example/g00332/spec.l03Unseal -/
def k_c_l03Unseal : XCode :=
 .seq (.ops [.op (some 2) (.mov (.k (.str []))),
   .op (some 3) (.mov (.k (.bool false)))])
 (.keep [0] (.seq (.ops [.op (some 5) (.mov (.t 0)),
   .op (some 6) (.lenT (.t 5)),
   .op (some 7) (.bin .sub (.t 6) (.k (.int .i64 4))),
   .op (some 4) (.mov (.t 7))])
 (.keep [0, 4] (.seq (.seq (.drawC [[], [0], [0, 1], [0, 1, 2], [0, 1, 2], [0, 1, 2, 3, 4], [0, 1, 2, 3, 4, 5], [0, 1, 2, 3, 4, 5, 6], [0, 1, 2], [0, 1, 2], [0, 1, 2, 8, 9], [0, 1, 2, 3, 4, 5, 6, 7, 8, 9, 10], [0, 1, 2, 3, 4, 5, 6, 7, 8, 9, 10, 11], [0, 1, 2, 3, 4, 5, 6, 7, 8, 9, 10, 11, 12]] [.op (some 8) (.mov (.t 4)),
   .op (some 9) (.bin .lss (.t 8) (.k (.int .i64 0))),
   .op (some 10) (.mov (.t 9))]
   [.op (some 11) (.mov (.t 0)),
   .op (some 12) (.mov (.t 4)),
   .op (some 13) (.slcT (.t 11) none (some (.t 12))),
   .op (some 14) (.s2b (.t 13)),
   .call (some 15) 170 [.t 14],
   .op (some 16) (.mov (.t 0)),
   .op (some 17) (.mov (.t 4)),
   .op (some 18) (.slcT (.t 16) (some (.t 17)) none)]
   [.andor 21 false 2 10 [.call (some 19) 168 [.t 18], .op (some 20) (.bin .neq (.t 15) (.t 19))] (.t 20)] 2 false 10)
  (.keep [0, 4, 21] (.cond (.t 21)
  (.seq (.ops [.op (some 2) (.mov (.k (.str []))),
    .op (some 3) (.mov (.k (.bool false)))])
   (.keep [2, 3] (.ret)))
  (.skip))))
 (.keep [0, 4] (.seq (.ops [.op (some 22) (.mov (.t 0)),
   .op (some 23) (.mov (.t 4)),
   .op (some 24) (.slcT (.t 22) none (some (.t 23))),
   .op (some 2) (.mov (.t 24)),
   .op (some 3) (.mov (.k (.bool true)))])
 (.keep [2, 3] (.ret))))))))
theorem k_c_l03Unseal_fits : fitsF Tryz.prog 166 ⟨25, k_c_l03Unseal, [.t 2, .t 3]⟩ = true := by kernel_rfl
set_option maxHeartbeats 4000000 in
theorem c_l03Unseal {t : Str} (hl : t.length ≤ 1048576) : Con Tryz.prog noMv 166 [str t] [] (fun r h => r = .tup [.d (.str (unsealF t).1), bool (unsealF t).2] ∧ h = []) := by
 refine con_of2 k_c_l03Unseal_fits rfl fun C hP hmv => ?_
 unfold k_c_l03Unseal
 refine cx_seq (cx_ops ?_)
 refine ax_q (q_mov rfl) ?_
 refine ax_q (q_mov rfl) ?_
 refine ax_nil (cx_keep rfl rfl (cx_seq (cx_ops ?_)))
 refine ax_q (q_mov rfl) ?_
 refine ax_q (q_lenT rfl) ?_
 refine ax_qe (r' := int ((t.length : Int) - 4)) (q_ibin rfl rfl rfl) (by rw [wi (by omega) (by omega)]) ?_
 refine ax_q (q_mov rfl) ?_
 refine ax_nil (cx_keep rfl rfl (cx_seq (cx_seq ?_)))
 refine cx_drawC (t := decide ((t.length : Int) - 4 < 0)) (fun g => ?_) (fun g => ?_)
 ·
  have g2 := dF g
  have hcl := @crcN_lt (t.take (t.length - 4))
  refine ⟨_, loc_q (q_mov rfl), ?_⟩
  refine ⟨_, loc_q (q_ibin rfl rfl rfl), ?_⟩
  refine ⟨_, loc_q (q_mov rfl), ?_⟩
  refine ⟨_, loc_q (q_mov rfl), ?_⟩
  refine ⟨_, loc_q (q_mov rfl), ?_⟩
  refine ⟨_, loc_qe (r' := .d (.str (t.take (t.length - 4)))) (q_slcT rfl rfl rfl (by omega) (by omega) (by omega)) (slcT_take (by omega)), ?_⟩
  refine ⟨_, loc_s2b rfl, ?_⟩
  refine ⟨_, loc_call (fun i => 15 + 200 * i) true rfl (c_l01Check (l := t.take (t.length - 4)) (by simp; omega)) hP (.inl ⟨rfl, .cons (.lend (lend_whole rfl (by simp))) .nil⟩) rfl rfl (fun _ => ⟨rfl, noisl_of trivial⟩), ?_⟩
  refine ⟨_, loc_q (q_mov rfl), ?_⟩
  refine ⟨_, loc_q (q_mov rfl), ?_⟩
  refine ⟨_, loc_qe (r' := .d (.str (t.drop (t.length - 4)))) (q_slcT rfl rfl rfl (by omega) (by omega) (by omega)) (slcT_drop (by omega)), ?_⟩
  refine ⟨⟨rfl, rfl⟩, ?_⟩
  apply ax_or rfl rfl
  ·
   intro g
   have g := dF g
   refine ax_call rfl (vc_pure0 (c_l01Of (t := t.drop (t.length - 4)) ?_) hP rfl rfl ?_)
   ·
    first | assumption | omega | (simp; done) | (simp; omega)
   refine ax_q (q_ibin rfl rfl rfl) ?_
   exact ax_nil ⟨rfl, by repeat constructor⟩
  refine ax_nil (cx_keep rfl rfl ?_)
  refine cx_cond rfl (fun h0 => ?_) (fun h0 => ?_)
  ·
   have h0 := (fun h => (or_T h).imp dT nT) h0
   refine cx_seq (cx_ops ?_)
   refine ax_q (q_mov rfl) ?_
   refine ax_q (q_mov rfl) ?_
   refine ax_nil (cx_keep rfl rfl ?_)
   refine cx_ret (ret0 rfl rfl ?_)
   exact ⟨by rw [unseal_1 h0]; rfl, rfl⟩
  ·
   have h0 := (fun h => And.intro (dF (or_F h).1) (nF (or_F h).2)) h0
   refine cx_skip ?_
   refine cx_keep rfl rfl (cx_seq (cx_ops ?_))
   refine ax_q (q_mov rfl) ?_
   refine ax_q (q_mov rfl) ?_
   refine ax_qe (r' := .d (.str (t.take (t.length - 4)))) (q_slcT rfl rfl rfl (by omega) (by omega) (by omega)) (slcT_take (by omega)) ?_
   refine ax_q (q_mov rfl) ?_
   refine ax_q (q_mov rfl) ?_
   refine ax_nil (cx_keep rfl rfl ?_)
   refine cx_ret (ret0 rfl rfl ?_)
   exact ⟨by rw [unseal_2 (fun h => h.elim h0.1 (fun q => q h0.2))]; rfl, rfl⟩
 ·
  have g2 := dT (bool_nf g)
  refine ⟨_, loc_q (q_mov rfl), ?_⟩
  refine ⟨_, loc_q (q_ibin rfl rfl rfl), ?_⟩
  refine ⟨_, loc_q (q_mov rfl), ?_⟩
  refine ⟨⟨⟨rfl, rfl⟩, rfl, rfl⟩, ?_⟩
  refine ax_or (y := false) rfl rfl (fun h => absurd h g) ?_
  refine ax_nil (cx_keep rfl rfl ?_)
  refine cx_cond rfl (fun h0 => ?_) (fun h0 => ?_)
  ·
   skip
   refine cx_seq (cx_ops ?_)
   refine ax_q (q_mov rfl) ?_
   refine ax_q (q_mov rfl) ?_
   refine ax_nil (cx_keep rfl rfl ?_)
   refine cx_ret (ret0 rfl rfl ?_)
   exact ⟨by rw [unseal_1 (.inl g2)]; rfl, rfl⟩
  ·
   skip
   rw [decide_eq_true g2] at h0; cases h0


/- loop.example/g00332/spec.l01Read -/
def k_c_l01Read : XCode :=
 .seq (.ops [.op (some 2) (.mov (.k (.nils 1))),
   .op (some 3) (.mov (.k (.bool false)))])
 (.keep [0] (.seq (.ops [.op (some 8) (.bslice 1 []),
   .op (some 4) (.mov (.t 8))])
 (.keep [0, 4] (.seq (.seq (.ops [.op (some 9) (.mov (.t 0)),
   .op (some 10) (.bin .eql (.t 9) (.k (.str []))),
   .op (some 11) (.mov (.t 10)),
   .andor 15 false 2 11 [.op (some 12) (.mov (.t 0)), .op (some 13) (.idxS (.t 12) (.k (.int .i64 0))), .op (some 14) (.bin .gtr (.t 13) (.k (.int .u8 100)))] (.t 14)])
  (.keep [0, 4, 15] (.cond (.t 15)
  (.seq (.ops [.op (some 16) (.mov (.t 4)),
    .op (some 2) (.mov (.t 16)),
    .op (some 3) (.mov (.k (.bool false)))])
   (.keep [2, 3] (.ret)))
  (.skip))))
 (.keep [0, 4] (.seq (.ops [.op (some 5) (.mov (.k (.int .i64 1)))])
 (.keep [0, 4, 5] (.seq (.seq (.ops [.op (some 17) (.mov (.t 0)),
   .op (some 18) (.idxS (.t 17) (.k (.int .i64 0))),
   .op (some 19) (.conv .i64 (.t 18)),
   .op (some 6) (.mov (.t 19))])
  (.keep [0, 4, 5, 6] (.block 0 (.loop (.seq (.seq (.ops [.op (some 20) (.mov (.t 6)),
     .op (some 21) (.bin .gtr (.t 20) (.k (.int .i64 0)))])
   (.keep [0, 4, 5, 6, 21] (.cond (.t 21)
    (.skip)
    (.exit 0))))
   (.keep [0, 4, 5, 6] (.seq (.block 1 (.seq (.seq (.ops [.op (some 24) (.mov (.t 5)),
      .op (some 25) (.mov (.t 0)),
      .op (some 26) (.lenT (.t 25)),
      .op (some 27) (.bin .geq (.t 24) (.t 26)),
      .op (some 28) (.mov (.t 27)),
      .andor 39 false 4 28 [.op (some 29) (.mov (.t 5)), .op (some 30) (.bin .add (.t 29) (.k (.int .i64 1))), .op (some 31) (.mov (.t 0)), .op (some 32) (.mov (.t 5)), .op (some 33) (.idxS (.t 31) (.t 32)), .op (some 34) (.conv .i64 (.t 33)), .op (some 35) (.bin .add (.t 30) (.t 34)), .op (some 36) (.mov (.t 0)), .op (some 37) (.lenT (.t 36)), .op (some 38) (.bin .gtr (.t 35) (.t 37))] (.t 38)])
    (.keep [0, 4, 5, 6, 39] (.cond (.t 39)
     (.seq (.ops [.op (some 40) (.bslice 1 []),
       .op (some 2) (.mov (.t 40)),
       .op (some 3) (.mov (.k (.bool false)))])
     (.keep [2, 3] (.ret)))
     (.skip))))
    (.keep [0, 4, 5, 6] (.seq (.ops [.op (some 41) (.mov (.t 0)),
     .op (some 42) (.mov (.t 5)),
     .op (some 43) (.idxS (.t 41) (.t 42)),
     .op (some 44) (.conv .i64 (.t 43)),
     .op (some 7) (.mov (.t 44))])
    (.keep [0, 4, 5, 6, 7] (.seq (.ops [.op (some 45) (.mov (.t 4)),
     .op (some 46) (.mov (.t 0)),
     .op (some 47) (.mov (.t 5)),
     .op (some 48) (.bin .add (.t 47) (.k (.int .i64 1))),
     .op (some 49) (.mov (.t 5)),
     .op (some 50) (.bin .add (.t 49) (.k (.int .i64 1))),
     .op (some 51) (.mov (.t 7)),
     .op (some 52) (.bin .add (.t 50) (.t 51)),
     .op (some 53) (.slcT (.t 46) (some (.t 48)) (some (.t 52))),
     .op (some 54) (.bslice 1 [.t 53]),
     .op (some 55) (.app 1 16 [.str []] (.t 45) (.t 54)),
     .op (some 4) (.mov (.t 55))])
    (.keep [0, 4, 5, 6, 7] (.ops [.op (some 56) (.mov (.t 5)),
     .op (some 57) (.mov (.t 7)),
     .op (some 58) (.bin .add (.k (.int .i64 1)) (.t 57)),
     .op (some 59) (.bin .add (.t 56) (.t 58)),
     .op (some 5) (.mov (.t 59))]))))))))
   (.keep [0, 4, 5, 6] (.ops [.op (some 22) (.mov (.t 6)),
    .op (some 23) (.bin .sub (.t 22) (.k (.int .i64 1))),
    .op (some 6) (.mov (.t 23))])))))))))
 (.keep [0, 4, 5] (.seq (.seq (.ops [.op (some 60) (.mov (.t 5)),
   .op (some 61) (.mov (.t 0)),
   .op (some 62) (.lenT (.t 61)),
   .op (some 63) (.bin .neq (.t 60) (.t 62))])
  (.keep [4, 63] (.cond (.t 63)
  (.seq (.ops [.op (some 64) (.bslice 1 []),
    .op (some 2) (.mov (.t 64)),
    .op (some 3) (.mov (.k (.bool false)))])
   (.keep [2, 3] (.ret)))
  (.skip))))
 (.keep [4] (.seq (.ops [.op (some 65) (.mov (.t 4)),
   .op (some 2) (.mov (.t 65)),
   .op (some 3) (.mov (.k (.bool true)))])
 (.keep [2, 3] (.ret))))))))))))))
theorem k_c_l01Read_fits : fitsF Tryz.prog 167 ⟨66, k_c_l01Read, [.t 2, .t 3]⟩ = true := by kernel_rfl
theorem c_l01Read {s : Str} (hl : s.length ≤ 1048576) : Con Tryz.prog noMv 167 [str s] [] (fun r h => r = .tup [.d (.sl 1 ((l01F s).1.map strRow)), bool (l01F s).2] ∧ h = []) := by
 refine con_of2 k_c_l01Read_fits rfl fun C hP hmv => ?_
 unfold k_c_l01Read
 refine cx_seq (cx_ops ?_)
 refine ax_q (q_mov rfl) ?_
 refine ax_q (q_mov rfl) ?_
 refine ax_nil (cx_keep rfl rfl (cx_seq (cx_ops ?_)))
 refine ax_e (e_bslice rfl (by decide) rfl rfl) ?_
 refine ax_q (q_mov rfl) ?_
 refine ax_nil (cx_keep rfl rfl (cx_seq (cx_seq (cx_ops ?_))))
 refine ax_q (q_mov rfl) ?_
 refine ax_q (q_sbin rfl rfl rfl) ?_
 refine ax_q (q_mov rfl) ?_
 apply ax_or rfl rfl
 ·
  intro g
  have g := dF g
  have h0s : 0 < s.length := List.length_pos_iff.2 g
  refine ax_q (q_mov rfl) ?_
  refine ax_qe (r' := .d (.int .u8 ((getN s 0 : Nat) : Int))) (q_idxN (n := 0) rfl rfl (by omega)) (by rw [getN_at (by omega)]) ?_
  refine ax_q (q_ibin rfl rfl rfl) ?_
  exact ax_nil ⟨rfl, by repeat constructor⟩
 refine ax_nil (cx_keep rfl rfl ?_)
 refine cx_cond rfl (fun h0 => ?_) (fun h0 => ?_)
 ·
  have h0 := (fun h => (or_T h).imp dT dT) h0
  refine cx_seq (cx_ops ?_)
  refine ax_q (q_mov rfl) ?_
  refine ax_q (q_mov rfl) ?_
  refine ax_q (q_mov rfl) ?_
  refine ax_nil (cx_keep rfl rfl ?_)
  refine cx_wk (wk_frz 2 8 rfl rfl (.whole (by simp)) rfl) ?_
  refine cx_ret (ret0 rfl rfl ?_)
  rw [l01_bad h0]; exact ⟨rfl, rfl⟩
 ·
  have h0 := (fun h => And.intro (dF (or_F h).1) (dF (or_F h).2)) h0
  have h0s : 0 < s.length := List.length_pos_iff.2 h0.1
  have hgo := l01_go h0
  have hg0 := @getN_lt s 0
  refine cx_skip ?_
  refine cx_keep rfl rfl (cx_seq (cx_ops ?_))
  refine ax_q (q_mov rfl) ?_
  refine ax_nil (cx_keep rfl rfl (cx_seq (cx_seq (cx_ops ?_))))
  refine ax_q (q_mov rfl) ?_
  refine ax_qe (r' := .d (.int .u8 ((getN s 0 : Nat) : Int))) (q_idxN (n := 0) rfl rfl (by omega)) (by rw [getN_at (by omega)]) ?_
  refine ax_qe (r' := int ((getN s 0 : Nat) : Int)) (q_convI rfl (by have := @getN_lt s 0; omega)) (rfl) ?_
  refine ax_q (q_mov rfl) ?_
  refine ax_nil (cx_keep rfl rfl (cx_block ?_))
  refine cx_loopU (fun m (p : Nat × Nat × List Str) => m = p.1 ∧ 1 ≤ p.2.1 ∧ p.2.1 ≤ s.length ∧ p.2.2.length + p.1 ≤ 255 ∧ loopR p.1 (s.drop p.2.1) p.2.2 = l01F s) (fun p => [(6, int (p.1 : Nat)), (5, int (p.2.1 : Nat)), (4, .osl 8 1 0 p.2.2.length)]) (fun p => [(8, .rows 1 (p.2.2.map strRow))])
   ⟨_, (getN s 0, 1, []), ⟨rfl, Nat.le_refl _, by simp only; omega, by simp only [List.length_nil]; omega, hgo⟩, by repeat constructor⟩ ?_
  rintro m ⟨n, pos, l⟩ ⟨rfl, hp1, hp, hn, he⟩
  simp only at hp1 hp hn he ⊢
  refine cx_seq (cx_seq (cx_ops ?_))
  refine ax_q (q_mov rfl) ?_
  refine ax_q (q_ibin rfl rfl rfl) ?_
  refine ax_nil (cx_keep rfl rfl ?_)
  refine cx_cond rfl (fun h1 => ?_) (fun h1 => ?_)
  ·
   have h1 := dT h1
   obtain ⟨m, rfl⟩ : ∃ n2, m = n2 + 1 := ⟨m - 1, by omega⟩
   have hgl := @getN_lt s pos
   refine cx_skip ?_
   refine cx_keep rfl rfl (cx_seq (cx_block (cx_seq (cx_seq (cx_ops ?_)))))
   refine ax_q (q_mov rfl) ?_
   refine ax_q (q_mov rfl) ?_
   refine ax_q (q_lenT rfl) ?_
   refine ax_q (q_ibin rfl rfl rfl) ?_
   refine ax_q (q_mov rfl) ?_
   apply ax_or rfl rfl
   ·
    intro g
    have g := dF g
    refine ax_q (q_mov rfl) ?_
    refine ax_qe (r' := int ((pos + 1 : Nat) : Int)) (q_ibin rfl rfl rfl) (by rw [wi (by omega) (by omega)]; rfl) ?_
    refine ax_q (q_mov rfl) ?_
    refine ax_q (q_mov rfl) ?_
    refine ax_qe (r' := .d (.int .u8 ((getN s pos : Nat) : Int))) (q_idxN rfl rfl (by omega)) (by rw [getN_at (by omega)]) ?_
    refine ax_qe (r' := int ((getN s pos : Nat) : Int)) (q_convI rfl (by have := @getN_lt s pos; omega)) (rfl) ?_
    refine ax_qe (r' := int ((pos + 1 + getN s pos : Nat) : Int)) (q_ibin rfl rfl rfl) (by rw [wi (by omega) (by omega)]; rfl) ?_
    refine ax_q (q_mov rfl) ?_
    refine ax_q (q_lenT rfl) ?_
    refine ax_q (q_ibin rfl rfl rfl) ?_
    exact ax_nil ⟨rfl, by repeat constructor⟩
   refine ax_nil (cx_keep rfl rfl ?_)
   refine cx_cond rfl (fun h2 => ?_) (fun h2 => ?_)
   ·
    have h2 := (fun h => (or_T h).imp dT dT) h2
    refine cx_seq (cx_ops ?_)
    refine ax_e (e_bslice rfl (by decide) rfl rfl) ?_
    refine ax_q (q_mov rfl) ?_
    refine ax_q (q_mov rfl) ?_
    refine ax_nil (cx_keep rfl rfl ?_)
    refine cx_wk (wk_frz 2 40 rfl rfl (.whole (by simp)) rfl) ?_
    refine cx_ret (ret0 rfl rfl ?_)
    have e : l01F s = ([], false) := by rw [← he]; exact loopR_bad h2
    rw [e]; exact ⟨rfl, rfl⟩
   ·
    have h2 := (fun h => And.intro (dF (or_F h).1) (dF (or_F h).2)) h2
    have hst := loopR_go (n := m) (l := l) (pos := pos) (s := s) (by omega) (by omega)
    refine cx_skip ?_
    refine cx_keep rfl rfl (cx_seq (cx_ops ?_))
    refine ax_q (q_mov rfl) ?_
    refine ax_q (q_mov rfl) ?_
    refine ax_qe (r' := .d (.int .u8 ((getN s pos : Nat) : Int))) (q_idxN rfl rfl (by omega)) (by rw [getN_at (by omega)]) ?_
    refine ax_qe (r' := int ((getN s pos : Nat) : Int)) (q_convI rfl (by have := @getN_lt s pos; omega)) (rfl) ?_
    refine ax_q (q_mov rfl) ?_
    refine ax_nil (cx_keep rfl rfl (cx_seq (cx_ops ?_)))
    refine ax_q (q_mov rfl) ?_
    refine ax_q (q_mov rfl) ?_
    refine ax_q (q_mov rfl) ?_
    refine ax_qe (r' := int ((pos + 1 : Nat) : Int)) (q_ibin rfl rfl rfl) (by rw [wi (by omega) (by omega)]; rfl) ?_
    refine ax_q (q_mov rfl) ?_
    refine ax_qe (r' := int ((pos + 1 : Nat) : Int)) (q_ibin rfl rfl rfl) (by rw [wi (by omega) (by omega)]; rfl) ?_
    refine ax_q (q_mov rfl) ?_
    refine ax_qe (r' := int ((pos + 1 + getN s pos : Nat) : Int)) (q_ibin rfl rfl rfl) (by rw [wi (by omega) (by omega)]; rfl) ?_
    refine ax_qe (r' := .d (.str ((s.drop (pos + 1)).take (getN s pos)))) (q_slcT rfl rfl rfl (by omega) (by omega) (by omega)) (slcT_mid (by omega) (by omega)) ?_
    refine ax_e (e_bsliceD (rows := [strRow ((s.drop (pos + 1)).take (getN s pos))]) rfl) ?_
    refine ax_e (e_appn (n' := (l ++ [((s.drop (pos + 1)).take (getN s pos))]).length) (rs' := (l ++ [((s.drop (pos + 1)).take (getN s pos))]).map strRow) rfl rfl (by simp) rfl (src_sl 1 _) (.inl (by decide)) (hbnd (by omega) (by simp) (by decide)) (by simp) app_one) ?_
    refine ax_q (q_mov rfl) ?_
    refine ax_nil (cx_keep rfl rfl (cx_ops ?_))
    refine ax_q (q_mov rfl) ?_
    refine ax_q (q_mov rfl) ?_
    refine ax_qe (r' := int ((1 + getN s pos : Nat) : Int)) (q_ibin rfl rfl rfl) (by rw [wi (by omega) (by omega)]; rfl) ?_
    refine ax_qe (r' := int ((pos + 1 + getN s pos : Nat) : Int)) (q_ibin rfl rfl rfl) (by rw [wi (by omega) (by omega)]; exact congrArg AM.int (by omega)) ?_
    refine ax_q (q_mov rfl) ?_
    refine ax_nil (cx_keep rfl rfl (cx_ops ?_))
    refine ax_q (q_mov rfl) ?_
    refine ax_qe (r' := int ((m : Nat) : Int)) (q_ibin rfl rfl rfl) (by rw [wi (by omega) (by omega)]; exact congrArg AM.int (by omega)) ?_
    refine ax_q (q_mov rfl) ?_
    refine ax_nil ?_
    exact ⟨_, (m, pos + 1 + getN s pos, l ++ [((s.drop (pos + 1)).take (getN s pos))]), by omega, ⟨rfl, by simp only; omega, by simp only; omega, by simp only [List.length_append, List.length_singleton]; omega, by rw [← hst]; exact he⟩, by repeat constructor⟩
  ·
   have h1 := dF h1
   obtain rfl : m = 0 := by omega
   refine cx_exit rfl ?_
   refine cx_keep rfl rfl (cx_seq (cx_seq (cx_ops ?_)))
   refine ax_q (q_mov rfl) ?_
   refine ax_q (q_mov rfl) ?_
   refine ax_q (q_lenT rfl) ?_
   refine ax_q (q_ibin rfl rfl rfl) ?_
   refine ax_nil (cx_keep rfl rfl ?_)
   refine cx_cond rfl (fun h3 => ?_) (fun h3 => ?_)
   ·
    have h3 := nT h3
    refine cx_seq (cx_ops ?_)
    refine ax_e (e_bslice rfl (by decide) rfl rfl) ?_
    refine ax_q (q_mov rfl) ?_
    refine ax_q (q_mov rfl) ?_
    refine ax_nil (cx_keep rfl rfl ?_)
    refine cx_wk (wk_frz 2 64 rfl rfl (.whole (by simp)) rfl) ?_
    refine cx_ret (ret0 rfl rfl ?_)
    have e : l01F s = ([], false) := by rw [← he]; exact loopR_0f (by omega)
    rw [e]; exact ⟨rfl, rfl⟩
   ·
    have h3 := nF h3
    refine cx_skip ?_
    refine cx_keep rfl rfl (cx_seq (cx_ops ?_))
    refine ax_q (q_mov rfl) ?_
    refine ax_q (q_mov rfl) ?_
    refine ax_q (q_mov rfl) ?_
    refine ax_nil (cx_keep rfl rfl ?_)
    refine cx_wk (wk_frz 2 8 rfl rfl (.whole (by simp)) rfl) ?_
    refine cx_ret (ret0 rfl rfl ?_)
    have e : l01F s = (l, true) := by rw [← he]; exact loopR_0t (by omega)
    rw [e]; exact ⟨rfl, rfl⟩


/- loop.example/g00332/spec.l03Read -/
def k_c_l03Read : XCode :=
 .seq (.ops [.op (some 4) (.alloc [.int .i64 0, .nils 1]),
   .op (some 5) (.mov (.k (.bool false)))])
 (.keep [0, 1, 4] (.seq (.ops [.op (some 12) (.mov (.t 1)),
   .call (some 13) 166 [.t 12],
   .op (some 11) (.mov (.t 13)),
   .op (some 14) (.ext (.t 11) 0),
   .op (some 15) (.ext (.t 11) 1),
   .op (some 6) (.mov (.t 14)),
   .op (some 7) (.mov (.t 15))])
 (.keep [0, 4, 6, 7] (.seq (.seq (.ops [.op (some 16) (.mov (.t 7)),
   .op (some 17) (.not (.t 16)),
   .op (some 18) (.mov (.t 17)),
   .andor 22 false 2 18 [.op (some 19) (.mov (.t 6)), .op (some 20) (.lenT (.t 19)), .op (some 21) (.bin .lss (.t 20) (.k (.int .i64 5)))] (.t 21),
   .op (some 23) (.mov (.t 22)),
   .andor 27 false 7 23 [.op (some 24) (.mov (.t 6)), .op (some 25) (.idxS (.t 24) (.k (.int .i64 0))), .op (some 26) (.bin .neq (.t 25) (.k (.int .u8 112)))] (.t 26),
   .op (some 28) (.mov (.t 27)),
   .andor 34 false 12 28 [.op (some 29) (.mov (.t 6)), .op (some 30) (.idxS (.t 29) (.k (.int .i64 1))), .op (some 31) (.conv .i64 (.t 30)), .op (some 32) (.mov (.t 0)), .op (some 33) (.bin .neq (.t 31) (.t 32))] (.t 33)])
  (.keep [4, 6, 34] (.cond (.t 34)
  (.seq (.ops [.op (some 35) (.build [.int .i64 0, .nils 1] []),
    .op none (.store 2 (.t 4) (.t 35)),
    .op (some 5) (.mov (.k (.bool false)))])
   (.keep [4, 5] (.ret)))
  (.skip))))
 (.keep [4, 6] (.seq (.ops [.op (some 37) (.mov (.t 6)),
   .op (some 38) (.slcT (.t 37) (some (.k (.int .i64 4))) none),
   .call (some 39) 167 [.t 38],
   .op (some 36) (.mov (.t 39)),
   .op (some 40) (.ext (.t 36) 0),
   .op (some 41) (.ext (.t 36) 1),
   .op (some 8) (.mov (.t 40)),
   .op (some 9) (.mov (.t 41))])
 (.keep [4, 6, 8, 9] (.seq (.ops [.op (some 42) (.mov (.t 6)),
   .op (some 43) (.slcT (.t 42) (some (.k (.int .i64 2))) (some (.k (.int .i64 4)))),
   .call (some 44) 168 [.t 43],
   .op (some 45) (.mov (.t 8)),
   .op (some 46) (.build [.int .i64 0, .nils 1] [(0, 1, .t 44), (1, 1, .t 45)]),
   .op (some 10) (.alloc [.int .i64 0, .nils 1]),
   .op none (.store 2 (.t 10) (.t 46))])
 (.keep [4, 9, 10] (.seq (.drawS [[], [], [1], [1, 2], [1, 2, 3], [1, 2, 3, 4], [0, 1, 2, 3, 4], [0, 1, 2, 3, 4, 5, 6]] [.op (some 47) (.loadN 2 (.t 10)),
   .op (some 48) (.mov (.t 9)),
   .op (some 49) (.mov (.t 48)),
   .andor 52 true 2 49 [.op (some 50) (.loadN 2 (.t 10)), .call (some 51) 73 [.t 50]] (.t 51)]
  [.op none (.store 2 (.t 4) (.t 47)),
   .op (some 5) (.mov (.t 52))])
 (.keep [4, 5] (.ret))))))))))))
theorem k_c_l03Read_fits : fitsF Tryz.prog 127 ⟨53, k_c_l03Read, [.cN 4 2, .t 5]⟩ = true := by kernel_rfl
set_option maxHeartbeats 4000000 in
theorem c_l03Read {no : Int} {t : Str} (hl : t.length ≤ 65536) : Con Tryz.prog noMv 127 [int no, str t] [] (fun r h => r = .tup [(l3F no t).1.av, bool (l3F no t).2] ∧ h = []) := by
 refine con_of2 k_c_l03Read_fits rfl fun C hP hmv => ?_
 unfold k_c_l03Read
 refine cx_seq (cx_ops ?_)
 refine ax_e (e_alloc (by decide) rfl rfl) ?_
 refine ax_q (q_mov rfl) ?_
 refine ax_nil (cx_keep rfl rfl (cx_seq (cx_ops ?_)))
 refine ax_q (q_mov rfl) ?_
 refine ax_call rfl (vc_pure0 (c_l03Unseal (t := t) ?_) hP rfl rfl ?_)
 ·
  first | assumption | omega
 have hul := @unseal_len t
 refine ax_q (q_mov rfl) ?_
 refine ax_q (q_ext rfl rfl) ?_
 refine ax_q (q_ext rfl rfl) ?_
 refine ax_q (q_mov rfl) ?_
 refine ax_q (q_mov rfl) ?_
 refine ax_nil (cx_keep rfl rfl (cx_seq (cx_seq (cx_ops ?_))))
 refine ax_q (q_mov rfl) ?_
 refine ax_q (q_not rfl) ?_
 refine ax_q (q_mov rfl) ?_
 apply ax_or rfl rfl
 ·
  intro g
  have g := bF g
  refine ax_q (q_mov rfl) ?_
  refine ax_q (q_lenT rfl) ?_
  refine ax_q (q_ibin rfl rfl rfl) ?_
  exact ax_nil ⟨rfl, by repeat constructor⟩
 refine ax_q (q_mov rfl) ?_
 apply ax_or rfl rfl
 ·
  intro g
  have g := (fun h => And.intro (bF (or_F h).1) (dF (or_F h).2)) g
  have g9 := g.2
  refine ax_q (q_mov rfl) ?_
  refine ax_qe (r' := .d (.int .u8 ((getN (unsealF t).1 0 : Nat) : Int))) (q_idxN (n := 0) rfl rfl (by omega)) (by rw [getN_at (by omega)]) ?_
  refine ax_q (q_ibin rfl rfl rfl) ?_
  exact ax_nil ⟨rfl, by repeat constructor⟩
 refine ax_q (q_mov rfl) ?_
 apply ax_or rfl rfl
 ·
  intro g
  have g := (fun h => And.intro ((fun h => And.intro (bF (or_F h).1) (dF (or_F h).2)) (or_F h).1) (nF (or_F h).2)) g
  have g9 := g.1.2
  refine ax_q (q_mov rfl) ?_
  refine ax_qe (r' := .d (.int .u8 ((getN (unsealF t).1 1 : Nat) : Int))) (q_idxN (n := 1) rfl rfl (by omega)) (by rw [getN_at (by omega)]) ?_
  refine ax_qe (r' := int ((getN (unsealF t).1 1 : Nat) : Int)) (q_convI rfl (by have := @getN_lt (unsealF t).1 1; omega)) (rfl) ?_
  refine ax_q (q_mov rfl) ?_
  refine ax_q (q_ibin rfl rfl rfl) ?_
  exact ax_nil ⟨rfl, by repeat constructor⟩
 refine ax_nil (cx_keep rfl rfl ?_)
 refine cx_cond rfl (fun h0 => ?_) (fun h0 => ?_)
 ·
  have h0 : bad3 no t = true := h0
  refine cx_seq (cx_ops ?_)
  refine ax_q (q_build rfl) ?_
  refine ax_wk (wk_virt 903 1 rfl rfl rfl) ?_
  refine ax_wk (wk_zs 35 903 [1] rfl rfl) ?_
  refine ax_wk (wk_frz 35 903 rfl rfl (.agg (.cons (.same rfl) (.cons (.whole rfl) .nil))) rfl) ?_
  refine ax_e (e_st rfl rfl rfl rfl rfl rfl rfl) ?_
  refine ax_q (q_mov rfl) ?_
  refine ax_nil (cx_keep rfl rfl ?_)
  refine cx_ret (ret0 rfl rfl ?_)
  exact ⟨by rw [l3F_1 h0]; rfl, rfl⟩
 ·
  have h0 : bad3 no t = false := h0
  have h5 : 5 ≤ (unsealF t).1.length := by
   have h1 := h0; unfold bad3 at h1; simp only [Bool.or_eq_false_iff, decide_eq_false_iff_not] at h1; have := h1.1.1.2; omega
  refine cx_skip ?_
  refine cx_keep rfl rfl (cx_seq (cx_ops ?_))
  refine ax_q (q_mov rfl) ?_
  refine ax_qe (r' := .d (.str ((unsealF t).1.drop 4))) (q_slcT rfl rfl rfl (by omega) (by omega) (by omega)) (slcT_drop rfl) ?_
  refine ax_call rfl (vc_pure0 (c_l01Read (s := (unsealF t).1.drop 4) ?_) hP rfl rfl ?_)
  ·
   first | assumption | omega | (simp; done) | (simp; omega)
  refine ax_q (q_mov rfl) ?_
  refine ax_q (q_ext rfl rfl) ?_
  refine ax_q (q_ext rfl rfl) ?_
  refine ax_q (q_mov rfl) ?_
  refine ax_q (q_mov rfl) ?_
  refine ax_nil (cx_keep rfl rfl (cx_seq (cx_ops ?_)))
  refine ax_q (q_mov rfl) ?_
  refine ax_qe (r' := .d (.str (((unsealF t).1.drop 2).take 2))) (q_slcT rfl rfl rfl (by omega) (by omega) (by omega)) (slcT_mid rfl rfl) ?_
  refine ax_call rfl (vc_pure0 (c_l01Of (t := ((unsealF t).1.drop 2).take 2) ?_) hP rfl rfl ?_)
  ·
   rw [List.length_take]; omega
  refine ax_q (q_mov rfl) ?_
  refine ax_q (q_build rfl) ?_
  refine ax_e (e_alloc (by decide) rfl rfl) ?_
  refine ax_e (e_st rfl rfl rfl rfl rfl rfl rfl) ?_
  refine ax_nil (cx_keep rfl rfl (cx_seq ?_))
  refine cx_drawS ?_
  refine ax_q (q_ldN rfl rfl rfl) ?_
  refine ax_q (q_mov rfl) ?_
  refine ax_q (q_mov rfl) ?_
  apply ax_and rfl rfl
  ·
   intro g
   refine ax_q (q_ldN rfl rfl rfl) ?_
   refine ax_callq rfl (c_sPageOK (p := pgR (unsealF t).1) ?_) hP (lal_id _ rfl) rfl ?_
   ·
    exact Nat.le_trans l01_255 (by decide)
   exact ax_nil ⟨rfl, by repeat constructor⟩
  refine ax_nil ?_
  refine ax_e (e_st rfl rfl rfl rfl rfl rfl rfl) ?_
  refine ax_q (q_mov rfl) ?_
  refine ax_nil (cx_keep rfl rfl ?_)
  refine cx_ret (ret0 rfl rfl ?_)
  exact ⟨by rw [l3F_2 h0]; rfl, rfl⟩


/- loop.example/g00332/spec.l05Page -/
def k_c_l05Page : XCode :=
 .seq (.ops [.op (some 2) (.box (.t 0)),
   .op (some 4) (.alloc [.int .i64 0, .nils 1]),
   .op (some 5) (.mov (.k (.bool false)))])
 (.keep [1, 2, 4] (.seq (.ops [.op (some 7) (.loadN 4 (.t 2)),
   .op (some 8) (.mov (.t 1)),
   .op (some 9) (.bin .add (.k (.int .i64 1)) (.t 8)),
   .call (some 10) 125 [.t 7, .t 9],
   .op (some 6) (.mov (.t 10))])
 (.keep [1, 4, 6] (.seq (.seq (.ops [.op (some 11) (.mov (.t 6)),
   .op (some 12) (.bin .eql (.t 11) (.k (.str [])))])
  (.keep [1, 4, 6, 12] (.cond (.t 12)
  (.seq (.ops [.call (some 13) 126 [],
    .op none (.store 2 (.t 4) (.t 13)),
    .op (some 5) (.mov (.k (.bool true)))])
   (.keep [4, 5] (.ret)))
  (.skip))))
 (.keep [1, 4, 6] (.seq (.ops [.op (some 14) (.mov (.t 1)),
   .op (some 15) (.mov (.t 6)),
   .call (some 16) 127 [.t 14, .t 15],
   .op (some 17) (.ext (.t 16) 0),
   .op (some 18) (.ext (.t 16) 1),
   .op none (.store 2 (.t 4) (.t 17)),
   .op (some 5) (.mov (.t 18))])
 (.keep [4, 5] (.ret))))))))
theorem k_c_l05Page_fits : fitsF Tryz.prog 74 ⟨19, k_c_l05Page, [.cN 4 2, .t 5]⟩ = true := by kernel_rfl
theorem c_l05Page {d : GDisk} {no : Nat} (hd : diskOK d = true) (hs : d.Sectors.length = 69) (hn : no < 8) : Con Tryz.prog noMv 74 [d.av, int (no : Nat)] [] (fun r h => r = .tup [(pageD d no).1.av, bool (pageD d no).2] ∧ h = []) := by
 refine con_of2 k_c_l05Page_fits rfl fun C hP hmv => ?_
 unfold k_c_l05Page
 obtain ⟨q1, q2, q3⟩ := diskOK_head hd
 have htl := diskOK_txt hd (1 + no)
 refine cx_seq (cx_ops ?_)
 refine ax_e (e_box rfl rfl (by decide) rfl rfl rfl) ?_
 refine ax_e (e_alloc (by decide) rfl rfl) ?_
 refine ax_q (q_mov rfl) ?_
 refine ax_nil (cx_keep rfl rfl (cx_seq (cx_ops ?_)))
 refine ax_q (q_ldN rfl rfl rfl) ?_
 refine ax_q (q_mov rfl) ?_
 refine ax_qe (r' := int ((1 + no : Nat) : Int)) (q_ibin rfl rfl rfl) (by rw [wi (by omega) (by omega)]; rfl) ?_
 refine ax_call rfl (vc_pure0 (c_l02Read (d := d) (i := 1 + no) ?_ ?_ ?_ ?_) hP rfl rfl ?_)
 ·
  first | assumption | omega
 ·
  first | assumption | omega
 ·
  first | assumption | omega
 ·
  first | assumption | omega
 refine ax_q (q_mov rfl) ?_
 refine ax_nil (cx_keep rfl rfl (cx_seq (cx_seq (cx_ops ?_))))
 refine ax_q (q_mov rfl) ?_
 refine ax_q (q_sbin rfl rfl rfl) ?_
 refine ax_nil (cx_keep rfl rfl ?_)
 refine cx_cond rfl (fun h0 => ?_) (fun h0 => ?_)
 ·
  have h0 := dT h0
  have h0 : txtD d (1 + no) = [] := h0
  refine cx_seq (cx_ops ?_)
  refine ax_call rfl (vc_pure (c_sNewPage  ) hP rfl ?_)
  rintro r h ⟨rfl, rfl⟩
  refine ⟨fun i => 13 + 200 * i, [0], ⟨rfl, rfl, rfl, rfl, rfl, (by first | exact (fun h => absurd h Bool.false_ne_true) | exact (fun _ => ⟨rfl, (noisl_of (by repeat (first | exact trivial | refine ⟨noisl_map (fun _ => rfl), ?_⟩ | refine ⟨?_, ?_⟩)))⟩))⟩, ?_⟩
  skip
  refine ax_wk (wk_frz 13 13 rfl rfl (.agg (.cons (.same rfl) (.cons (.whole rfl) .nil))) rfl) ?_
  refine ax_e (e_st rfl rfl rfl rfl rfl rfl rfl) ?_
  refine ax_q (q_mov rfl) ?_
  refine ax_nil (cx_keep rfl rfl ?_)
  refine cx_ret (ret0 rfl rfl ?_)
  exact ⟨by rw [show pageD d no = _ from pageT_0 h0]; rfl, rfl⟩
 ·
  have h0 := dF h0
  have h0 : ¬ txtD d (1 + no) = [] := h0
  refine cx_skip ?_
  refine cx_keep rfl rfl (cx_seq (cx_ops ?_))
  refine ax_q (q_mov rfl) ?_
  refine ax_q (q_mov rfl) ?_
  refine ax_call rfl (vc_pure0 (c_l03Read (t := txtD d (1 + no)) ?_) hP rfl rfl ?_)
  ·
   first | assumption | omega
  refine ax_q (q_ext rfl rfl) ?_
  refine ax_q (q_ext rfl rfl) ?_
  refine ax_e (e_st rfl rfl rfl rfl rfl rfl rfl) ?_
  refine ax_q (q_mov rfl) ?_
  refine ax_nil (cx_keep rfl rfl ?_)
  refine cx_ret (ret0 rfl rfl ?_)
  exact ⟨by rw [show pageD d no = _ from pageT_1 h0]; rfl, rfl⟩


/- loop.example/g00332/spec.StoreOK -/
def k_c_sStoreOK : XCode :=
 .seq (.ops [.op (some 1) (.box (.t 0)),
   .op (some 2) (.mov (.k (.bool false)))])
 (.keep [1] (.seq (.seq (.ops [.op (some 10) (.fadr (.t 1) 0),
   .op (some 11) (.loadN 4 (.t 10)),
   .call (some 12) 71 [.t 11],
   .op (some 13) (.not (.t 12)),
   .op (some 14) (.mov (.t 13)),
   .andor 20 false 4 14 [.op (some 15) (.fadr (.t 1) 0), .op (some 16) (.fadr (.t 15) 0), .op (some 17) (.load1 (.t 16)), .op (some 18) (.lenS (.t 17)), .op (some 19) (.bin .neq (.t 18) (.k (.int .i64 69)))] (.t 19),
   .op (some 21) (.mov (.t 20)),
   .andor 26 false 11 21 [.op (some 22) (.fadr (.t 1) 4), .op (some 23) (.load1 (.t 22)), .call (some 24) 31 [.t 23, .k (.int .i64 1), .k (.int .i64 60)], .op (some 25) (.not (.t 24))] (.t 25),
   .op (some 27) (.mov (.t 26)),
   .andor 32 false 17 27 [.op (some 28) (.fadr (.t 1) 5), .op (some 29) (.load1 (.t 28)), .op (some 30) (.lenS (.t 29)), .op (some 31) (.bin .gtr (.t 30) (.k (.int .i64 60)))] (.t 31),
   .op (some 33) (.mov (.t 32)),
   .andor 41 false 23 33 [.op (some 34) (.fadr (.t 1) 6), .op (some 35) (.load1 (.t 34)), .op (some 36) (.fadr (.t 1) 5), .op (some 37) (.load1 (.t 36)), .op (some 38) (.lenS (.t 37)), .call (some 39) 31 [.t 35, .k (.int .i64 0), .t 38], .op (some 40) (.not (.t 39))] (.t 40),
   .op (some 42) (.mov (.t 41)),
   .andor 47 false 32 42 [.op (some 43) (.fadr (.t 1) 7), .op (some 44) (.load1 (.t 43)), .op (some 45) (.lenS (.t 44)), .op (some 46) (.bin .gtr (.t 45) (.k (.int .i64 3)))] (.t 46),
   .op (some 48) (.mov (.t 47)),
   .andor 53 false 38 48 [.op (some 49) (.fadr (.t 1) 8), .op (some 50) (.load1 (.t 49)), .call (some 51) 31 [.t 50, .k (.int .i64 0), .k (.int .i64 2)], .op (some 52) (.not (.t 51))] (.t 52)])
  (.keep [1, 53] (.cond (.t 53)
  (.seq (.ops [.op (some 2) (.mov (.k (.bool false)))])
   (.keep [2] (.ret)))
  (.skip))))
 (.keep [1] (.seq (.seq (.ops [.op (some 3) (.mov (.k (.int .i64 0)))])
  (.keep [1, 3] (.block 0 (.loop (.seq (.seq (.ops [.op (some 54) (.mov (.t 3)),
     .op (some 55) (.fadr (.t 1) 5),
     .op (some 56) (.load1 (.t 55)),
     .op (some 57) (.lenS (.t 56)),
     .op (some 58) (.bin .lss (.t 54) (.t 57))])
   (.keep [1, 3, 58] (.cond (.t 58)
    (.skip)
    (.exit 0))))
   (.keep [1, 3] (.seq (.block 1 (.seq (.ops [.op (some 61) (.fadr (.t 1) 5),
     .op (some 62) (.load1 (.t 61)),
     .op (some 63) (.mov (.t 3)),
     .op (some 64) (.iadr 10 (.t 62) (.t 63)),
     .op (some 65) (.loadN 10 (.t 64)),
     .op (some 4) (.alloc [.int .i64 0, .int .i64 0, .int .i64 0, .int .i64 0, .int .i64 0, .int .i64 0, .int .i64 0, .int .i64 0, .str [], .str []]),
     .op none (.store 10 (.t 4) (.t 65))])
    (.keep [1, 3, 4] (.seq (.draw [.op (some 66) (.loadN 10 (.t 4)),
     .call (some 67) 72 [.t 66],
     .op (some 68) (.not (.t 67)),
     .op (some 69) (.mov (.t 68)),
     .andor 75 false 3 69 [.op (some 70) (.fadr (.t 4) 1), .op (some 71) (.load1 (.t 70)), .op (some 72) (.mov (.t 3)), .op (some 73) (.bin .add (.t 72) (.k (.int .i64 1))), .op (some 74) (.bin .neq (.t 71) (.t 73))] (.t 74),
     .op (some 76) (.mov (.t 75)),
     .andor 82 false 10 76 [.op (some 77) (.fadr (.t 4) 0), .op (some 78) (.load1 (.t 77)), .op (some 79) (.fadr (.t 1) 4), .op (some 80) (.load1 (.t 79)), .op (some 81) (.bin .gtr (.t 78) (.t 80))] (.t 81),
     .op (some 83) (.mov (.t 82)),
     .andor 98 false 17 83 [.op (some 84) (.mov (.t 3)), .op (some 85) (.bin .gtr (.t 84) (.k (.int .i64 0))), .op (some 86) (.mov (.t 85)), .andor 97 true 20 86 [.op (some 87) (.fadr (.t 1) 5), .op (some 88) (.load1 (.t 87)), .op (some 89) (.mov (.t 3)), .op (some 90) (.bin .sub (.t 89) (.k (.int .i64 1))), .op (some 91) (.iadr 10 (.t 88) (.t 90)), .op (some 92) (.fadr (.t 91) 0), .op (some 93) (.load1 (.t 92)), .op (some 94) (.fadr (.t 4) 0), .op (some 95) (.load1 (.t 94)), .op (some 96) (.bin .gtr (.t 93) (.t 95))] (.t 96)] (.t 97)])
    (.keep [1, 3, 98] (.cond (.t 98)
    (.seq (.ops [.op (some 2) (.mov (.k (.bool false)))])
     (.keep [2] (.ret)))
    (.skip)))))))
   (.keep [1, 3] (.ops [.op (some 59) (.mov (.t 3)),
    .op (some 60) (.bin .add (.t 59) (.k (.int .i64 1))),
    .op (some 3) (.mov (.t 60))])))))))))
 (.keep [1] (.seq (.seq (.ops [.op (some 5) (.mov (.k (.int .i64 0)))])
  (.keep [1, 5] (.block 2 (.loop (.seq (.seq (.ops [.op (some 99) (.mov (.t 5)),
     .op (some 100) (.fadr (.t 1) 7),
     .op (some 101) (.load1 (.t 100)),
     .op (some 102) (.lenS (.t 101)),
     .op (some 103) (.bin .lss (.t 99) (.t 102))])
   (.keep [1, 5, 103] (.cond (.t 103)
    (.skip)
    (.exit 2))))
   (.keep [1, 5] (.seq (.block 3 (.seq (.ops [.op (some 106) (.fadr (.t 1) 7),
     .op (some 107) (.load1 (.t 106)),
     .op (some 108) (.mov (.t 5)),
     .op (some 109) (.iadr 5 (.t 107) (.t 108)),
     .op (some 110) (.loadN 5 (.t 109)),
     .op (some 6) (.alloc [.int .i64 0, .int .i64 0, .nils 1, .bool false, .int .i64 0]),
     .op none (.store 5 (.t 6) (.t 110))])
    (.keep [1, 5, 6] (.seq (.ops [.op (some 111) (.fadr (.t 6) 0),
     .op (some 112) (.load1 (.t 111)),
     .call (some 113) 31 [.t 112, .k (.int .i64 0), .k (.int .i64 7)],
     .op (some 114) (.not (.t 113)),
     .op (some 115) (.mov (.t 114)),
     .andor 120 false 4 115 [.op (some 116) (.fadr (.t 6) 1), .op (some 117) (.loadN 2 (.t 116)), .call (some 118) 73 [.t 117], .op (some 119) (.not (.t 118))] (.t 119),
     .op (some 121) (.mov (.t 120)),
     .andor 129 false 10 121 [.op (some 122) (.fadr (.t 6) 1), .op (some 123) (.fadr (.t 122) 0), .op (some 124) (.load1 (.t 123)), .op (some 125) (.fadr (.t 1) 5), .op (some 126) (.load1 (.t 125)), .op (some 127) (.lenS (.t 126)), .op (some 128) (.bin .gtr (.t 124) (.t 127))] (.t 128),
     .op (some 130) (.mov (.t 129)),
     .andor 138 false 19 130 [.op (some 131) (.fadr (.t 6) 4), .op (some 132) (.load1 (.t 131)), .op (some 133) (.fadr (.t 1) 5), .op (some 134) (.load1 (.t 133)), .op (some 135) (.lenS (.t 134)), .call (some 136) 31 [.t 132, .k (.int .i64 0), .t 135], .op (some 137) (.not (.t 136))] (.t 137),
     .op (some 139) (.mov (.t 138)),
     .andor 146 false 28 139 [.op (some 140) (.fadr (.t 6) 3), .op (some 141) (.load1 (.t 140)), .op (some 142) (.fadr (.t 6) 4), .op (some 143) (.load1 (.t 142)), .op (some 144) (.bin .gtr (.t 143) (.k (.int .i64 0))), .op (some 145) (.eqb true (.t 141) (.t 144))] (.t 145),
     .op (some 147) (.mov (.t 146)),
     .andor 154 false 36 147 [.op (some 148) (.loadN 9 (.t 1)), .op (some 149) (.fadr (.t 6) 0), .op (some 150) (.load1 (.t 149)), .call (some 151) 48 [.t 148, .t 150], .op (some 152) (.mov (.t 5)), .op (some 153) (.bin .neq (.t 151) (.t 152))] (.t 153)])
    (.keep [1, 5, 154] (.cond (.t 154)
    (.seq (.ops [.op (some 2) (.mov (.k (.bool false)))])
     (.keep [2] (.ret)))
    (.skip)))))))
   (.keep [1, 5] (.ops [.op (some 104) (.mov (.t 5)),
    .op (some 105) (.bin .add (.t 104) (.k (.int .i64 1))),
    .op (some 5) (.mov (.t 105))])))))))))
 (.keep [1] (.seq (.seq (.ops [.op (some 7) (.mov (.k (.int .i64 0)))])
  (.keep [1, 7] (.block 4 (.loop (.seq (.seq (.ops [.op (some 155) (.mov (.t 7)),
     .op (some 156) (.bin .lss (.t 155) (.k (.int .i64 8)))])
   (.keep [1, 7, 156] (.cond (.t 156)
    (.skip)
    (.exit 4))))
   (.keep [1, 7] (.seq (.block 5 (.seq (.ops [.op (some 160) (.fadr (.t 1) 0),
     .op (some 161) (.loadN 4 (.t 160)),
     .op (some 162) (.mov (.t 7)),
     .call (some 163) 74 [.t 161, .t 162],
     .op (some 159) (.mov (.t 163)),
     .op (some 164) (.ext (.t 159) 0),
     .op (some 165) (.ext (.t 159) 1),
     .op (some 8) (.alloc [.int .i64 0, .nils 1]),
     .op none (.store 2 (.t 8) (.t 164)),
     .op (some 9) (.mov (.t 165))])
    (.keep [1, 7, 8, 9] (.seq (.ops [.op (some 166) (.mov (.t 9)),
     .op (some 167) (.not (.t 166)),
     .op (some 168) (.mov (.t 167)),
     .andor 174 false 2 168 [.op (some 169) (.fadr (.t 8) 0), .op (some 170) (.load1 (.t 169)), .op (some 171) (.fadr (.t 1) 6), .op (some 172) (.load1 (.t 171)), .op (some 173) (.bin .gtr (.t 170) (.t 172))] (.t 173)])
    (.keep [1, 7, 174] (.cond (.t 174)
    (.seq (.ops [.op (some 2) (.mov (.k (.bool false)))])
     (.keep [2] (.ret)))
    (.skip)))))))
   (.keep [1, 7] (.ops [.op (some 157) (.mov (.t 7)),
    .op (some 158) (.bin .add (.t 157) (.k (.int .i64 1))),
    .op (some 7) (.mov (.t 158))])))))))))
 (.keep [] (.seq (.ops [.op (some 2) (.mov (.k (.bool true)))])
 (.keep [2] (.ret))))))))))))
theorem k_c_sStoreOK_fits : fitsF Tryz.prog 30 ⟨175, k_c_sStoreOK, [.t 2]⟩ = true := by kernel_rfl
set_option maxHeartbeats 8000000 in
theorem c_sStoreOK {s : GStore} (hb0 : StB s) : Con Tryz.prog noMv 30 [s.av] [] (fun r h => r = bool (storeOK s) ∧ h = []) := by
 refine con_of2 k_c_sStoreOK_fits rfl fun C hP hmv => ?_
 unfold k_c_sStoreOK
 obtain ⟨hw0, hw1, hw2, hw3, hwa, hw4, hw5, hw6⟩ := id hb0
 refine cx_seq (cx_ops ?_)
 refine ax_e (e_box rfl rfl (by decide) rfl rfl rfl) ?_
 refine ax_q (q_mov rfl) ?_
 refine ax_nil (cx_keep rfl rfl (cx_seq (cx_seq (cx_ops ?_))))
 refine ax_q (q_fadr_ptr rfl) ?_
 refine ax_q (q_ldN rfl rfl rfl) ?_
 refine ax_call rfl (vc_pure0 (c_sDiskOK (d := s.Disk) ?_ ?_ ?_) hP rfl rfl ?_)
 ·
  assumption
 ·
  assumption
 ·
  assumption
 refine ax_q (q_not rfl) ?_
 refine ax_q (q_mov rfl) ?_
 apply ax_or rfl rfl
 ·
  intro g
  have g := bF g
  refine ax_q (q_fadr_ptr rfl) ?_
  refine ax_q (q_fadr_ptr rfl) ?_
  refine ax_q (q_load1_ptr rfl rfl rfl) ?_
  refine ax_q (q_lenS_map rfl) ?_
  refine ax_q (q_ibin rfl rfl rfl) ?_
  exact ax_nil ⟨rfl, by repeat constructor⟩
 refine ax_q (q_mov rfl) ?_
 apply ax_or rfl rfl
 ·
  intro g
  have g := (fun h => And.intro (bF (or_F h).1) (nF (or_F h).2)) g
  refine ax_q (q_fadr_ptr rfl) ?_
  refine ax_q (q_load1_ptr rfl rfl rfl) ?_
  refine ax_call rfl (vc_pure0 (c_l01In  ) hP rfl rfl ?_)
  refine ax_q (q_not rfl) ?_
  exact ax_nil ⟨rfl, by repeat constructor⟩
 refine ax_q (q_mov rfl) ?_
 apply ax_or rfl rfl
 ·
  intro g
  have g := (fun h => And.intro ((fun h => And.intro (bF (or_F h).1) (nF (or_F h).2)) (or_F h).1) (bF (or_F h).2)) g
  refine ax_q (q_fadr_ptr rfl) ?_
  refine ax_q (q_load1_ptr rfl rfl rfl) ?_
  refine ax_q (q_lenS_map rfl) ?_
  refine ax_q (q_ibin rfl rfl rfl) ?_
  exact ax_nil ⟨rfl, by repeat constructor⟩
 refine ax_q (q_mov rfl) ?_
 apply ax_or rfl rfl
 ·
  intro g
  have g := (fun h => And.intro ((fun h => And.intro ((fun h => And.intro (bF (or_F h).1) (nF (or_F h).2)) (or_F h).1) (bF (or_F h).2)) (or_F h).1) (dF (or_F h).2)) g
  refine ax_q (q_fadr_ptr rfl) ?_
  refine ax_q (q_load1_ptr rfl rfl rfl) ?_
  refine ax_q (q_fadr_ptr rfl) ?_
  refine ax_q (q_load1_ptr rfl rfl rfl) ?_
  refine ax_q (q_lenS_map rfl) ?_
  refine ax_call rfl (vc_pure0 (c_l01In  ) hP rfl rfl ?_)
  refine ax_q (q_not rfl) ?_
  exact ax_nil ⟨rfl, by repeat constructor⟩
 refine ax_q (q_mov rfl) ?_
 apply ax_or rfl rfl
 ·
  intro g
  have g := (fun h => And.intro ((fun h => And.intro ((fun h => And.intro ((fun h => And.intro (bF (or_F h).1) (nF (or_F h).2)) (or_F h).1) (bF (or_F h).2)) (or_F h).1) (dF (or_F h).2)) (or_F h).1) (bF (or_F h).2)) g
  refine ax_q (q_fadr_ptr rfl) ?_
  refine ax_q (q_load1_ptr rfl rfl rfl) ?_
  refine ax_q (q_lenS_map rfl) ?_
  refine ax_q (q_ibin rfl rfl rfl) ?_
  exact ax_nil ⟨rfl, by repeat constructor⟩
 refine ax_q (q_mov rfl) ?_
 apply ax_or rfl rfl
 ·
  intro g
  have g := (fun h => And.intro ((fun h => And.intro ((fun h => And.intro ((fun h => And.intro ((fun h => And.intro (bF (or_F h).1) (nF (or_F h).2)) (or_F h).1) (bF (or_F h).2)) (or_F h).1) (dF (or_F h).2)) (or_F h).1) (bF (or_F h).2)) (or_F h).1) (dF (or_F h).2)) g
  refine ax_q (q_fadr_ptr rfl) ?_
  refine ax_q (q_load1_ptr rfl rfl rfl) ?_
  refine ax_call rfl (vc_pure0 (c_l01In  ) hP rfl rfl ?_)
  refine ax_q (q_not rfl) ?_
  exact ax_nil ⟨rfl, by repeat constructor⟩
 refine ax_nil (cx_keep rfl rfl ?_)
 refine cx_cond rfl (fun h0 => ?_) (fun h0 => ?_)
 ·
  have h0 : badHd2 s = true := h0
  refine cx_seq (cx_ops ?_)
  refine ax_q (q_mov rfl) ?_
  refine ax_nil (cx_keep rfl rfl ?_)
  refine cx_ret (ret0 rfl rfl ?_)
  exact ⟨by rw [storeOK_h2 h0]; rfl, rfl⟩
 ·
  have h0 : badHd2 s = false := h0
  obtain ⟨HD, hf3, hh⟩ := hd2_of h0
  have hll := HD.lo
  have hsu := HD.su
  refine cx_skip ?_
  refine cx_keep rfl rfl (cx_seq (cx_seq (cx_ops ?_)))
  refine ax_q (q_mov rfl) ?_
  refine ax_nil (cx_keep rfl rfl (cx_block ?_))
  refine cx_loopU (fun n k => k ≤ s.Log.length ∧ n = s.Log.length - k ∧ epochsOK s.Epoch 1 s.Log = epochsOK s.Epoch (lowAt s.Log k) (s.Log.drop k) ∧ ∀ i (h : i < s.Log.length), i < k → recOK s.Log[i] = true ∧ s.Log[i].Lsn = ((i + 1 : Nat) : Int)) (fun k : Nat => [(3, int k)]) (fun _ => [(1, .box (s.row.map .d))]) ⟨_, 0, ⟨Nat.zero_le _, rfl, rfl, fun i h hi => by omega⟩, by repeat constructor⟩ ?_
  rintro n k ⟨hk, rfl, he, hr⟩
  refine cx_seq (cx_seq (cx_ops ?_))
  refine ax_q (q_mov rfl) ?_
  refine ax_q (q_fadr_ptr rfl) ?_
  refine ax_q (q_load1_ptr rfl rfl rfl) ?_
  refine ax_q (q_lenS_map rfl) ?_
  refine ax_q (q_ibin rfl rfl rfl) ?_
  refine ax_nil (cx_keep rfl rfl ?_)
  refine cx_cond rfl (fun h1 => ?_) (fun h1 => ?_)
  ·
   have h1 := dT h1
   have h1x : k < s.Log.length := by omega
   refine cx_skip ?_
   refine cx_keep rfl rfl (cx_seq (cx_block (cx_seq (cx_ops ?_))))
   refine ax_q (q_fadr_ptr rfl) ?_
   refine ax_q (q_load1_ptr rfl rfl rfl) ?_
   refine ax_q (q_mov rfl) ?_
   refine ax_q (q_ix rfl rfl (mapAt h1x)) ?_
   first | refine ax_q (q_ldN rfl rfl rfl) ?_ | refine ax_q (q_loadN_ip rfl (Nat.le_refl _)) ?_
   refine ax_e (e_alloc (by decide) rfl rfl) ?_
   refine ax_e (e_st rfl rfl rfl rfl rfl rfl rfl) ?_
   refine ax_nil (cx_keep rfl rfl (cx_seq (cx_draw ?_)))
   refine ax_q (q_ldN rfl rfl rfl) ?_
   refine ax_callq rfl (c_sRecordOK (x := s.Log[k]) ?_) hP (lal_id _ rfl) rfl ?_
   ·
    exact hb0.af k h1x
   refine ax_q (q_not rfl) ?_
   refine ax_q (q_mov rfl) ?_
   apply ax_or rfl rfl
   ·
    intro g
    have g := bF g
    refine ax_q (q_fadr_ptr rfl) ?_
    refine ax_q (q_load1_ptr rfl rfl rfl) ?_
    refine ax_q (q_mov rfl) ?_
    refine ax_qe (r' := int ((k + 1 : Nat) : Int)) (q_ibin rfl rfl rfl) (by rw [wi (by omega) (by omega)]; rfl) ?_
    refine ax_q (q_ibin rfl rfl rfl) ?_
    exact ax_nil ⟨rfl, by repeat constructor⟩
   refine ax_q (q_mov rfl) ?_
   apply ax_or rfl rfl
   ·
    intro g
    have g := (fun h => And.intro (bF (or_F h).1) (nF (or_F h).2)) g
    refine ax_q (q_fadr_ptr rfl) ?_
    refine ax_q (q_load1_ptr rfl rfl rfl) ?_
    refine ax_q (q_fadr_ptr rfl) ?_
    refine ax_q (q_load1_ptr rfl rfl rfl) ?_
    refine ax_q (q_ibin rfl rfl rfl) ?_
    exact ax_nil ⟨rfl, by repeat constructor⟩
   refine ax_q (q_mov rfl) ?_
   apply ax_or rfl rfl
   ·
    intro g
    have g := (fun h => And.intro ((fun h => And.intro (bF (or_F h).1) (nF (or_F h).2)) (or_F h).1) (dF (or_F h).2)) g
    refine ax_q (q_mov rfl) ?_
    refine ax_q (q_ibin rfl rfl rfl) ?_
    refine ax_q (q_mov rfl) ?_
    apply ax_and rfl rfl
    ·
     intro g
     have g := dT g
     refine ax_q (q_fadr_ptr rfl) ?_
     refine ax_q (q_load1_ptr rfl rfl rfl) ?_
     refine ax_q (q_mov rfl) ?_
     refine ax_qe (r' := int ((k - 1 : Nat) : Int)) (q_ibin rfl rfl rfl) (by rw [wi (by omega) (by omega)]; exact congrArg AM.int (by omega)) ?_
     refine ax_q (q_ix rfl rfl (mapAtZ (z := .zero) (by omega))) ?_
     first | refine ax_q (q_fadr_ptr rfl) ?_ | refine ax_q (q_fadr_rptr rfl) ?_ | refine ax_q (q_fadr_ip rfl) ?_
     first | refine ax_q (q_load1_ptr rfl rfl rfl) ?_ | refine ax_q (q_load1_ip rfl) ?_
     refine ax_q (q_fadr_ptr rfl) ?_
     refine ax_q (q_load1_ptr rfl rfl rfl) ?_
     refine ax_q (q_ibin rfl rfl rfl) ?_
     exact ax_nil ⟨rfl, by repeat constructor⟩
    exact ax_nil ⟨rfl, by repeat constructor⟩
   refine ax_nil (cx_keep rfl rfl ?_)
   refine cx_cond rfl (fun h2 => ?_) (fun h2 => ?_)
   ·
    have h2 : rec2Bad s k s.Log[k] (s.Log.getD (k - 1) .zero).Epoch = true := h2
    have hbad := rec2_t h1x he h2
    refine cx_seq (cx_ops ?_)
    refine ax_q (q_mov rfl) ?_
    refine ax_nil (cx_keep rfl rfl ?_)
    refine cx_ret (ret0 rfl rfl ?_)
    exact ⟨by rw [hbad]; rfl, rfl⟩
   ·
    have h2 : rec2Bad s k s.Log[k] (s.Log.getD (k - 1) .zero).Epoch = false := h2
    have hst := rec2_f h1x h2
    refine cx_skip ?_
    refine cx_keep rfl rfl (cx_ops ?_)
    refine ax_q (q_mov rfl) ?_
    refine ax_qe (r' := int ((k + 1 : Nat) : Int)) (q_ibin rfl rfl rfl) (by rw [wi (by omega) (by omega)]; rfl) ?_
    refine ax_q (q_mov rfl) ?_
    refine ax_nil ?_
    exact ⟨_, k + 1, by omega, ⟨by omega, rfl, by rw [he, epochs_step h1x, hst.2.2, Bool.true_and, lowAt_s h1x], fun i h hi => by
     rcases Nat.lt_succ_iff_lt_or_eq.1 hi with q | rfl
     ·
      exact hr i h q
     ·
      exact ⟨hst.1, hst.2.1⟩⟩, by repeat constructor⟩
  ·
   have h1 := dF h1
   obtain rfl : k = s.Log.length := by omega
   rw [epochs_end] at he
   have hg : goodA s.Log = true := goodA_iff.2 (fun i h => hr i h h)
   have h0g := badHd_f HD hg
   refine cx_exit rfl ?_
   refine cx_keep rfl rfl (cx_seq (cx_seq (cx_ops ?_)))
   refine ax_q (q_mov rfl) ?_
   refine ax_nil (cx_keep rfl rfl (cx_block ?_))
   refine cx_loopU (fun n k => k ≤ s.Frames.length ∧ n = s.Frames.length - k ∧ ∀ j (hj : j < s.Frames.length), j < k → frameBad s j s.Frames[j] = false) (fun k : Nat => [(5, int k)]) (fun _ => [(1, .box (s.row.map .d))]) ⟨_, 0, ⟨Nat.zero_le _, rfl, fun j _ hj => by omega⟩, by repeat constructor⟩ ?_
   rintro n k ⟨hk, rfl, hb⟩
   refine cx_seq (cx_seq (cx_ops ?_))
   refine ax_q (q_mov rfl) ?_
   refine ax_q (q_fadr_ptr rfl) ?_
   refine ax_q (q_load1_ptr rfl rfl rfl) ?_
   refine ax_q (q_lenS_map rfl) ?_
   refine ax_q (q_ibin rfl rfl rfl) ?_
   refine ax_nil (cx_keep rfl rfl ?_)
   refine cx_cond rfl (fun h3 => ?_) (fun h3 => ?_)
   ·
    have h3 := dT h3
    have h0x : k < s.Frames.length := by omega
    have hwk := hb0.sw _ (List.getElem_mem h0x)
    have hsk := hb0.sl _ (List.getElem_mem h0x)
    refine cx_skip ?_
    refine cx_keep rfl rfl (cx_seq (cx_block (cx_seq (cx_ops ?_))))
    refine ax_q (q_fadr_ptr rfl) ?_
    refine ax_q (q_load1_ptr rfl rfl rfl) ?_
    refine ax_q (q_mov rfl) ?_
    refine ax_q (q_ix rfl rfl (mapAt h0x)) ?_
    first | refine ax_q (q_ldN rfl rfl rfl) ?_ | refine ax_q (q_loadN_ip rfl (Nat.le_refl _)) ?_
    refine ax_e (e_alloc (by decide) rfl rfl) ?_
    refine ax_e (e_st rfl rfl rfl rfl rfl rfl rfl) ?_
    refine ax_nil (cx_keep rfl rfl (cx_seq (cx_ops ?_)))
    refine ax_q (q_fadr_ptr rfl) ?_
    refine ax_q (q_load1_ptr rfl rfl rfl) ?_
    refine ax_call rfl (vc_pure0 (c_l01In  ) hP rfl rfl ?_)
    refine ax_q (q_not rfl) ?_
    refine ax_q (q_mov rfl) ?_
    apply ax_or rfl rfl
    ·
     intro g
     have g := bF g
     refine ax_q (q_fadr_ptr rfl) ?_
     refine ax_q (q_ldN rfl rfl rfl) ?_
     refine ax_call rfl (vc_pure0 (c_sPageOK (p := s.Frames[k].Page) ?_) hP rfl rfl ?_)
     ·
      assumption
     refine ax_q (q_not rfl) ?_
     exact ax_nil ⟨rfl, by repeat constructor⟩
    refine ax_q (q_mov rfl) ?_
    apply ax_or rfl rfl
    ·
     intro g
     have g := (fun h => And.intro (bF (or_F h).1) (bF (or_F h).2)) g
     refine ax_q (q_fadr_ptr rfl) ?_
     refine ax_q (q_fadr_ptr rfl) ?_
     refine ax_q (q_load1_ptr rfl rfl rfl) ?_
     refine ax_q (q_fadr_ptr rfl) ?_
     refine ax_q (q_load1_ptr rfl rfl rfl) ?_
     refine ax_q (q_lenS_map rfl) ?_
     refine ax_q (q_ibin rfl rfl rfl) ?_
     exact ax_nil ⟨rfl, by repeat constructor⟩
    refine ax_q (q_mov rfl) ?_
    apply ax_or rfl rfl
    ·
     intro g
     have g := (fun h => And.intro ((fun h => And.intro (bF (or_F h).1) (bF (or_F h).2)) (or_F h).1) (dF (or_F h).2)) g
     refine ax_q (q_fadr_ptr rfl) ?_
     refine ax_q (q_load1_ptr rfl rfl rfl) ?_
     refine ax_q (q_fadr_ptr rfl) ?_
     refine ax_q (q_load1_ptr rfl rfl rfl) ?_
     refine ax_q (q_lenS_map rfl) ?_
     refine ax_call rfl (vc_pure0 (c_l01In  ) hP rfl rfl ?_)
     refine ax_q (q_not rfl) ?_
     exact ax_nil ⟨rfl, by repeat constructor⟩
    refine ax_q (q_mov rfl) ?_
    apply ax_or rfl rfl
    ·
     intro g
     have g := (fun h => And.intro ((fun h => And.intro ((fun h => And.intro (bF (or_F h).1) (bF (or_F h).2)) (or_F h).1) (dF (or_F h).2)) (or_F h).1) (bF (or_F h).2)) g
     refine ax_q (q_fadr_ptr rfl) ?_
     refine ax_q (q_load1_ptr rfl rfl rfl) ?_
     refine ax_q (q_fadr_ptr rfl) ?_
     refine ax_q (q_load1_ptr rfl rfl rfl) ?_
     refine ax_q (q_ibin rfl rfl rfl) ?_
     refine ax_q (q_eqb rfl rfl) ?_
     exact ax_nil ⟨rfl, by repeat constructor⟩
    refine ax_q (q_mov rfl) ?_
    apply ax_or rfl rfl
    ·
     intro g
     have g := (fun h => And.intro ((fun h => And.intro ((fun h => And.intro ((fun h => And.intro (bF (or_F h).1) (bF (or_F h).2)) (or_F h).1) (dF (or_F h).2)) (or_F h).1) (bF (or_F h).2)) (or_F h).1) (bneF (or_F h).2)) g
     refine ax_q (q_ldN rfl rfl rfl) ?_
     refine ax_q (q_fadr_ptr rfl) ?_
     refine ax_q (q_load1_ptr rfl rfl rfl) ?_
     refine ax_call rfl (vc_pure0 (c_l05Frame (s := s) (no := s.Frames[k].No) ?_) hP rfl rfl ?_)
     ·
      assumption
     refine ax_q (q_mov rfl) ?_
     refine ax_q (q_ibin rfl rfl rfl) ?_
     exact ax_nil ⟨rfl, by repeat constructor⟩
    refine ax_nil (cx_keep rfl rfl ?_)
    refine cx_cond rfl (fun h4 => ?_) (fun h4 => ?_)
    ·
     have h4 : frameBad2 s k s.Frames[k] = true := h4
     rw [frameBad_eq] at h4
     refine cx_seq (cx_ops ?_)
     refine ax_q (q_mov rfl) ?_
     refine ax_nil (cx_keep rfl rfl ?_)
     refine cx_ret (ret0 rfl rfl ?_)
     exact ⟨by rw [storeOK_f (frames_no h0x h4)]; rfl, rfl⟩
    ·
     have hbk : frameBad2 s k s.Frames[k] = false := h4
     rw [frameBad_eq] at hbk
     refine cx_skip ?_
     refine cx_keep rfl rfl (cx_ops ?_)
     refine ax_q (q_mov rfl) ?_
     refine ax_qe (r' := int ((k + 1 : Nat) : Int)) (q_ibin rfl rfl rfl) (by rw [wi (by omega) (by omega)]; rfl) ?_
     refine ax_q (q_mov rfl) ?_
     refine ax_nil ?_
     exact ⟨_, k + 1, by omega, ⟨by omega, rfl, fun j hj hjk => by
      rcases Nat.lt_succ_iff_lt_or_eq.1 hjk with q | rfl
      ·
       exact hb j hj q
      ·
       exact hbk⟩, by repeat constructor⟩
   ·
    have h3 := dF h3
    have hfa := frames_all (s := s) (fun j hj => hb j hj (by omega))
    refine cx_exit rfl ?_
    refine cx_keep rfl rfl (cx_seq (cx_seq (cx_ops ?_)))
    refine ax_q (q_mov rfl) ?_
    refine ax_nil (cx_keep rfl rfl (cx_block ?_))
    refine cx_loopU (fun n k => k ≤ 8 ∧ n = 8 - k ∧ ∀ j, j < k → pageBad s j = false) (fun k : Nat => [(7, int k)]) (fun _ => [(1, .box (s.row.map .d))]) ⟨_, 0, ⟨Nat.zero_le _, rfl, fun j hj => by omega⟩, by repeat constructor⟩ ?_
    rintro n k ⟨hk, rfl, hp⟩
    refine cx_seq (cx_seq (cx_ops ?_))
    refine ax_q (q_mov rfl) ?_
    refine ax_q (q_ibin rfl rfl rfl) ?_
    refine ax_nil (cx_keep rfl rfl ?_)
    refine cx_cond rfl (fun h5 => ?_) (fun h5 => ?_)
    ·
     have h5 := dT h5
     have h5x : k < 8 := by omega
     refine cx_skip ?_
     refine cx_keep rfl rfl (cx_seq (cx_block (cx_seq (cx_ops ?_))))
     refine ax_q (q_fadr_ptr rfl) ?_
     refine ax_q (q_ldN rfl rfl rfl) ?_
     refine ax_q (q_mov rfl) ?_
     refine ax_call rfl (vc_pure0 (c_l05Page (d := s.Disk) (no := k) ?_ ?_ ?_) hP rfl rfl ?_)
     ·
      exact HD.di
     ·
      exact HD.se
     ·
      assumption
     refine ax_q (q_mov rfl) ?_
     refine ax_q (q_ext rfl rfl) ?_
     refine ax_q (q_ext rfl rfl) ?_
     refine ax_e (e_alloc (by decide) rfl rfl) ?_
     refine ax_e (e_st rfl rfl rfl rfl rfl rfl rfl) ?_
     refine ax_q (q_mov rfl) ?_
     refine ax_nil (cx_keep rfl rfl (cx_seq (cx_ops ?_)))
     refine ax_q (q_mov rfl) ?_
     refine ax_q (q_not rfl) ?_
     refine ax_q (q_mov rfl) ?_
     apply ax_or rfl rfl
     ·
      intro g
      have g := bF g
      refine ax_q (q_fadr_ptr rfl) ?_
      refine ax_q (q_load1_ptr rfl rfl rfl) ?_
      refine ax_q (q_fadr_ptr rfl) ?_
      refine ax_q (q_load1_ptr rfl rfl rfl) ?_
      refine ax_q (q_ibin rfl rfl rfl) ?_
      exact ax_nil ⟨rfl, by repeat constructor⟩
     refine ax_nil (cx_keep rfl rfl ?_)
     refine cx_cond rfl (fun h6 => ?_) (fun h6 => ?_)
     ·
      have h6 : pageBad s k = true := h6
      refine cx_seq (cx_ops ?_)
      refine ax_q (q_mov rfl) ?_
      refine ax_nil (cx_keep rfl rfl ?_)
      refine cx_ret (ret0 rfl rfl ?_)
      exact ⟨by rw [storeOK_p (pagesOK_no h5x h6)]; rfl, rfl⟩
     ·
      have hpk : pageBad s k = false := h6
      refine cx_skip ?_
      refine cx_keep rfl rfl (cx_ops ?_)
      refine ax_q (q_mov rfl) ?_
      refine ax_qe (r' := int ((k + 1 : Nat) : Int)) (q_ibin rfl rfl rfl) (by rw [wi (by omega) (by omega)]; rfl) ?_
      refine ax_q (q_mov rfl) ?_
      refine ax_nil ?_
      exact ⟨_, k + 1, by omega, ⟨by omega, rfl, fun j hjk => by
       rcases Nat.lt_succ_iff_lt_or_eq.1 hjk with q | rfl
       ·
        exact hp j q
       ·
        exact hpk⟩, by repeat constructor⟩
    ·
     have h5 := dF h5
     have hpo := pagesOK_all (s := s) (fun j hj => hp j (by omega))
     refine cx_exit rfl ?_
     refine cx_keep rfl rfl (cx_seq (cx_ops ?_))
     refine ax_q (q_mov rfl) ?_
     refine ax_nil (cx_keep rfl rfl ?_)
     refine cx_ret (ret0 rfl rfl ?_)
     exact ⟨by rw [storeOK_t h0g he hpo, hfa, decide_eq_true (show (s.Frames.length : Int) ≤ 3 by omega), show inR s.Hand 0 (3 - 1) = true from inR_iff.2 ⟨hh.1, by omega⟩]; rfl, rfl⟩


/- loop.example/g00332/spec.DirtyPages -/
def k_c_sDirtyPages : XCode :=
 .seq (.ops [.op (some 1) (.box (.t 0)),
   .op (some 2) (.mov (.k (.nils 1))),
   .op (some 3) (.mov (.k (.int .i64 0)))])
 (.keep [1] (.seq (.seq (.ops [.op (some 7) (.loadN 9 (.t 1)),
   .call (some 8) 30 [.t 7],
   .op (some 9) (.not (.t 8))])
  (.keep [1, 9] (.cond (.t 9)
  (.seq (.ops [.op (some 10) (.bslice 1 []),
    .op (some 2) (.mov (.t 10)),
    .op (some 3) (.mov (.k (.int .i64 1)))])
   (.keep [2, 3] (.ret)))
  (.skip))))
 (.keep [1] (.seq (.ops [.op (some 11) (.bslice 1 []),
   .op (some 4) (.mov (.t 11))])
 (.keep [1, 4] (.seq (.seq (.ops [.op (some 5) (.mov (.k (.int .i64 0)))])
  (.keep [1, 4, 5] (.block 0 (.loop (.seq (.seq (.ops [.op (some 12) (.mov (.t 5)),
     .op (some 13) (.bin .lss (.t 12) (.k (.int .i64 8)))])
   (.keep [1, 4, 5, 13] (.cond (.t 13)
    (.skip)
    (.exit 0))))
   (.keep [1, 4, 5] (.seq (.block 1 (.seq (.ops [.op (some 16) (.loadN 9 (.t 1)),
     .op (some 17) (.mov (.t 5)),
     .call (some 18) 48 [.t 16, .t 17],
     .op (some 6) (.mov (.t 18))])
    (.keep [1, 4, 5, 6] (.seq (.ops [.op (some 19) (.mov (.t 6)),
     .op (some 20) (.bin .geq (.t 19) (.k (.int .i64 0))),
     .op (some 21) (.mov (.t 20)),
     .andor 28 true 2 21 [.op (some 22) (.fadr (.t 1) 7), .op (some 23) (.load1 (.t 22)), .op (some 24) (.mov (.t 6)), .op (some 25) (.iadr 5 (.t 23) (.t 24)), .op (some 26) (.fadr (.t 25) 3), .op (some 27) (.load1 (.t 26))] (.t 27)])
    (.keep [1, 4, 5, 28] (.cond (.t 28)
    (.ops [.op (some 29) (.mov (.t 4)),
      .op (some 30) (.mov (.t 5)),
      .op (some 31) (.bslice 1 [.t 30]),
      .op (some 32) (.app 1 8 [.int .i64 0] (.t 29) (.t 31)),
      .op (some 4) (.mov (.t 32))])
    (.skip)))))))
   (.keep [1, 4, 5] (.ops [.op (some 14) (.mov (.t 5)),
    .op (some 15) (.bin .add (.t 14) (.k (.int .i64 1))),
    .op (some 5) (.mov (.t 15))])))))))))
 (.keep [4] (.seq (.ops [.op (some 33) (.mov (.t 4)),
   .op (some 2) (.mov (.t 33)),
   .op (some 3) (.mov (.k (.int .i64 0)))])
 (.keep [2, 3] (.ret))))))))))
theorem k_c_sDirtyPages_fits : fitsF Tryz.prog 16 ⟨34, k_c_sDirtyPages, [.t 2, .t 3]⟩ = true := by kernel_rfl
set_option maxHeartbeats 4000000 in
theorem c_sDirtyPages {s : GStore} (hb : StB s) : Con Tryz.prog noMv 16 [s.av] [] (fun r h => r = .tup [.osl 0 1 0 (dirtyF s).1.length, int (dirtyF s).2] ∧ h = [(0, .rows 1 ((dirtyF s).1.map intRow))]) := by
 refine con_of2 k_c_sDirtyPages_fits rfl fun C hP hmv => ?_
 unfold k_c_sDirtyPages
 obtain ⟨hw0, hw1, hw2, hw3, hwa, hw4, hw5, hw6⟩ := id hb
 refine cx_seq (cx_ops ?_)
 refine ax_e (e_box rfl rfl (by decide) rfl rfl rfl) ?_
 refine ax_q (q_mov rfl) ?_
 refine ax_q (q_mov rfl) ?_
 refine ax_nil (cx_keep rfl rfl (cx_seq (cx_seq (cx_ops ?_))))
 refine ax_q (q_ldN rfl rfl rfl) ?_
 refine ax_call rfl (vc_pure0 (c_sStoreOK (s := s) ?_) hP rfl rfl ?_)
 ·
  assumption
 refine ax_q (q_not rfl) ?_
 refine ax_nil (cx_keep rfl rfl ?_)
 refine cx_cond rfl (fun h0 => ?_) (fun h0 => ?_)
 ·
  have h0 : storeOK s = false := by simpa using h0
  have ed : dirtyF s = ([], 1) := if_neg (by rw [h0]; simp)
  refine cx_seq (cx_ops ?_)
  refine ax_e (e_bslice rfl (by decide) rfl rfl) ?_
  refine ax_q (q_mov rfl) ?_
  refine ax_q (q_mov rfl) ?_
  refine ax_nil (cx_keep rfl rfl ?_)
  refine cx_ret (retN (fun _ => 0) [10] rfl rfl rfl rfl rfl ?_)
  rw [ed]; exact ⟨rfl, rfl⟩
 ·
  have h0 : storeOK s = true := by simpa using h0
  have ed : dirtyF s = (dsp s 8, 0) := if_pos h0
  have hf3 := (ok_frames h0).1
  refine cx_skip ?_
  refine cx_keep rfl rfl (cx_seq (cx_ops ?_))
  refine ax_e (e_bslice rfl (by decide) rfl rfl) ?_
  refine ax_q (q_mov rfl) ?_
  refine ax_nil (cx_keep rfl rfl (cx_seq (cx_seq (cx_ops ?_))))
  refine ax_q (q_mov rfl) ?_
  refine ax_nil (cx_keep rfl rfl (cx_block ?_))
  refine cx_loopU (fun n k => k ≤ 8 ∧ n = 8 - k) (fun k : Nat => [(5, int k), (4, .osl 11 1 0 (dsp s k).length)]) (fun k => [(11, .rows 1 ((dsp s k).map intRow)), (1, .box (s.row.map .d))]) ⟨_, 0, ⟨Nat.zero_le _, rfl⟩, by repeat constructor⟩ ?_
  rintro n k ⟨hk, rfl⟩
  have hdl := @dsp_le s k
  refine cx_seq (cx_seq (cx_ops ?_))
  refine ax_q (q_mov rfl) ?_
  refine ax_q (q_ibin rfl rfl rfl) ?_
  refine ax_nil (cx_keep rfl rfl ?_)
  refine cx_cond rfl (fun h1 => ?_) (fun h1 => ?_)
  ·
   have h1 := dT h1
   have h1x : k < 8 := by omega
   refine cx_skip ?_
   refine cx_keep rfl rfl (cx_seq (cx_block (cx_seq (cx_ops ?_))))
   refine ax_q (q_ldN rfl rfl rfl) ?_
   refine ax_q (q_mov rfl) ?_
   refine ax_call rfl (vc_pure0 (c_l05Frame (s := s) (no := (k : Int)) ?_) hP rfl rfl ?_)
   ·
    assumption
   refine ax_q (q_mov rfl) ?_
   refine ax_nil (cx_keep rfl rfl (cx_seq (cx_ops ?_)))
   refine ax_q (q_mov rfl) ?_
   refine ax_q (q_ibin rfl rfl rfl) ?_
   refine ax_q (q_mov rfl) ?_
   apply ax_and rfl rfl
   ·
    intro g
    have g := dT g
    refine ax_q (q_fadr_ptr rfl) ?_
    refine ax_q (q_load1_ptr rfl rfl rfl) ?_
    refine ax_q (q_mov rfl) ?_
    refine ax_q (q_ixI rfl rfl (by omega) (mapAtZ (z := .zero) (frameAt_lt (by omega)))) ?_
    first | refine ax_q (q_fadr_ptr rfl) ?_ | refine ax_q (q_fadr_rptr rfl) ?_ | refine ax_q (q_fadr_ip rfl) ?_
    first | refine ax_q (q_load1_ptr rfl rfl rfl) ?_ | refine ax_q (q_load1_ip rfl) ?_
    exact ax_nil ⟨rfl, by repeat constructor⟩
   refine ax_nil (cx_keep rfl rfl ?_)
   refine cx_cond rfl (fun h2 => ?_) (fun h2 => ?_)
   ·
    have h2 : dirtyAt s (k : Int) = true := h2
    refine cx_ops ?_
    refine ax_q (q_mov rfl) ?_
    refine ax_q (q_mov rfl) ?_
    refine ax_e (e_bslice rfl (by decide) rfl rfl) ?_
    refine ax_e (e_appn (n' := (dsp s (k + 1)).length) (rs' := (dsp s (k + 1)).map intRow) rfl rfl (by simp) rfl (src_osl rfl (by simp)) (.inl (by decide)) (hbnd (by omega) (by simp) (by decide)) (by rw [dsp_t h2]; simp) (by rw [dsp_t h2]; exact app1 rfl)) ?_
    refine ax_q (q_mov rfl) ?_
    refine ax_nil (cx_keep rfl rfl (cx_ops ?_))
    refine ax_q (q_mov rfl) ?_
    refine ax_qe (r' := int ((k + 1 : Nat) : Int)) (q_ibin rfl rfl rfl) (by rw [wi (by omega) (by omega)]; rfl) ?_
    refine ax_q (q_mov rfl) ?_
    refine ax_nil ?_
    exact ⟨_, k + 1, by omega, ⟨by omega, rfl⟩, by repeat constructor⟩
   ·
    have h2 : dirtyAt s (k : Int) = false := h2
    refine cx_skip ?_
    refine cx_keep rfl rfl (cx_ops ?_)
    refine ax_q (q_mov rfl) ?_
    refine ax_qe (r' := int ((k + 1 : Nat) : Int)) (q_ibin rfl rfl rfl) (by rw [wi (by omega) (by omega)]; rfl) ?_
    refine ax_q (q_mov rfl) ?_
    refine ax_nil ?_
    exact ⟨_, k + 1, by omega, ⟨by omega, rfl⟩, by rw [dsp_f h2]; exact by repeat constructor⟩
  ·
   have h1 := dF h1
   obtain rfl : k = 8 := by omega
   refine cx_exit rfl ?_
   refine cx_keep rfl rfl (cx_seq (cx_ops ?_))
   refine ax_q (q_mov rfl) ?_
   refine ax_q (q_mov rfl) ?_
   refine ax_q (q_mov rfl) ?_
   refine ax_nil (cx_keep rfl rfl ?_)
   refine cx_ret (retN (fun _ => 0) [11] rfl rfl rfl rfl rfl ?_)
   rw [ed]; exact ⟨rfl, rfl⟩


/- loop.example/g00332/laws.toStringS -/
def k_c_toStringS : XCode :=
 .seq (.ops [.op (some 2) (.mov (.k (.nils 1)))])
 (.keep [0] (.seq (.ops [.op (some 5) (.mov (.t 0)),
   .op (some 6) (.lenS (.t 5)),
   .op (some 7) (.mkslice 1 16 [.str []] (.t 6) (.t 6)),
   .op (some 3) (.mov (.t 7))])
 (.keep [0, 3] (.seq (.seq (.ops [.op (some 4) (.mov (.k (.int .i64 0)))])
  (.keep [0, 3, 4] (.block 0 (.loop (.seq (.seq (.ops [.op (some 8) (.mov (.t 4)),
     .op (some 9) (.mov (.t 0)),
     .op (some 10) (.lenS (.t 9)),
     .op (some 11) (.bin .lss (.t 8) (.t 10))])
   (.keep [0, 3, 4, 11] (.cond (.t 11)
    (.skip)
    (.exit 0))))
   (.keep [0, 3, 4] (.seq (.block 1 (.ops [.op (some 14) (.mov (.t 3)),
     .op (some 15) (.mov (.t 4)),
     .op (some 16) (.mov (.t 0)),
     .op (some 17) (.mov (.t 4)),
     .op (some 18) (.iadr 1 (.t 16) (.t 17)),
     .op (some 19) (.load1 (.t 18)),
     .op (some 20) (.iadr 1 (.t 14) (.t 15)),
     .op none (.store 1 (.t 20) (.t 19))]))
   (.keep [0, 3, 4] (.ops [.op (some 12) (.mov (.t 4)),
    .op (some 13) (.bin .add (.t 12) (.k (.int .i64 1))),
    .op (some 4) (.mov (.t 13))])))))))))
 (.keep [3] (.seq (.ops [.op (some 21) (.mov (.t 3)),
   .op (some 2) (.mov (.t 21))])
 (.keep [2] (.ret))))))))
theorem k_c_toStringS_fits : fitsF Tryz.prog 103 ⟨22, k_c_toStringS, [.t 2]⟩ = true := by kernel_rfl
theorem c_toStringS {xs : List Str} (hw : xs.length ≤ 1048576) : Con Tryz.prog noMv 103 [.d (.sl 1 (xs.map strRow))] [] (fun r h => r = .osl 0 1 0 xs.length ∧ h = [(0, .rows 1 (xs.map strRow))]) := by
 refine con_of2 k_c_toStringS_fits rfl fun C hP hmv => ?_
 unfold k_c_toStringS
 refine cx_seq (cx_ops ?_)
 refine ax_q (q_mov rfl) ?_
 refine ax_nil (cx_keep rfl rfl (cx_seq (cx_ops ?_)))
 refine ax_q (q_mov rfl) ?_
 refine ax_q (q_lenS_map rfl) ?_
 refine ax_ee (e_mkslice rfl rfl rfl (by omega) (by omega) (by omega) (by decide) rfl rfl) (by rw [Int.toNat_natCast]) ?_
 refine ax_q (q_mov rfl) ?_
 refine ax_nil (cx_keep rfl rfl (cx_seq (cx_seq (cx_ops ?_))))
 refine ax_q (q_mov rfl) ?_
 refine ax_nil (cx_keep rfl rfl (cx_block ?_))
 refine cx_loopU (fun n k => k ≤ xs.length ∧ n = xs.length - k) (fun k : Nat => [(4, int k)]) (fun k => [(7, .rows 1 ((xs.take k).map strRow ++ List.replicate (xs.length - k) [.str []]))]) ⟨_, 0, ⟨Nat.zero_le _, rfl⟩, by repeat constructor⟩ ?_
 rintro n k ⟨hk, rfl⟩
 refine cx_seq (cx_seq (cx_ops ?_))
 refine ax_q (q_mov rfl) ?_
 refine ax_q (q_mov rfl) ?_
 refine ax_q (q_lenS_map rfl) ?_
 refine ax_q (q_ibin rfl rfl rfl) ?_
 refine ax_nil (cx_keep rfl rfl ?_)
 refine cx_cond rfl (fun h0 => ?_) (fun h0 => ?_)
 ·
  have h0 := dT h0
  have h1x : k < xs.length := by omega
  refine cx_skip ?_
  refine cx_keep rfl rfl (cx_seq (cx_block (cx_ops ?_)))
  refine ax_q (q_mov rfl) ?_
  refine ax_q (q_mov rfl) ?_
  refine ax_q (q_mov rfl) ?_
  refine ax_q (q_mov rfl) ?_
  refine ax_q (q_ix rfl rfl (mapAt h1x)) ?_
  first | refine ax_q (q_load1_ptr rfl rfl rfl) ?_ | refine ax_q (q_load1_ip rfl) ?_
  refine ax_q (q_ixo rfl rfl h1x) ?_
  refine ax_e (e_str (q := strRow xs[k]) rfl rfl rfl rfl rfl rfl (fillAtL h1x) rfl rfl (fillSetL h1x)) ?_
  refine ax_nil (cx_keep rfl rfl (cx_ops ?_))
  refine ax_q (q_mov rfl) ?_
  refine ax_q (q_add rfl rfl (by omega)) ?_
  refine ax_q (q_mov rfl) ?_
  refine ax_nil ?_
  exact ⟨_, k + 1, by omega, ⟨by omega, rfl⟩, by repeat constructor⟩
 ·
  have h0 := dF h0
  refine cx_exit rfl ?_
  refine cx_keep rfl rfl (cx_seq (cx_ops ?_))
  refine ax_q (q_mov rfl) ?_
  refine ax_q (q_mov rfl) ?_
  refine ax_nil (cx_keep rfl rfl ?_)
  refine cx_ret (retN (fun _ => 0) [7] rfl rfl rfl rfl rfl ?_)
  exact ⟨rfl, by rw [show k = xs.length from by omega, List.take_length, Nat.sub_self, List.replicate_zero, List.append_nil]; rfl⟩


/- loop.example/g00332/laws.toPending -/
def k_c_toPending : XCode :=
 .seq (.ops [.op (some 1) (.box (.t 0)),
   .op (some 2) (.alloc [.int .i64 0, .str []])])
 (.keep [1, 2] (.seq (.ops [.op (some 3) (.alloc [.int .i64 0, .str []])])
 (.keep [1, 2, 3] (.seq (.ops [.op (some 4) (.fadr (.t 1) 0),
   .op (some 5) (.load1 (.t 4)),
   .op (some 6) (.fadr (.t 3) 0),
   .op none (.store 1 (.t 6) (.t 5))])
 (.keep [1, 2, 3] (.seq (.ops [.op (some 7) (.fadr (.t 1) 1),
   .op (some 8) (.load1 (.t 7)),
   .op (some 9) (.fadr (.t 3) 1),
   .op none (.store 1 (.t 9) (.t 8))])
 (.keep [2, 3] (.seq (.ops [.op (some 10) (.loadN 2 (.t 3)),
   .op none (.store 2 (.t 2) (.t 10))])
 (.keep [2] (.ret))))))))))
theorem k_c_toPending_fits : fitsF Tryz.prog 147 ⟨11, k_c_toPending, [.cN 2 2]⟩ = true := by kernel_rfl
theorem c_toPending {a : GPending} : Con Tryz.prog noMv 147 [a.av] [] (fun r h => r = a.av ∧ h = []) := by
 refine con_of2 k_c_toPending_fits rfl fun C hP hmv => ?_
 unfold k_c_toPending
 refine cx_seq (cx_ops ?_)
 refine ax_e (e_box rfl rfl (by decide) rfl rfl rfl) ?_
 refine ax_e (e_alloc (by decide) rfl rfl) ?_
 refine ax_nil (cx_keep rfl rfl (cx_seq (cx_ops ?_)))
 refine ax_e (e_alloc (by decide) rfl rfl) ?_
 refine ax_nil (cx_keep rfl rfl (cx_seq (cx_ops ?_)))
 refine ax_q (q_fadr_ptr rfl) ?_
 refine ax_q (q_load1_ptr rfl rfl rfl) ?_
 refine ax_q (q_fadr_ptr rfl) ?_
 refine ax_e (e_st rfl rfl rfl rfl rfl rfl rfl) ?_
 refine ax_nil (cx_keep rfl rfl (cx_seq (cx_ops ?_)))
 refine ax_q (q_fadr_ptr rfl) ?_
 refine ax_q (q_load1_ptr rfl rfl rfl) ?_
 refine ax_q (q_fadr_ptr rfl) ?_
 refine ax_e (e_st rfl rfl rfl rfl rfl rfl rfl) ?_
 refine ax_nil (cx_keep rfl rfl (cx_seq (cx_ops ?_)))
 refine ax_q (q_ldN rfl rfl rfl) ?_
 refine ax_e (e_st rfl rfl rfl rfl rfl rfl rfl) ?_
 refine ax_nil (cx_keep rfl rfl ?_)
 refine cx_ret (ret0 rfl rfl ?_)
 exact ⟨rfl, rfl⟩


/- loop.example/g00332/laws.toPendingS -/
def k_c_toPendingS : XCode :=
 .seq (.ops [.op (some 2) (.mov (.k (.nils 2)))])
 (.keep [0] (.seq (.ops [.op (some 5) (.mov (.t 0)),
   .op (some 6) (.lenS (.t 5)),
   .op (some 7) (.mkslice 2 24 [.int .i64 0, .str []] (.t 6) (.t 6)),
   .op (some 3) (.mov (.t 7))])
 (.keep [0, 3] (.seq (.seq (.ops [.op (some 4) (.mov (.k (.int .i64 0)))])
  (.keep [0, 3, 4] (.block 0 (.loop (.seq (.seq (.ops [.op (some 8) (.mov (.t 4)),
     .op (some 9) (.mov (.t 0)),
     .op (some 10) (.lenS (.t 9)),
     .op (some 11) (.bin .lss (.t 8) (.t 10))])
   (.keep [0, 3, 4, 11] (.cond (.t 11)
    (.skip)
    (.exit 0))))
   (.keep [0, 3, 4] (.seq (.block 1 (.ops [.op (some 14) (.mov (.t 3)),
     .op (some 15) (.mov (.t 4)),
     .op (some 16) (.mov (.t 0)),
     .op (some 17) (.mov (.t 4)),
     .op (some 18) (.iadr 2 (.t 16) (.t 17)),
     .op (some 19) (.loadN 2 (.t 18)),
     .call (some 20) 147 [.t 19],
     .op (some 21) (.iadr 2 (.t 14) (.t 15)),
     .op none (.store 2 (.t 21) (.t 20))]))
   (.keep [0, 3, 4] (.ops [.op (some 12) (.mov (.t 4)),
    .op (some 13) (.bin .add (.t 12) (.k (.int .i64 1))),
    .op (some 4) (.mov (.t 13))])))))))))
 (.keep [3] (.seq (.ops [.op (some 22) (.mov (.t 3)),
   .op (some 2) (.mov (.t 22))])
 (.keep [2] (.ret))))))))
theorem k_c_toPendingS_fits : fitsF Tryz.prog 104 ⟨23, k_c_toPendingS, [.t 2]⟩ = true := by kernel_rfl
theorem c_toPendingS {xs : List GPending} (hw : xs.length ≤ 1048576) : Con Tryz.prog noMv 104 [.d (.sl 2 (xs.map GPending.row))] [] (fun r h => r = .osl 0 2 0 xs.length ∧ h = [(0, .rows 2 (xs.map GPending.row))]) := by
 refine con_of2 k_c_toPendingS_fits rfl fun C hP hmv => ?_
 unfold k_c_toPendingS
 refine cx_seq (cx_ops ?_)
 refine ax_q (q_mov rfl) ?_
 refine ax_nil (cx_keep rfl rfl (cx_seq (cx_ops ?_)))
 refine ax_q (q_mov rfl) ?_
 refine ax_q (q_lenS_map rfl) ?_
 refine ax_ee (e_mkslice rfl rfl rfl (by omega) (by omega) (by omega) (by decide) rfl rfl) (by rw [Int.toNat_natCast]) ?_
 refine ax_q (q_mov rfl) ?_
 refine ax_nil (cx_keep rfl rfl (cx_seq (cx_seq (cx_ops ?_))))
 refine ax_q (q_mov rfl) ?_
 refine ax_nil (cx_keep rfl rfl (cx_block ?_))
 refine cx_loopU (fun n k => k ≤ xs.length ∧ n = xs.length - k) (fun k : Nat => [(4, int k)]) (fun k => [(7, .rows 2 ((xs.take k).map GPending.row ++ List.replicate (xs.length - k) [.int .i64 0, .str []]))]) ⟨_, 0, ⟨Nat.zero_le _, rfl⟩, by repeat constructor⟩ ?_
 rintro n k ⟨hk, rfl⟩
 refine cx_seq (cx_seq (cx_ops ?_))
 refine ax_q (q_mov rfl) ?_
 refine ax_q (q_mov rfl) ?_
 refine ax_q (q_lenS_map rfl) ?_
 refine ax_q (q_ibin rfl rfl rfl) ?_
 refine ax_nil (cx_keep rfl rfl ?_)
 refine cx_cond rfl (fun h0 => ?_) (fun h0 => ?_)
 ·
  have h0 := dT h0
  have h1x : k < xs.length := by omega
  refine cx_skip ?_
  refine cx_keep rfl rfl (cx_seq (cx_block (cx_ops ?_)))
  refine ax_q (q_mov rfl) ?_
  refine ax_q (q_mov rfl) ?_
  refine ax_q (q_mov rfl) ?_
  refine ax_q (q_mov rfl) ?_
  refine ax_q (q_ix rfl rfl (mapAt h1x)) ?_
  first | refine ax_q (q_ldN rfl rfl rfl) ?_ | refine ax_q (q_loadN_ip rfl (Nat.le_refl _)) ?_
  refine ax_call rfl (vc_pure0 (c_toPending  ) hP rfl rfl ?_)
  refine ax_q (q_ixo rfl rfl h1x) ?_
  refine ax_e (e_str (q := GPending.row xs[k]) rfl rfl rfl rfl rfl rfl (fillAtL h1x) rfl rfl (fillSetL h1x)) ?_
  refine ax_nil (cx_keep rfl rfl (cx_ops ?_))
  refine ax_q (q_mov rfl) ?_
  refine ax_q (q_add rfl rfl (by omega)) ?_
  refine ax_q (q_mov rfl) ?_
  refine ax_nil ?_
  exact ⟨_, k + 1, by omega, ⟨by omega, rfl⟩, by repeat constructor⟩
 ·
  have h0 := dF h0
  refine cx_exit rfl ?_
  refine cx_keep rfl rfl (cx_seq (cx_ops ?_))
  refine ax_q (q_mov rfl) ?_
  refine ax_q (q_mov rfl) ?_
  refine ax_nil (cx_keep rfl rfl ?_)
  refine cx_ret (retN (fun _ => 0) [7] rfl rfl rfl rfl rfl ?_)
  exact ⟨rfl, by rw [show k = xs.length from by omega, List.take_length, Nat.sub_self, List.replicate_zero, List.append_nil]; rfl⟩


/- loop.example/g00332/laws.toIntS -/
def k_c_toIntS : XCode :=
 .seq (.ops [.op (some 2) (.mov (.k (.nils 1)))])
 (.keep [0] (.seq (.ops [.op (some 5) (.mov (.t 0)),
   .op (some 6) (.lenS (.t 5)),
   .op (some 7) (.mkslice 1 8 [.int .i64 0] (.t 6) (.t 6)),
   .op (some 3) (.mov (.t 7))])
 (.keep [0, 3] (.seq (.seq (.ops [.op (some 4) (.mov (.k (.int .i64 0)))])
  (.keep [0, 3, 4] (.block 0 (.loop (.seq (.seq (.ops [.op (some 8) (.mov (.t 4)),
     .op (some 9) (.mov (.t 0)),
     .op (some 10) (.lenS (.t 9)),
     .op (some 11) (.bin .lss (.t 8) (.t 10))])
   (.keep [0, 3, 4, 11] (.cond (.t 11)
    (.skip)
    (.exit 0))))
   (.keep [0, 3, 4] (.seq (.block 1 (.ops [.op (some 14) (.mov (.t 3)),
     .op (some 15) (.mov (.t 4)),
     .op (some 16) (.mov (.t 0)),
     .op (some 17) (.mov (.t 4)),
     .op (some 18) (.iadr 1 (.t 16) (.t 17)),
     .op (some 19) (.load1 (.t 18)),
     .op (some 20) (.iadr 1 (.t 14) (.t 15)),
     .op none (.store 1 (.t 20) (.t 19))]))
   (.keep [0, 3, 4] (.ops [.op (some 12) (.mov (.t 4)),
    .op (some 13) (.bin .add (.t 12) (.k (.int .i64 1))),
    .op (some 4) (.mov (.t 13))])))))))))
 (.keep [3] (.seq (.ops [.op (some 21) (.mov (.t 3)),
   .op (some 2) (.mov (.t 21))])
 (.keep [2] (.ret))))))))
theorem k_c_toIntS_fits : fitsF Tryz.prog 105 ⟨22, k_c_toIntS, [.t 2]⟩ = true := by kernel_rfl
theorem c_toIntS {xs : List Int} (hw : xs.length ≤ 1048576) : Con Tryz.prog noMv 105 [.d (.sl 1 (xs.map intRow))] [] (fun r h => r = .osl 0 1 0 xs.length ∧ h = [(0, .rows 1 (xs.map intRow))]) := by
 refine con_of2 k_c_toIntS_fits rfl fun C hP hmv => ?_
 unfold k_c_toIntS
 refine cx_seq (cx_ops ?_)
 refine ax_q (q_mov rfl) ?_
 refine ax_nil (cx_keep rfl rfl (cx_seq (cx_ops ?_)))
 refine ax_q (q_mov rfl) ?_
 refine ax_q (q_lenS_map rfl) ?_
 refine ax_ee (e_mkslice rfl rfl rfl (by omega) (by omega) (by omega) (by decide) rfl rfl) (by rw [Int.toNat_natCast]) ?_
 refine ax_q (q_mov rfl) ?_
 refine ax_nil (cx_keep rfl rfl (cx_seq (cx_seq (cx_ops ?_))))
 refine ax_q (q_mov rfl) ?_
 refine ax_nil (cx_keep rfl rfl (cx_block ?_))
 refine cx_loopU (fun n k => k ≤ xs.length ∧ n = xs.length - k) (fun k : Nat => [(4, int k)]) (fun k => [(7, .rows 1 ((xs.take k).map intRow ++ List.replicate (xs.length - k) [.int .i64 0]))]) ⟨_, 0, ⟨Nat.zero_le _, rfl⟩, by repeat constructor⟩ ?_
 rintro n k ⟨hk, rfl⟩
 refine cx_seq (cx_seq (cx_ops ?_))
 refine ax_q (q_mov rfl) ?_
 refine ax_q (q_mov rfl) ?_
 refine ax_q (q_lenS_map rfl) ?_
 refine ax_q (q_ibin rfl rfl rfl) ?_
 refine ax_nil (cx_keep rfl rfl ?_)
 refine cx_cond rfl (fun h0 => ?_) (fun h0 => ?_)
 ·
  have h0 := dT h0
  have h1x : k < xs.length := by omega
  refine cx_skip ?_
  refine cx_keep rfl rfl (cx_seq (cx_block (cx_ops ?_)))
  refine ax_q (q_mov rfl) ?_
  refine ax_q (q_mov rfl) ?_
  refine ax_q (q_mov rfl) ?_
  refine ax_q (q_mov rfl) ?_
  refine ax_q (q_ix rfl rfl (mapAt h1x)) ?_
  first | refine ax_q (q_load1_ptr rfl rfl rfl) ?_ | refine ax_q (q_load1_ip rfl) ?_
  refine ax_q (q_ixo rfl rfl h1x) ?_
  refine ax_e (e_str (q := intRow xs[k]) rfl rfl rfl rfl rfl rfl (fillAtL h1x) rfl rfl (fillSetL h1x)) ?_
  refine ax_nil (cx_keep rfl rfl (cx_ops ?_))
  refine ax_q (q_mov rfl) ?_
  refine ax_q (q_add rfl rfl (by omega)) ?_
  refine ax_q (q_mov rfl) ?_
  refine ax_nil ?_
  exact ⟨_, k + 1, by omega, ⟨by omega, rfl⟩, by repeat constructor⟩
 ·
  have h0 := dF h0
  refine cx_exit rfl ?_
  refine cx_keep rfl rfl (cx_seq (cx_ops ?_))
  refine ax_q (q_mov rfl) ?_
  refine ax_q (q_mov rfl) ?_
  refine ax_nil (cx_keep rfl rfl ?_)
  refine cx_ret (retN (fun _ => 0) [7] rfl rfl rfl rfl rfl ?_)
  exact ⟨rfl, by rw [show k = xs.length from by omega, List.take_length, Nat.sub_self, List.replicate_zero, List.append_nil]; rfl⟩


/- loop.example/g00332/laws.toDisk -/
def k_c_toDisk : XCode :=
 .seq (.ops [.op (some 1) (.box (.t 0)),
   .op (some 2) (.alloc [.nils 1, .nils 2, .bool false, .nils 1])])
 (.keep [1, 2] (.seq (.ops [.op (some 3) (.alloc [.nils 1, .nils 2, .bool false, .nils 1])])
 (.keep [1, 2, 3] (.seq (.ops [.op (some 4) (.fadr (.t 1) 0),
   .op (some 5) (.load1 (.t 4)),
   .call (some 6) 103 [.t 5],
   .op (some 7) (.fadr (.t 3) 0),
   .op none (.store 1 (.t 7) (.t 6))])
 (.keep [1, 2, 3] (.seq (.ops [.op (some 8) (.fadr (.t 1) 1),
   .op (some 9) (.load1 (.t 8)),
   .call (some 10) 104 [.t 9],
   .op (some 11) (.fadr (.t 3) 1),
   .op none (.store 1 (.t 11) (.t 10))])
 (.keep [1, 2, 3] (.seq (.ops [.op (some 12) (.fadr (.t 1) 2),
   .op (some 13) (.load1 (.t 12)),
   .op (some 14) (.fadr (.t 3) 2),
   .op none (.store 1 (.t 14) (.t 13))])
 (.keep [1, 2, 3] (.seq (.ops [.op (some 15) (.fadr (.t 1) 3),
   .op (some 16) (.load1 (.t 15)),
   .call (some 17) 105 [.t 16],
   .op (some 18) (.fadr (.t 3) 3),
   .op none (.store 1 (.t 18) (.t 17))])
 (.keep [2, 3] (.seq (.ops [.op (some 19) (.loadN 4 (.t 3)),
   .op none (.store 4 (.t 2) (.t 19))])
 (.keep [2] (.ret))))))))))))))
theorem k_c_toDisk_fits : fitsF Tryz.prog 49 ⟨20, k_c_toDisk, [.cN 2 4]⟩ = true := by kernel_rfl
theorem c_toDisk {a : GDisk} (hw0 : a.Sectors.length ≤ 1048576) (hw1 : a.Cache.length ≤ 1048576) (hw2 : a.Keep.length ≤ 1048576) : Con Tryz.prog noMv 49 [a.av] [] (fun r h => r = a.avO 0 1 2 ∧ h = a.hO 0 1 2) := by
 refine con_of2 k_c_toDisk_fits rfl fun C hP hmv => ?_
 unfold k_c_toDisk
 refine cx_seq (cx_ops ?_)
 refine ax_e (e_box rfl rfl (by decide) rfl rfl rfl) ?_
 refine ax_e (e_alloc (by decide) rfl rfl) ?_
 refine ax_nil (cx_keep rfl rfl (cx_seq (cx_ops ?_)))
 refine ax_e (e_alloc (by decide) rfl rfl) ?_
 refine ax_nil (cx_keep rfl rfl (cx_seq (cx_ops ?_)))
 refine ax_q (q_fadr_ptr rfl) ?_
 refine ax_q (q_load1_ptr rfl rfl rfl) ?_
 refine ax_call rfl (vc_pure (c_toStringS  ?_) hP rfl ?_)
 ·
  assumption
 rintro r h ⟨rfl, rfl⟩
 refine ⟨fun i => 6 + 200 * i, [0], ⟨rfl, rfl, rfl, rfl, rfl, (by first | exact (fun h => absurd h Bool.false_ne_true) | exact (fun _ => ⟨rfl, (noisl_of (by repeat (first | exact trivial | refine ⟨noisl_map (fun _ => rfl), ?_⟩ | refine ⟨?_, ?_⟩)))⟩))⟩, ?_⟩
 skip
 refine ax_q (q_fadr_ptr rfl) ?_
 refine ax_e (e_st rfl rfl rfl rfl rfl rfl rfl) ?_
 refine ax_nil (cx_keep rfl rfl (cx_seq (cx_ops ?_)))
 refine ax_q (q_fadr_ptr rfl) ?_
 refine ax_q (q_load1_ptr rfl rfl rfl) ?_
 refine ax_call rfl (vc_pure (c_toPendingS  ?_) hP rfl ?_)
 ·
  assumption
 rintro r h ⟨rfl, rfl⟩
 refine ⟨fun i => 10 + 200 * i, [0], ⟨rfl, rfl, rfl, rfl, rfl, (by first | exact (fun h => absurd h Bool.false_ne_true) | exact (fun _ => ⟨rfl, (noisl_of (by repeat (first | exact trivial | refine ⟨noisl_map (fun _ => rfl), ?_⟩ | refine ⟨?_, ?_⟩)))⟩))⟩, ?_⟩
 skip
 refine ax_q (q_fadr_ptr rfl) ?_
 refine ax_e (e_st rfl rfl rfl rfl rfl rfl rfl) ?_
 refine ax_nil (cx_keep rfl rfl (cx_seq (cx_ops ?_)))
 refine ax_q (q_fadr_ptr rfl) ?_
 refine ax_q (q_load1_ptr rfl rfl rfl) ?_
 refine ax_q (q_fadr_ptr rfl) ?_
 refine ax_e (e_st rfl rfl rfl rfl rfl rfl rfl) ?_
 refine ax_nil (cx_keep rfl rfl (cx_seq (cx_ops ?_)))
 refine ax_q (q_fadr_ptr rfl) ?_
 refine ax_q (q_load1_ptr rfl rfl rfl) ?_
 refine ax_call rfl (vc_pure (c_toIntS  ?_) hP rfl ?_)
 ·
  assumption
 rintro r h ⟨rfl, rfl⟩
 refine ⟨fun i => 17 + 200 * i, [0], ⟨rfl, rfl, rfl, rfl, rfl, (by first | exact (fun h => absurd h Bool.false_ne_true) | exact (fun _ => ⟨rfl, (noisl_of (by repeat (first | exact trivial | refine ⟨noisl_map (fun _ => rfl), ?_⟩ | refine ⟨?_, ?_⟩)))⟩))⟩, ?_⟩
 skip
 refine ax_q (q_fadr_ptr rfl) ?_
 refine ax_e (e_st rfl rfl rfl rfl rfl rfl rfl) ?_
 refine ax_nil (cx_keep rfl rfl (cx_seq (cx_ops ?_)))
 refine ax_q (q_ldN rfl rfl rfl) ?_
 refine ax_e (e_st rfl rfl rfl rfl rfl rfl rfl) ?_
 refine ax_nil (cx_keep rfl rfl ?_)
 refine cx_ret (retN (fun e => bif Nat.beq e 10 then 1 else bif Nat.beq e 17 then 2 else 0) [6, 10, 17] rfl rfl rfl rfl rfl ?_)
 exact ⟨rfl, rfl⟩


/- loop.example/g00332/laws.toLogRecord -/
def k_c_toLogRecord : XCode :=
 .seq (.ops [.op (some 1) (.box (.t 0)),
   .op (some 2) (.alloc [.int .i64 0, .int .i64 0, .int .i64 0, .int .i64 0, .int .i64 0, .int .i64 0, .int .i64 0, .int .i64 0, .str [], .str []])])
 (.keep [1, 2] (.seq (.ops [.op (some 3) (.alloc [.int .i64 0, .int .i64 0, .int .i64 0, .int .i64 0, .int .i64 0, .int .i64 0, .int .i64 0, .int .i64 0, .str [], .str []])])
 (.keep [1, 2, 3] (.seq (.ops [.op (some 4) (.fadr (.t 1) 0),
   .op (some 5) (.load1 (.t 4)),
   .op (some 6) (.fadr (.t 3) 0),
   .op none (.store 1 (.t 6) (.t 5))])
 (.keep [1, 2, 3] (.seq (.ops [.op (some 7) (.fadr (.t 1) 1),
   .op (some 8) (.load1 (.t 7)),
   .op (some 9) (.fadr (.t 3) 1),
   .op none (.store 1 (.t 9) (.t 8))])
 (.keep [1, 2, 3] (.seq (.ops [.op (some 10) (.fadr (.t 1) 2),
   .op (some 11) (.load1 (.t 10)),
   .op (some 12) (.fadr (.t 3) 2),
   .op none (.store 1 (.t 12) (.t 11))])
 (.keep [1, 2, 3] (.seq (.ops [.op (some 13) (.fadr (.t 1) 3),
   .op (some 14) (.load1 (.t 13)),
   .op (some 15) (.fadr (.t 3) 3),
   .op none (.store 1 (.t 15) (.t 14))])
 (.keep [1, 2, 3] (.seq (.ops [.op (some 16) (.fadr (.t 1) 4),
   .op (some 17) (.load1 (.t 16)),
   .op (some 18) (.fadr (.t 3) 4),
   .op none (.store 1 (.t 18) (.t 17))])
 (.keep [1, 2, 3] (.seq (.ops [.op (some 19) (.fadr (.t 1) 5),
   .op (some 20) (.load1 (.t 19)),
   .op (some 21) (.fadr (.t 3) 5),
   .op none (.store 1 (.t 21) (.t 20))])
 (.keep [1, 2, 3] (.seq (.ops [.op (some 22) (.fadr (.t 1) 6),
   .op (some 23) (.load1 (.t 22)),
   .op (some 24) (.fadr (.t 3) 6),
   .op none (.store 1 (.t 24) (.t 23))])
 (.keep [1, 2, 3] (.seq (.ops [.op (some 25) (.fadr (.t 1) 7),
   .op (some 26) (.load1 (.t 25)),
   .op (some 27) (.fadr (.t 3) 7),
   .op none (.store 1 (.t 27) (.t 26))])
 (.keep [1, 2, 3] (.seq (.ops [.op (some 28) (.fadr (.t 1) 8),
   .op (some 29) (.load1 (.t 28)),
   .op (some 30) (.fadr (.t 3) 8),
   .op none (.store 1 (.t 30) (.t 29))])
 (.keep [1, 2, 3] (.seq (.ops [.op (some 31) (.fadr (.t 1) 9),
   .op (some 32) (.load1 (.t 31)),
   .op (some 33) (.fadr (.t 3) 9),
   .op none (.store 1 (.t 33) (.t 32))])
 (.keep [2, 3] (.seq (.ops [.op (some 34) (.loadN 10 (.t 3)),
   .op none (.store 10 (.t 2) (.t 34))])
 (.keep [2] (.ret))))))))))))))))))))))))))
theorem k_c_toLogRecord_fits : fitsF Tryz.prog 106 ⟨35, k_c_toLogRecord, [.cN 2 10]⟩ = true := by kernel_rfl
theorem c_toLogRecord {a : GLogRecord} : Con Tryz.prog noMv 106 [a.av] [] (fun r h => r = a.av ∧ h = []) := by
 refine con_of2 k_c_toLogRecord_fits rfl fun C hP hmv => ?_
 unfold k_c_toLogRecord
 refine cx_seq (cx_ops ?_)
 refine ax_e (e_box rfl rfl (by decide) rfl rfl rfl) ?_
 refine ax_e (e_alloc (by decide) rfl rfl) ?_
 refine ax_nil (cx_keep rfl rfl (cx_seq (cx_ops ?_)))
 refine ax_e (e_alloc (by decide) rfl rfl) ?_
 refine ax_nil (cx_keep rfl rfl (cx_seq (cx_ops ?_)))
 refine ax_q (q_fadr_ptr rfl) ?_
 refine ax_q (q_load1_ptr rfl rfl rfl) ?_
 refine ax_q (q_fadr_ptr rfl) ?_
 refine ax_e (e_st rfl rfl rfl rfl rfl rfl rfl) ?_
 refine ax_nil (cx_keep rfl rfl (cx_seq (cx_ops ?_)))
 refine ax_q (q_fadr_ptr rfl) ?_
 refine ax_q (q_load1_ptr rfl rfl rfl) ?_
 refine ax_q (q_fadr_ptr rfl) ?_
 refine ax_e (e_st rfl rfl rfl rfl rfl rfl rfl) ?_
 refine ax_nil (cx_keep rfl rfl (cx_seq (cx_ops ?_)))
 refine ax_q (q_fadr_ptr rfl) ?_
 refine ax_q (q_load1_ptr rfl rfl rfl) ?_
 refine ax_q (q_fadr_ptr rfl) ?_
 refine ax_e (e_st rfl rfl rfl rfl rfl rfl rfl) ?_
 refine ax_nil (cx_keep rfl rfl (cx_seq (cx_ops ?_)))
 refine ax_q (q_fadr_ptr rfl) ?_
 refine ax_q (q_load1_ptr rfl rfl rfl) ?_
 refine ax_q (q_fadr_ptr rfl) ?_
 refine ax_e (e_st rfl rfl rfl rfl rfl rfl rfl) ?_
 refine ax_nil (cx_keep rfl rfl (cx_seq (cx_ops ?_)))
 refine ax_q (q_fadr_ptr rfl) ?_
 refine ax_q (q_load1_ptr rfl rfl rfl) ?_
 refine ax_q (q_fadr_ptr rfl) ?_
 refine ax_e (e_st rfl rfl rfl rfl rfl rfl rfl) ?_
 refine ax_nil (cx_keep rfl rfl (cx_seq (cx_ops ?_)))
 refine ax_q (q_fadr_ptr rfl) ?_
 refine ax_q (q_load1_ptr rfl rfl rfl) ?_
 refine ax_q (q_fadr_ptr rfl) ?_
 refine ax_e (e_st rfl rfl rfl rfl rfl rfl rfl) ?_
 refine ax_nil (cx_keep rfl rfl (cx_seq (cx_ops ?_)))
 refine ax_q (q_fadr_ptr rfl) ?_
 refine ax_q (q_load1_ptr rfl rfl rfl) ?_
 refine ax_q (q_fadr_ptr rfl) ?_
 refine ax_e (e_st rfl rfl rfl rfl rfl rfl rfl) ?_
 refine ax_nil (cx_keep rfl rfl (cx_seq (cx_ops ?_)))
 refine ax_q (q_fadr_ptr rfl) ?_
 refine ax_q (q_load1_ptr rfl rfl rfl) ?_
 refine ax_q (q_fadr_ptr rfl) ?_
 refine ax_e (e_st rfl rfl rfl rfl rfl rfl rfl) ?_
 refine ax_nil (cx_keep rfl rfl (cx_seq (cx_ops ?_)))
 refine ax_q (q_fadr_ptr rfl) ?_
 refine ax_q (q_load1_ptr rfl rfl rfl) ?_
 refine ax_q (q_fadr_ptr rfl) ?_
 refine ax_e (e_st rfl rfl rfl rfl rfl rfl rfl) ?_
 refine ax_nil (cx_keep rfl rfl (cx_seq (cx_ops ?_)))
 refine ax_q (q_fadr_ptr rfl) ?_
 refine ax_q (q_load1_ptr rfl rfl rfl) ?_
 refine ax_q (q_fadr_ptr rfl) ?_
 refine ax_e (e_st rfl rfl rfl rfl rfl rfl rfl) ?_
 refine ax_nil (cx_keep rfl rfl (cx_seq (cx_ops ?_)))
 refine ax_q (q_ldN rfl rfl rfl) ?_
 refine ax_e (e_st rfl rfl rfl rfl rfl rfl rfl) ?_
 refine ax_nil (cx_keep rfl rfl ?_)
 refine cx_ret (ret0 rfl rfl ?_)
 exact ⟨rfl, rfl⟩


/- loop.example/g00332/laws.toLogRecordS -/
def k_c_toLogRecordS : XCode :=
 .seq (.ops [.op (some 2) (.mov (.k (.nils 10)))])
 (.keep [0] (.seq (.ops [.op (some 5) (.mov (.t 0)),
   .op (some 6) (.lenS (.t 5)),
   .op (some 7) (.mkslice 10 96 [.int .i64 0, .int .i64 0, .int .i64 0, .int .i64 0, .int .i64 0, .int .i64 0, .int .i64 0, .int .i64 0, .str [], .str []] (.t 6) (.t 6)),
   .op (some 3) (.mov (.t 7))])
 (.keep [0, 3] (.seq (.seq (.ops [.op (some 4) (.mov (.k (.int .i64 0)))])
  (.keep [0, 3, 4] (.block 0 (.loop (.seq (.seq (.ops [.op (some 8) (.mov (.t 4)),
     .op (some 9) (.mov (.t 0)),
     .op (some 10) (.lenS (.t 9)),
     .op (some 11) (.bin .lss (.t 8) (.t 10))])
   (.keep [0, 3, 4, 11] (.cond (.t 11)
    (.skip)
    (.exit 0))))
   (.keep [0, 3, 4] (.seq (.block 1 (.ops [.op (some 14) (.mov (.t 3)),
     .op (some 15) (.mov (.t 4)),
     .op (some 16) (.mov (.t 0)),
     .op (some 17) (.mov (.t 4)),
     .op (some 18) (.iadr 10 (.t 16) (.t 17)),
     .op (some 19) (.loadN 10 (.t 18)),
     .call (some 20) 106 [.t 19],
     .op (some 21) (.iadr 10 (.t 14) (.t 15)),
     .op none (.store 10 (.t 21) (.t 20))]))
   (.keep [0, 3, 4] (.ops [.op (some 12) (.mov (.t 4)),
    .op (some 13) (.bin .add (.t 12) (.k (.int .i64 1))),
    .op (some 4) (.mov (.t 13))])))))))))
 (.keep [3] (.seq (.ops [.op (some 22) (.mov (.t 3)),
   .op (some 2) (.mov (.t 22))])
 (.keep [2] (.ret))))))))
theorem k_c_toLogRecordS_fits : fitsF Tryz.prog 50 ⟨23, k_c_toLogRecordS, [.t 2]⟩ = true := by kernel_rfl
theorem c_toLogRecordS {xs : List GLogRecord} (hw : xs.length ≤ 1048576) : Con Tryz.prog noMv 50 [.d (.sl 10 (xs.map GLogRecord.row))] [] (fun r h => r = .osl 0 10 0 xs.length ∧ h = [(0, .rows 10 (xs.map GLogRecord.row))]) := by
 refine con_of2 k_c_toLogRecordS_fits rfl fun C hP hmv => ?_
 unfold k_c_toLogRecordS
 refine cx_seq (cx_ops ?_)
 refine ax_q (q_mov rfl) ?_
 refine ax_nil (cx_keep rfl rfl (cx_seq (cx_ops ?_)))
 refine ax_q (q_mov rfl) ?_
 refine ax_q (q_lenS_map rfl) ?_
 refine ax_ee (e_mkslice rfl rfl rfl (by omega) (by omega) (by omega) (by decide) rfl rfl) (by rw [Int.toNat_natCast]) ?_
 refine ax_q (q_mov rfl) ?_
 refine ax_nil (cx_keep rfl rfl (cx_seq (cx_seq (cx_ops ?_))))
 refine ax_q (q_mov rfl) ?_
 refine ax_nil (cx_keep rfl rfl (cx_block ?_))
 refine cx_loopU (fun n k => k ≤ xs.length ∧ n = xs.length - k) (fun k : Nat => [(4, int k)]) (fun k => [(7, .rows 10 ((xs.take k).map GLogRecord.row ++ List.replicate (xs.length - k) [.int .i64 0, .int .i64 0, .int .i64 0, .int .i64 0, .int .i64 0, .int .i64 0, .int .i64 0, .int .i64 0, .str [], .str []]))]) ⟨_, 0, ⟨Nat.zero_le _, rfl⟩, by repeat constructor⟩ ?_
 rintro n k ⟨hk, rfl⟩
 refine cx_seq (cx_seq (cx_ops ?_))
 refine ax_q (q_mov rfl) ?_
 refine ax_q (q_mov rfl) ?_
 refine ax_q (q_lenS_map rfl) ?_
 refine ax_q (q_ibin rfl rfl rfl) ?_
 refine ax_nil (cx_keep rfl rfl ?_)
 refine cx_cond rfl (fun h0 => ?_) (fun h0 => ?_)
 ·
  have h0 := dT h0
  have h1x : k < xs.length := by omega
  refine cx_skip ?_
  refine cx_keep rfl rfl (cx_seq (cx_block (cx_ops ?_)))
  refine ax_q (q_mov rfl) ?_
  refine ax_q (q_mov rfl) ?_
  refine ax_q (q_mov rfl) ?_
  refine ax_q (q_mov rfl) ?_
  refine ax_q (q_ix rfl rfl (mapAt h1x)) ?_
  first | refine ax_q (q_ldN rfl rfl rfl) ?_ | refine ax_q (q_loadN_ip rfl (Nat.le_refl _)) ?_
  refine ax_call rfl (vc_pure0 (c_toLogRecord  ) hP rfl rfl ?_)
  refine ax_q (q_ixo rfl rfl h1x) ?_
  refine ax_e (e_str (q := GLogRecord.row xs[k]) rfl rfl rfl rfl rfl rfl (fillAtL h1x) rfl rfl (fillSetL h1x)) ?_
  refine ax_nil (cx_keep rfl rfl (cx_ops ?_))
  refine ax_q (q_mov rfl) ?_
  refine ax_q (q_add rfl rfl (by omega)) ?_
  refine ax_q (q_mov rfl) ?_
  refine ax_nil ?_
  exact ⟨_, k + 1, by omega, ⟨by omega, rfl⟩, by repeat constructor⟩
 ·
  have h0 := dF h0
  refine cx_exit rfl ?_
  refine cx_keep rfl rfl (cx_seq (cx_ops ?_))
  refine ax_q (q_mov rfl) ?_
  refine ax_q (q_mov rfl) ?_
  refine ax_nil (cx_keep rfl rfl ?_)
  refine cx_ret (retN (fun _ => 0) [7] rfl rfl rfl rfl rfl ?_)
  exact ⟨rfl, by rw [show k = xs.length from by omega, List.take_length, Nat.sub_self, List.replicate_zero, List.append_nil]; rfl⟩


/- loop.example/g00332/laws.toPage -/
def k_c_toPage : XCode :=
 .seq (.ops [.op (some 1) (.box (.t 0)),
   .op (some 2) (.alloc [.int .i64 0, .nils 1])])
 (.keep [1, 2] (.seq (.ops [.op (some 3) (.alloc [.int .i64 0, .nils 1])])
 (.keep [1, 2, 3] (.seq (.ops [.op (some 4) (.fadr (.t 1) 0),
   .op (some 5) (.load1 (.t 4)),
   .op (some 6) (.fadr (.t 3) 0),
   .op none (.store 1 (.t 6) (.t 5))])
 (.keep [1, 2, 3] (.seq (.ops [.op (some 7) (.fadr (.t 1) 1),
   .op (some 8) (.load1 (.t 7)),
   .call (some 9) 103 [.t 8],
   .op (some 10) (.fadr (.t 3) 1),
   .op none (.store 1 (.t 10) (.t 9))])
 (.keep [2, 3] (.seq (.ops [.op (some 11) (.loadN 2 (.t 3)),
   .op none (.store 2 (.t 2) (.t 11))])
 (.keep [2] (.ret))))))))))
theorem k_c_toPage_fits : fitsF Tryz.prog 148 ⟨12, k_c_toPage, [.cN 2 2]⟩ = true := by kernel_rfl
theorem c_toPage {a : Page} (hw0 : a.slots.length ≤ 1048576) : Con Tryz.prog noMv 148 [a.av] [] (fun r h => r = a.avO 0 ∧ h = a.hO 0) := by
 refine con_of2 k_c_toPage_fits rfl fun C hP hmv => ?_
 unfold k_c_toPage
 refine cx_seq (cx_ops ?_)
 refine ax_e (e_box rfl rfl (by decide) rfl rfl rfl) ?_
 refine ax_e (e_alloc (by decide) rfl rfl) ?_
 refine ax_nil (cx_keep rfl rfl (cx_seq (cx_ops ?_)))
 refine ax_e (e_alloc (by decide) rfl rfl) ?_
 refine ax_nil (cx_keep rfl rfl (cx_seq (cx_ops ?_)))
 refine ax_q (q_fadr_ptr rfl) ?_
 refine ax_q (q_load1_ptr rfl rfl rfl) ?_
 refine ax_q (q_fadr_ptr rfl) ?_
 refine ax_e (e_st rfl rfl rfl rfl rfl rfl rfl) ?_
 refine ax_nil (cx_keep rfl rfl (cx_seq (cx_ops ?_)))
 refine ax_q (q_fadr_ptr rfl) ?_
 refine ax_q (q_load1_ptr rfl rfl rfl) ?_
 refine ax_call rfl (vc_pure (c_toStringS  ?_) hP rfl ?_)
 ·
  assumption
 rintro r h ⟨rfl, rfl⟩
 refine ⟨fun i => 9 + 200 * i, [0], ⟨rfl, rfl, rfl, rfl, rfl, (by first | exact (fun h => absurd h Bool.false_ne_true) | exact (fun _ => ⟨rfl, (noisl_of (by repeat (first | exact trivial | refine ⟨noisl_map (fun _ => rfl), ?_⟩ | refine ⟨?_, ?_⟩)))⟩))⟩, ?_⟩
 skip
 refine ax_q (q_fadr_ptr rfl) ?_
 refine ax_e (e_st rfl rfl rfl rfl rfl rfl rfl) ?_
 refine ax_nil (cx_keep rfl rfl (cx_seq (cx_ops ?_)))
 refine ax_q (q_ldN rfl rfl rfl) ?_
 refine ax_e (e_st rfl rfl rfl rfl rfl rfl rfl) ?_
 refine ax_nil (cx_keep rfl rfl ?_)
 refine cx_ret (retN (fun e => 0) [9] rfl rfl rfl rfl rfl ?_)
 exact ⟨rfl, rfl⟩


/- loop.example/g00332/laws.toFrame -/
def k_c_toFrame : XCode :=
 .seq (.ops [.op (some 1) (.box (.t 0)),
   .op (some 2) (.alloc [.int .i64 0, .int .i64 0, .nils 1, .bool false, .int .i64 0])])
 (.keep [1, 2] (.seq (.ops [.op (some 3) (.alloc [.int .i64 0, .int .i64 0, .nils 1, .bool false, .int .i64 0])])
 (.keep [1, 2, 3] (.seq (.ops [.op (some 4) (.fadr (.t 1) 0),
   .op (some 5) (.load1 (.t 4)),
   .op (some 6) (.fadr (.t 3) 0),
   .op none (.store 1 (.t 6) (.t 5))])
 (.keep [1, 2, 3] (.seq (.ops [.op (some 7) (.fadr (.t 1) 1),
   .op (some 8) (.loadN 2 (.t 7)),
   .call (some 9) 148 [.t 8],
   .op (some 10) (.fadr (.t 3) 1),
   .op none (.store 2 (.t 10) (.t 9))])
 (.keep [1, 2, 3] (.seq (.ops [.op (some 11) (.fadr (.t 1) 3),
   .op (some 12) (.load1 (.t 11)),
   .op (some 13) (.fadr (.t 3) 3),
   .op none (.store 1 (.t 13) (.t 12))])
 (.keep [1, 2, 3] (.seq (.ops [.op (some 14) (.fadr (.t 1) 4),
   .op (some 15) (.load1 (.t 14)),
   .op (some 16) (.fadr (.t 3) 4),
   .op none (.store 1 (.t 16) (.t 15))])
 (.keep [2, 3] (.seq (.ops [.op (some 17) (.loadN 5 (.t 3)),
   .op none (.store 5 (.t 2) (.t 17))])
 (.keep [2] (.ret))))))))))))))
theorem k_c_toFrame_fits : fitsF Tryz.prog 107 ⟨18, k_c_toFrame, [.cN 2 5]⟩ = true := by kernel_rfl
theorem c_toFrame {a : GFrame} (hw0 : a.Page.slots.length ≤ 1048576) : Con Tryz.prog noMv 107 [a.av] [] (fun r h => r = a.avO 0 ∧ h = a.hO 0) := by
 refine con_of2 k_c_toFrame_fits rfl fun C hP hmv => ?_
 unfold k_c_toFrame
 refine cx_seq (cx_ops ?_)
 refine ax_e (e_box rfl rfl (by decide) rfl rfl rfl) ?_
 refine ax_e (e_alloc (by decide) rfl rfl) ?_
 refine ax_nil (cx_keep rfl rfl (cx_seq (cx_ops ?_)))
 refine ax_e (e_alloc (by decide) rfl rfl) ?_
 refine ax_nil (cx_keep rfl rfl (cx_seq (cx_ops ?_)))
 refine ax_q (q_fadr_ptr rfl) ?_
 refine ax_q (q_load1_ptr rfl rfl rfl) ?_
 refine ax_q (q_fadr_ptr rfl) ?_
 refine ax_e (e_st rfl rfl rfl rfl rfl rfl rfl) ?_
 refine ax_nil (cx_keep rfl rfl (cx_seq (cx_ops ?_)))
 refine ax_q (q_fadr_ptr rfl) ?_
 refine ax_q (q_ldN rfl rfl rfl) ?_
 refine ax_call rfl (vc_pure (c_toPage  ?_) hP rfl ?_)
 ·
  assumption
 rintro r h ⟨rfl, rfl⟩
 refine ⟨fun i => 9 + 200 * i, [0], ⟨rfl, rfl, rfl, rfl, rfl, (by first | exact (fun h => absurd h Bool.false_ne_true) | exact (fun _ => ⟨rfl, (noisl_of (by repeat (first | exact trivial | refine ⟨noisl_map (fun _ => rfl), ?_⟩ | refine ⟨?_, ?_⟩)))⟩))⟩, ?_⟩
 skip
 refine ax_q (q_fadr_ptr rfl) ?_
 refine ax_e (e_st rfl rfl rfl rfl rfl rfl rfl) ?_
 refine ax_nil (cx_keep rfl rfl (cx_seq (cx_ops ?_)))
 refine ax_q (q_fadr_ptr rfl) ?_
 refine ax_q (q_load1_ptr rfl rfl rfl) ?_
 refine ax_q (q_fadr_ptr rfl) ?_
 refine ax_e (e_st rfl rfl rfl rfl rfl rfl rfl) ?_
 refine ax_nil (cx_keep rfl rfl (cx_seq (cx_ops ?_)))
 refine ax_q (q_fadr_ptr rfl) ?_
 refine ax_q (q_load1_ptr rfl rfl rfl) ?_
 refine ax_q (q_fadr_ptr rfl) ?_
 refine ax_e (e_st rfl rfl rfl rfl rfl rfl rfl) ?_
 refine ax_nil (cx_keep rfl rfl (cx_seq (cx_ops ?_)))
 refine ax_q (q_ldN rfl rfl rfl) ?_
 refine ax_e (e_st rfl rfl rfl rfl rfl rfl rfl) ?_
 refine ax_nil (cx_keep rfl rfl ?_)
 refine cx_ret (retN (fun e => 0) [9] rfl rfl rfl rfl rfl ?_)
 exact ⟨rfl, rfl⟩


/- loop.example/g00332/laws.toFrameS -/
def k_c_toFrameS : XCode :=
 .seq (.ops [.op (some 2) (.mov (.k (.nils 5)))])
 (.keep [0] (.seq (.ops [.op (some 5) (.mov (.t 0)),
   .op (some 6) (.lenS (.t 5)),
   .op (some 7) (.mkslice 5 56 [.int .i64 0, .int .i64 0, .nils 1, .bool false, .int .i64 0] (.t 6) (.t 6)),
   .op (some 3) (.mov (.t 7))])
 (.keep [0, 3] (.seq (.seq (.ops [.op (some 4) (.mov (.k (.int .i64 0)))])
  (.keep [0, 3, 4] (.block 0 (.loop (.seq (.seq (.ops [.op (some 8) (.mov (.t 4)),
     .op (some 9) (.mov (.t 0)),
     .op (some 10) (.lenS (.t 9)),
     .op (some 11) (.bin .lss (.t 8) (.t 10))])
   (.keep [0, 3, 4, 11] (.cond (.t 11)
    (.skip)
    (.exit 0))))
   (.keep [0, 3, 4] (.seq (.block 1 (.ops [.op (some 14) (.mov (.t 3)),
     .op (some 15) (.mov (.t 4)),
     .op (some 16) (.mov (.t 0)),
     .op (some 17) (.mov (.t 4)),
     .op (some 18) (.iadr 5 (.t 16) (.t 17)),
     .op (some 19) (.loadN 5 (.t 18)),
     .call (some 20) 107 [.t 19],
     .op (some 21) (.iadr 5 (.t 14) (.t 15)),
     .op none (.store 5 (.t 21) (.t 20))]))
   (.keep [0, 3, 4] (.ops [.op (some 12) (.mov (.t 4)),
    .op (some 13) (.bin .add (.t 12) (.k (.int .i64 1))),
    .op (some 4) (.mov (.t 13))])))))))))
 (.keep [3] (.seq (.ops [.op (some 22) (.mov (.t 3)),
   .op (some 2) (.mov (.t 22))])
 (.keep [2] (.ret))))))))
theorem k_c_toFrameS_fits : fitsF Tryz.prog 51 ⟨23, k_c_toFrameS, [.t 2]⟩ = true := by kernel_rfl
theorem c_toFrameS {xs : List GFrame} (hw : xs.length ≤ 1048576) (hs : ∀ f ∈ xs, f.Page.slots.length ≤ 1048576) : Con Tryz.prog noMv 51 [.d (.sl 5 (xs.map GFrame.row))] [] (fun r h => r = .osl 0 5 0 xs.length ∧ h = [(0, .deep 5 (xs.map GFrame.row) [])]) := by
 refine con_of2 k_c_toFrameS_fits rfl fun C hP hmv => ?_
 unfold k_c_toFrameS
 refine cx_seq (cx_ops ?_)
 refine ax_q (q_mov rfl) ?_
 refine ax_nil (cx_keep rfl rfl (cx_seq (cx_ops ?_)))
 refine ax_q (q_mov rfl) ?_
 refine ax_q (q_lenS_map rfl) ?_
 refine ax_ee (e_mkslice rfl rfl rfl (by omega) (by omega) (by omega) (by decide) rfl rfl) (by rw [Int.toNat_natCast]) ?_
 refine ax_wk (wk_deepz 7 (rs' := List.replicate xs.length [.int .i64 0, .int .i64 0, .nilp, .bool false, .int .i64 0]) rfl (by rw [List.map_replicate]; rfl)) ?_
 refine ax_q (q_mov rfl) ?_
 refine ax_nil (cx_keep rfl rfl (cx_seq (cx_seq (cx_ops ?_))))
 refine ax_q (q_mov rfl) ?_
 refine ax_nil (cx_keep rfl rfl (cx_block ?_))
 refine cx_loopU (fun n k => k ≤ xs.length ∧ n = xs.length - k) (fun k : Nat => [(4, int k)]) (fun k => [(7, .deep 5 ((xs.take k).map GFrame.row ++ List.replicate (xs.length - k) [.int .i64 0, .int .i64 0, .nilp, .bool false, .int .i64 0]) [])]) ⟨_, 0, ⟨Nat.zero_le _, rfl⟩, by repeat constructor⟩ ?_
 rintro n k ⟨hk, rfl⟩
 refine cx_seq (cx_seq (cx_ops ?_))
 refine ax_q (q_mov rfl) ?_
 refine ax_q (q_mov rfl) ?_
 refine ax_q (q_lenS_map rfl) ?_
 refine ax_q (q_ibin rfl rfl rfl) ?_
 refine ax_nil (cx_keep rfl rfl ?_)
 refine cx_cond rfl (fun h0 => ?_) (fun h0 => ?_)
 ·
  have h0 := dT h0
  have h1x : k < xs.length := by omega
  have e9 := fillSetL (row := GFrame.row) (z := [.int .i64 0, .int .i64 0, .nilp, .bool false, .int .i64 0]) h1x
  refine cx_skip ?_
  refine cx_keep rfl rfl (cx_seq (cx_block (cx_ops ?_)))
  refine ax_q (q_mov rfl) ?_
  refine ax_q (q_mov rfl) ?_
  refine ax_q (q_mov rfl) ?_
  refine ax_q (q_mov rfl) ?_
  refine ax_q (q_ix rfl rfl (mapAt h1x)) ?_
  first | refine ax_q (q_ldN rfl rfl rfl) ?_ | refine ax_q (q_loadN_ip rfl (Nat.le_refl _)) ?_
  refine ax_call rfl (vc_pure (c_toFrame (a := xs[k]) ?_) hP rfl ?_)
  ·
   exact hs _ (List.getElem_mem h1x)
  rintro r h ⟨rfl, rfl⟩
  refine ⟨fun i => 20 + 200 * i, [0], ⟨rfl, rfl, rfl, rfl, rfl, (by first | exact (fun h => absurd h Bool.false_ne_true) | exact (fun _ => ⟨rfl, (noisl_of (by repeat (first | exact trivial | refine ⟨noisl_map (fun _ => rfl), ?_⟩ | refine ⟨?_, ?_⟩)))⟩))⟩, ?_⟩
  skip
  refine ax_q (q_ixo rfl rfl h1x) ?_
  refine ax_e (e_strDr (ds := GFrame.row xs[k]) (ks := [(2, 20)]) rfl rfl rfl rfl (.flat (.flat rfl) (.flat (.flat rfl) (.own (.own rfl (by rw [List.length_map])) (.flat (.flat rfl) (.flat (.flat rfl) .nil))))) (by simp) rfl (fillAtL h1x) rfl e9) ?_
  refine ax_wk (wk_closeE 7 20 k 2 (row := GFrame.row xs[k]) (xs := xs[k].Page.slots.map strRow) (ys := xs[k].Page.slots.map strRow) (hs := []) rfl rfl (fillAt2 h1x) rfl rfl (flat_map (fun _ => rfl)) rfl rfl rfl (set_same (fillAt2 h1x))) ?_
  refine ax_nil (cx_keep rfl rfl (cx_ops ?_))
  refine ax_q (q_mov rfl) ?_
  refine ax_qe (r' := int ((k + 1 : Nat) : Int)) (q_ibin rfl rfl rfl) (by rw [wi (by omega) (by omega)]; rfl) ?_
  refine ax_q (q_mov rfl) ?_
  refine ax_nil ?_
  exact ⟨_, k + 1, by omega, ⟨by omega, rfl⟩, by repeat constructor⟩
 ·
  have h0 := dF h0
  refine cx_exit rfl ?_
  refine cx_keep rfl rfl (cx_seq (cx_ops ?_))
  refine ax_q (q_mov rfl) ?_
  refine ax_q (q_mov rfl) ?_
  refine ax_nil (cx_keep rfl rfl ?_)
  rw [show k = xs.length from by omega, List.take_length, Nat.sub_self, List.replicate_zero, List.append_nil]
  refine cx_ret (retN (fun _ => 0) [7] rfl rfl rfl rfl rfl ?_)
  exact ⟨rfl, rfl⟩


/- loop.example/g00332/laws.toStore -/
def k_c_toStore : XCode :=
 .seq (.ops [.op (some 1) (.box (.t 0)),
   .op (some 2) (.alloc [.nils 1, .nils 2, .bool false, .nils 1, .int .i64 0, .nils 10, .int .i64 0, .nils 5, .int .i64 0])])
 (.keep [1, 2] (.seq (.ops [.op (some 3) (.alloc [.nils 1, .nils 2, .bool false, .nils 1, .int .i64 0, .nils 10, .int .i64 0, .nils 5, .int .i64 0])])
 (.keep [1, 2, 3] (.seq (.ops [.op (some 4) (.fadr (.t 1) 0),
   .op (some 5) (.loadN 4 (.t 4)),
   .call (some 6) 49 [.t 5],
   .op (some 7) (.fadr (.t 3) 0),
   .op none (.store 4 (.t 7) (.t 6))])
 (.keep [1, 2, 3] (.seq (.ops [.op (some 8) (.fadr (.t 1) 4),
   .op (some 9) (.load1 (.t 8)),
   .op (some 10) (.fadr (.t 3) 4),
   .op none (.store 1 (.t 10) (.t 9))])
 (.keep [1, 2, 3] (.seq (.ops [.op (some 11) (.fadr (.t 1) 5),
   .op (some 12) (.load1 (.t 11)),
   .call (some 13) 50 [.t 12],
   .op (some 14) (.fadr (.t 3) 5),
   .op none (.store 1 (.t 14) (.t 13))])
 (.keep [1, 2, 3] (.seq (.ops [.op (some 15) (.fadr (.t 1) 6),
   .op (some 16) (.load1 (.t 15)),
   .op (some 17) (.fadr (.t 3) 6),
   .op none (.store 1 (.t 17) (.t 16))])
 (.keep [1, 2, 3] (.seq (.ops [.op (some 18) (.fadr (.t 1) 7),
   .op (some 19) (.load1 (.t 18)),
   .call (some 20) 51 [.t 19],
   .op (some 21) (.fadr (.t 3) 7),
   .op none (.store 1 (.t 21) (.t 20))])
 (.keep [1, 2, 3] (.seq (.ops [.op (some 22) (.fadr (.t 1) 8),
   .op (some 23) (.load1 (.t 22)),
   .op (some 24) (.fadr (.t 3) 8),
   .op none (.store 1 (.t 24) (.t 23))])
 (.keep [2, 3] (.seq (.ops [.op (some 25) (.loadN 9 (.t 3)),
   .op none (.store 9 (.t 2) (.t 25))])
 (.keep [2] (.ret))))))))))))))))))
theorem k_c_toStore_fits : fitsF Tryz.prog 17 ⟨26, k_c_toStore, [.cN 2 9]⟩ = true := by kernel_rfl
theorem c_toStore {a : GStore} (hb : StB a) : Con Tryz.prog noMv 17 [a.av] [] (fun r h => r = a.avO 0 1 2 3 4 ∧ h = a.hO 0 1 2 3 4) := by
 refine con_of2 k_c_toStore_fits rfl fun C hP hmv => ?_
 unfold k_c_toStore
 obtain ⟨hw0, hw1, hw2, hw3, hwa, hw4, hw5, hw6⟩ := hb
 refine cx_seq (cx_ops ?_)
 refine ax_e (e_box rfl rfl (by decide) rfl rfl rfl) ?_
 refine ax_e (e_alloc (by decide) rfl rfl) ?_
 refine ax_nil (cx_keep rfl rfl (cx_seq (cx_ops ?_)))
 refine ax_e (e_alloc (by decide) rfl rfl) ?_
 refine ax_nil (cx_keep rfl rfl (cx_seq (cx_ops ?_)))
 refine ax_q (q_fadr_ptr rfl) ?_
 refine ax_q (q_ldN rfl rfl rfl) ?_
 refine ax_call rfl (vc_pure (c_toDisk  ?_ ?_ ?_) hP rfl ?_)
 ·
  assumption
 ·
  assumption
 ·
  assumption
 rintro r h ⟨rfl, rfl⟩
 refine ⟨fun i => 6 + 200 * i, [0, 1, 2], ⟨rfl, rfl, rfl, rfl, rfl, (by first | exact (fun h => absurd h Bool.false_ne_true) | exact (fun _ => ⟨rfl, (noisl_of (by repeat (first | exact trivial | refine ⟨noisl_map (fun _ => rfl), ?_⟩ | refine ⟨?_, ?_⟩)))⟩))⟩, ?_⟩
 skip
 refine ax_q (q_fadr_ptr rfl) ?_
 refine ax_e (e_st rfl rfl rfl rfl rfl rfl rfl) ?_
 refine ax_nil (cx_keep rfl rfl (cx_seq (cx_ops ?_)))
 refine ax_q (q_fadr_ptr rfl) ?_
 refine ax_q (q_load1_ptr rfl rfl rfl) ?_
 refine ax_q (q_fadr_ptr rfl) ?_
 refine ax_e (e_st rfl rfl rfl rfl rfl rfl rfl) ?_
 refine ax_nil (cx_keep rfl rfl (cx_seq (cx_ops ?_)))
 refine ax_q (q_fadr_ptr rfl) ?_
 refine ax_q (q_load1_ptr rfl rfl rfl) ?_
 refine ax_call rfl (vc_pure (c_toLogRecordS  ?_) hP rfl ?_)
 ·
  assumption
 rintro r h ⟨rfl, rfl⟩
 refine ⟨fun i => 13 + 200 * i, [0], ⟨rfl, rfl, rfl, rfl, rfl, (by first | exact (fun h => absurd h Bool.false_ne_true) | exact (fun _ => ⟨rfl, (noisl_of (by repeat (first | exact trivial | refine ⟨noisl_map (fun _ => rfl), ?_⟩ | refine ⟨?_, ?_⟩)))⟩))⟩, ?_⟩
 skip
 refine ax_q (q_fadr_ptr rfl) ?_
 refine ax_e (e_st rfl rfl rfl rfl rfl rfl rfl) ?_
 refine ax_nil (cx_keep rfl rfl (cx_seq (cx_ops ?_)))
 refine ax_q (q_fadr_ptr rfl) ?_
 refine ax_q (q_load1_ptr rfl rfl rfl) ?_
 refine ax_q (q_fadr_ptr rfl) ?_
 refine ax_e (e_st rfl rfl rfl rfl rfl rfl rfl) ?_
 refine ax_nil (cx_keep rfl rfl (cx_seq (cx_ops ?_)))
 refine ax_q (q_fadr_ptr rfl) ?_
 refine ax_q (q_load1_ptr rfl rfl rfl) ?_
 refine ax_call rfl (vc_pure (c_toFrameS  ?_ ?_) hP rfl ?_)
 ·
  assumption
 ·
  assumption
 rintro r h ⟨rfl, rfl⟩
 refine ⟨fun i => 20 + 200 * i, [0], ⟨rfl, rfl, rfl, rfl, rfl, (by first | exact (fun h => absurd h Bool.false_ne_true) | exact (fun _ => ⟨rfl, (noisl_of (by repeat (first | exact trivial | refine ⟨noisl_map (fun _ => rfl), ?_⟩ | refine ⟨?_, ?_⟩)))⟩))⟩, ?_⟩
 skip
 refine ax_q (q_fadr_ptr rfl) ?_
 refine ax_e (e_st rfl rfl rfl rfl rfl rfl rfl) ?_
 refine ax_nil (cx_keep rfl rfl (cx_seq (cx_ops ?_)))
 refine ax_q (q_fadr_ptr rfl) ?_
 refine ax_q (q_load1_ptr rfl rfl rfl) ?_
 refine ax_q (q_fadr_ptr rfl) ?_
 refine ax_e (e_st rfl rfl rfl rfl rfl rfl rfl) ?_
 refine ax_nil (cx_keep rfl rfl (cx_seq (cx_ops ?_)))
 refine ax_q (q_ldN rfl rfl rfl) ?_
 refine ax_e (e_st rfl rfl rfl rfl rfl rfl rfl) ?_
 refine ax_nil (cx_keep rfl rfl ?_)
 refine cx_ret (retN (fun e => bif Nat.beq e 206 then 1 else bif Nat.beq e 406 then 2 else bif Nat.beq e 13 then 3 else bif Nat.beq e 20 then 4 else 0) [6, 206, 406, 13, 20] rfl rfl rfl rfl rfl ?_)
 exact ⟨rfl, rfl⟩


/- loop.example/g00332/impl.inRange -/
def k_c_inRange : XCode :=
 .seq (.ops [.op (some 6) (.mov (.k (.bool false)))])
 (.keep [0, 1, 2] (.seq (.ops [.op (some 7) (.mov (.t 1)),
   .op (some 8) (.mov (.t 0)),
   .op (some 9) (.bin .leq (.t 7) (.t 8)),
   .op (some 10) (.mov (.t 9)),
   .andor 14 true 3 10 [.op (some 11) (.mov (.t 0)), .op (some 12) (.mov (.t 2)), .op (some 13) (.bin .leq (.t 11) (.t 12))] (.t 13),
   .op (some 6) (.mov (.t 14))])
 (.keep [6] (.ret))))
theorem k_c_inRange_fits : fitsF Tryz.prog 26 ⟨15, k_c_inRange, [.t 6]⟩ = true := by kernel_rfl
theorem c_inRange {n lo hi : Int} : Con Tryz.prog noMv 26 [int n, int lo, int hi] [] (fun r h => r = bool (inR n lo hi) ∧ h = []) := by
 refine con_of2 k_c_inRange_fits rfl fun C hP hmv => ?_
 unfold k_c_inRange
 refine cx_seq (cx_ops ?_)
 refine ax_q (q_mov rfl) ?_
 refine ax_nil (cx_keep rfl rfl (cx_seq (cx_ops ?_)))
 refine ax_q (q_mov rfl) ?_
 refine ax_q (q_mov rfl) ?_
 refine ax_q (q_ibin rfl rfl rfl) ?_
 refine ax_q (q_mov rfl) ?_
 apply ax_and rfl rfl
 ·
  intro g
  have g := dT g
  refine ax_q (q_mov rfl) ?_
  refine ax_q (q_mov rfl) ?_
  refine ax_q (q_ibin rfl rfl rfl) ?_
  exact ax_nil ⟨rfl, by repeat constructor⟩
 refine ax_q (q_mov rfl) ?_
 refine ax_nil (cx_keep rfl rfl ?_)
 refine cx_ret (ret0 rfl rfl ?_)
 exact ⟨rfl, rfl⟩


/- slices.IndexFunc[[]string,string] -/
def k_c_IndexFunc_Str : XCode :=
 .seq (.ops [.op (some 4) (.mov (.k (.int .i64 0)))])
 (.keep [0, 1] (.seq (.seq (.ops [.op (some 6) (.mov (.t 0)),
   .op (some 7) (.lenS (.t 6)),
   .op (some 8) (.mov (.k (.int .i64 0)))])
  (.keep [0, 1, 7, 8] (.block 0 (.loop (.seq (.ops [.op (some 9) (.bin .lss (.t 8) (.t 7))])
   (.keep [0, 1, 7, 8, 9] (.seq (.cond (.t 9)
    (.skip)
    (.exit 0))
   (.keep [0, 1, 7, 8] (.seq (.block 1 (.seq (.ops [.op (some 10) (.mov (.t 8)),
     .op (some 5) (.mov (.t 10))])
    (.keep [0, 1, 5, 7, 8] (.seq (.ops [.op (some 11) (.mov (.t 1)),
     .op (some 12) (.mov (.t 0)),
     .op (some 13) (.mov (.t 5)),
     .op (some 14) (.iadr 1 (.t 12) (.t 13)),
     .op (some 15) (.load1 (.t 14)),
     .callv (some 16) (.t 11) [.t 15]])
    (.keep [0, 1, 5, 7, 8, 16] (.cond (.t 16)
    (.seq (.ops [.op (some 17) (.mov (.t 5)),
      .op (some 4) (.mov (.t 17))])
     (.keep [4] (.ret)))
    (.skip)))))))
   (.keep [0, 1, 7, 8] (.ops [.op (some 18) (.bin .add (.t 8) (.k (.int .i64 1))),
    .op (some 8) (.mov (.t 18))])))))))))))
 (.keep [] (.seq (.ops [.op (some 4) (.mov (.k (.int .i64 (-1))))])
 (.keep [4] (.ret))))))
theorem k_c_IndexFunc_Str_fits : fitsF Tryz.prog 131 ⟨19, k_c_IndexFunc_Str, [.t 4]⟩ = true := by kernel_rfl
theorem c_IndexFunc_Str {xs : List Str} {f : Nat} {ds : List D} (p : Str → Bool) (hw : xs.length ≤ 9223372036854775807) (hb : hasBody Tryz.prog f = true) (hf : ∀ s ∈ xs, Con Tryz.prog noMv f (str s :: ds.map AV.d) [] (fun r h => r = bool (p s) ∧ h = [])) : Con Tryz.prog noMv 131 [.d (.sl 1 (xs.map strRow)), .d (.fn (.func f) ds)] [] (fun r h => r = int (idxOf p xs 0) ∧ h = []) := by
 refine con_of2 k_c_IndexFunc_Str_fits rfl fun C hP hmv => ?_
 unfold k_c_IndexFunc_Str
 refine cx_seq (cx_ops ?_)
 refine ax_q (q_mov rfl) ?_
 refine ax_nil (cx_keep rfl rfl (cx_seq (cx_seq (cx_ops ?_))))
 refine ax_q (q_mov rfl) ?_
 refine ax_q (q_lenS_map rfl) ?_
 refine ax_q (q_mov rfl) ?_
 refine ax_nil (cx_keep rfl rfl (cx_block ?_))
 refine cx_loopU (fun n k => k ≤ xs.length ∧ n = xs.length - k ∧ ∀ i, i < k → ∀ x, xs[i]? = some x → p x = false) (fun k : Nat => [(8, int k)]) (fun _ => []) ⟨_, 0, ⟨by omega, rfl, fun i hi => by omega⟩, by repeat constructor⟩ ?_
 rintro n k ⟨hk, rfl, ht⟩
 refine cx_seq (cx_ops ?_)
 refine ax_q (q_ibin rfl rfl rfl) ?_
 refine ax_nil (cx_keep rfl rfl (cx_seq ?_))
 refine cx_cond rfl (fun h0 => ?_) (fun h0 => ?_)
 ·
  have h0 := dT h0
  have h0x : k < xs.length := by omega
  refine cx_skip ?_
  refine cx_keep rfl rfl (cx_seq (cx_block (cx_seq (cx_ops ?_))))
  refine ax_q (q_mov rfl) ?_
  refine ax_q (q_mov rfl) ?_
  refine ax_nil (cx_keep rfl rfl (cx_seq (cx_ops ?_)))
  refine ax_q (q_mov rfl) ?_
  refine ax_q (q_mov rfl) ?_
  refine ax_q (q_mov rfl) ?_
  refine ax_q (q_ix rfl rfl (mapAt h0x)) ?_
  first | refine ax_q (q_load1_ptr rfl rfl rfl) ?_ | refine ax_q (q_load1_ip rfl) ?_
  refine ax_callvD rfl (by rw [hP]; exact hb) rfl (vc_pure0 (hf _ (List.getElem_mem h0x)) hP (refs_cons rfl ds) rfl ?_)
  refine ax_nil (cx_keep rfl rfl ?_)
  refine cx_cond rfl (fun h1 => ?_) (fun h1 => ?_)
  ·
   skip
   refine cx_seq (cx_ops ?_)
   refine ax_q (q_mov rfl) ?_
   refine ax_q (q_mov rfl) ?_
   refine ax_nil (cx_keep rfl rfl ?_)
   refine cx_ret (ret0 rfl rfl ?_)
   exact ⟨by rw [idxOf_hit h0x ht h1]; rfl, rfl⟩
  ·
   skip
   refine cx_skip ?_
   refine cx_keep rfl rfl (cx_ops ?_)
   refine ax_qe (r' := int ((k + 1 : Nat) : Int)) (q_ibin rfl rfl rfl) (by rw [wi (by omega) (by omega)]; rfl) ?_
   refine ax_q (q_mov rfl) ?_
   refine ax_nil ?_
   exact ⟨_, k + 1, by omega, ⟨by omega, rfl, before_step h0x ht h1⟩, by repeat constructor⟩
 ·
  have h0 := dF h0
  have h0x : k = xs.length := by omega
  refine cx_exit rfl ?_
  refine cx_keep rfl rfl (cx_seq (cx_ops ?_))
  refine ax_q (q_mov rfl) ?_
  refine ax_nil (cx_keep rfl rfl ?_)
  refine cx_ret (ret0 rfl rfl ?_)
  exact ⟨by rw [idxOf_none (fun i hi => ht i (by omega))]; rfl, rfl⟩


/- slices.ContainsFunc[[]string,string] -/
def k_c_ContainsFunc_Str : XCode :=
 .seq (.ops [.op (some 4) (.mov (.k (.bool false)))])
 (.keep [0, 1] (.seq (.ops [.op (some 5) (.mov (.t 0)),
   .op (some 6) (.mov (.t 1)),
   .call (some 7) 131 [.t 5, .t 6],
   .op (some 8) (.bin .geq (.t 7) (.k (.int .i64 0))),
   .op (some 4) (.mov (.t 8))])
 (.keep [4] (.ret))))
theorem k_c_ContainsFunc_Str_fits : fitsF Tryz.prog 82 ⟨9, k_c_ContainsFunc_Str, [.t 4]⟩ = true := by kernel_rfl
theorem c_ContainsFunc_Str {xs : List Str} {f : Nat} {ds : List D} (p : Str → Bool) (hw : xs.length ≤ 9223372036854775807) (hb : hasBody Tryz.prog f = true) (hf : ∀ s ∈ xs, Con Tryz.prog noMv f (str s :: ds.map AV.d) [] (fun r h => r = bool (p s) ∧ h = [])) : Con Tryz.prog noMv 82 [.d (.sl 1 (xs.map strRow)), .d (.fn (.func f) ds)] [] (fun r h => r = bool (xs.any p) ∧ h = []) := by
 refine con_of2 k_c_ContainsFunc_Str_fits rfl fun C hP hmv => ?_
 unfold k_c_ContainsFunc_Str
 refine cx_seq (cx_ops ?_)
 refine ax_q (q_mov rfl) ?_
 refine ax_nil (cx_keep rfl rfl (cx_seq (cx_ops ?_)))
 refine ax_q (q_mov rfl) ?_
 refine ax_q (q_mov rfl) ?_
 refine ax_call rfl (vc_pure0 (c_IndexFunc_Str p hw hb hf) hP rfl rfl ?_)
 refine ax_qe (r' := bool (xs.any p)) (q_ibin rfl rfl rfl) (congrArg AM.bool any_idxOf) ?_
 refine ax_q (q_mov rfl) ?_
 refine ax_nil (cx_keep rfl rfl ?_)
 refine cx_ret (ret0 rfl rfl ?_)
 exact ⟨rfl, rfl⟩


/- loop.example/g00332/impl.DiskOK$1 -/
def k_c_DiskOK1 : XCode :=
 .seq (.ops [.op (some 2) (.mov (.k (.bool false)))])
 (.keep [0] (.seq (.ops [.op (some 3) (.mov (.t 0)),
   .op (some 4) (.lenT (.t 3)),
   .op (some 5) (.bin .gtr (.t 4) (.k (.int .i64 160))),
   .op (some 2) (.mov (.t 5))])
 (.keep [2] (.ret))))
theorem k_c_DiskOK1_fits : fitsF Tryz.prog 83 ⟨6, k_c_DiskOK1, [.t 2]⟩ = true := by kernel_rfl
theorem c_DiskOK1 {s : Str} : Con Tryz.prog noMv 83 [str s] [] (fun r h => r = bool (long160 s) ∧ h = []) := by
 refine con_of2 k_c_DiskOK1_fits rfl fun C hP hmv => ?_
 unfold k_c_DiskOK1
 refine cx_seq (cx_ops ?_)
 refine ax_q (q_mov rfl) ?_
 refine ax_nil (cx_keep rfl rfl (cx_seq (cx_ops ?_)))
 refine ax_q (q_mov rfl) ?_
 refine ax_q (q_lenT rfl) ?_
 refine ax_q (q_ibin rfl rfl rfl) ?_
 refine ax_q (q_mov rfl) ?_
 refine ax_nil (cx_keep rfl rfl ?_)
 refine cx_ret (ret0 rfl rfl ?_)
 exact ⟨rfl, rfl⟩


/- slices.IndexFunc[[]loop.example/g00332/impl.Pending,loop.example/g00332/impl.Pending] -/
def k_c_IndexFunc_Pending : XCode :=
 .seq (.ops [.op (some 4) (.mov (.k (.int .i64 0)))])
 (.keep [0, 1] (.seq (.seq (.ops [.op (some 6) (.mov (.t 0)),
   .op (some 7) (.lenS (.t 6)),
   .op (some 8) (.mov (.k (.int .i64 0)))])
  (.keep [0, 1, 7, 8] (.block 0 (.loop (.seq (.ops [.op (some 9) (.bin .lss (.t 8) (.t 7))])
   (.keep [0, 1, 7, 8, 9] (.seq (.cond (.t 9)
    (.skip)
    (.exit 0))
   (.keep [0, 1, 7, 8] (.seq (.block 1 (.seq (.ops [.op (some 10) (.mov (.t 8)),
     .op (some 5) (.mov (.t 10))])
    (.keep [0, 1, 5, 7, 8] (.seq (.ops [.op (some 11) (.mov (.t 1)),
     .op (some 12) (.mov (.t 0)),
     .op (some 13) (.mov (.t 5)),
     .op (some 14) (.iadr 2 (.t 12) (.t 13)),
     .op (some 15) (.loadN 2 (.t 14)),
     .callv (some 16) (.t 11) [.t 15]])
    (.keep [0, 1, 5, 7, 8, 16] (.cond (.t 16)
    (.seq (.ops [.op (some 17) (.mov (.t 5)),
      .op (some 4) (.mov (.t 17))])
     (.keep [4] (.ret)))
    (.skip)))))))
   (.keep [0, 1, 7, 8] (.ops [.op (some 18) (.bin .add (.t 8) (.k (.int .i64 1))),
    .op (some 8) (.mov (.t 18))])))))))))))
 (.keep [] (.seq (.ops [.op (some 4) (.mov (.k (.int .i64 (-1))))])
 (.keep [4] (.ret))))))
theorem k_c_IndexFunc_Pending_fits : fitsF Tryz.prog 132 ⟨19, k_c_IndexFunc_Pending, [.t 4]⟩ = true := by kernel_rfl
theorem c_IndexFunc_Pending {xs : List GPending} {f : Nat} {ds : List D} (p : GPending → Bool) (hw : xs.length ≤ 9223372036854775807) (hb : hasBody Tryz.prog f = true) (hf : ∀ s ∈ xs, Con Tryz.prog noMv f (s.av :: ds.map AV.d) [] (fun r h => r = bool (p s) ∧ h = [])) : Con Tryz.prog noMv 132 [.d (.sl 2 (xs.map GPending.row)), .d (.fn (.func f) ds)] [] (fun r h => r = int (idxOf p xs 0) ∧ h = []) := by
 refine con_of2 k_c_IndexFunc_Pending_fits rfl fun C hP hmv => ?_
 unfold k_c_IndexFunc_Pending
 refine cx_seq (cx_ops ?_)
 refine ax_q (q_mov rfl) ?_
 refine ax_nil (cx_keep rfl rfl (cx_seq (cx_seq (cx_ops ?_))))
 refine ax_q (q_mov rfl) ?_
 refine ax_q (q_lenS_map rfl) ?_
 refine ax_q (q_mov rfl) ?_
 refine ax_nil (cx_keep rfl rfl (cx_block ?_))
 refine cx_loopU (fun n k => k ≤ xs.length ∧ n = xs.length - k ∧ ∀ i, i < k → ∀ x, xs[i]? = some x → p x = false) (fun k : Nat => [(8, int k)]) (fun _ => []) ⟨_, 0, ⟨by omega, rfl, fun i hi => by omega⟩, by repeat constructor⟩ ?_
 rintro n k ⟨hk, rfl, ht⟩
 refine cx_seq (cx_ops ?_)
 refine ax_q (q_ibin rfl rfl rfl) ?_
 refine ax_nil (cx_keep rfl rfl (cx_seq ?_))
 refine cx_cond rfl (fun h0 => ?_) (fun h0 => ?_)
 ·
  have h0 := dT h0
  have h0x : k < xs.length := by omega
  refine cx_skip ?_
  refine cx_keep rfl rfl (cx_seq (cx_block (cx_seq (cx_ops ?_))))
  refine ax_q (q_mov rfl) ?_
  refine ax_q (q_mov rfl) ?_
  refine ax_nil (cx_keep rfl rfl (cx_seq (cx_ops ?_)))
  refine ax_q (q_mov rfl) ?_
  refine ax_q (q_mov rfl) ?_
  refine ax_q (q_mov rfl) ?_
  refine ax_q (q_ix rfl rfl (mapAt h0x)) ?_
  first | refine ax_q (q_ldN rfl rfl rfl) ?_ | refine ax_q (q_loadN_ip rfl (Nat.le_refl _)) ?_
  refine ax_callvD rfl (by rw [hP]; exact hb) rfl (vc_pure0 (hf _ (List.getElem_mem h0x)) hP (refs_cons rfl ds) rfl ?_)
  refine ax_nil (cx_keep rfl rfl ?_)
  refine cx_cond rfl (fun h1 => ?_) (fun h1 => ?_)
  ·
   skip
   refine cx_seq (cx_ops ?_)
   refine ax_q (q_mov rfl) ?_
   refine ax_q (q_mov rfl) ?_
   refine ax_nil (cx_keep rfl rfl ?_)
   refine cx_ret (ret0 rfl rfl ?_)
   exact ⟨by rw [idxOf_hit h0x ht h1]; rfl, rfl⟩
  ·
   skip
   refine cx_skip ?_
   refine cx_keep rfl rfl (cx_ops ?_)
   refine ax_qe (r' := int ((k + 1 : Nat) : Int)) (q_ibin rfl rfl rfl) (by rw [wi (by omega) (by omega)]; rfl) ?_
   refine ax_q (q_mov rfl) ?_
   refine ax_nil ?_
   exact ⟨_, k + 1, by omega, ⟨by omega, rfl, before_step h0x ht h1⟩, by repeat constructor⟩
 ·
  have h0 := dF h0
  have h0x : k = xs.length := by omega
  refine cx_exit rfl ?_
  refine cx_keep rfl rfl (cx_seq (cx_ops ?_))
  refine ax_q (q_mov rfl) ?_
  refine ax_nil (cx_keep rfl rfl ?_)
  refine cx_ret (ret0 rfl rfl ?_)
  exact ⟨by rw [idxOf_none (fun i hi => ht i (by omega))]; rfl, rfl⟩


/- slices.ContainsFunc[[]loop.example/g00332/impl.Pending,loop.example/g00332/impl.Pending] -/
def k_c_ContainsFunc_Pending : XCode :=
 .seq (.ops [.op (some 4) (.mov (.k (.bool false)))])
 (.keep [0, 1] (.seq (.ops [.op (some 5) (.mov (.t 0)),
   .op (some 6) (.mov (.t 1)),
   .call (some 7) 132 [.t 5, .t 6],
   .op (some 8) (.bin .geq (.t 7) (.k (.int .i64 0))),
   .op (some 4) (.mov (.t 8))])
 (.keep [4] (.ret))))
theorem k_c_ContainsFunc_Pending_fits : fitsF Tryz.prog 84 ⟨9, k_c_ContainsFunc_Pending, [.t 4]⟩ = true := by kernel_rfl
theorem c_ContainsFunc_Pending {xs : List GPending} {f : Nat} {ds : List D} (p : GPending → Bool) (hw : xs.length ≤ 9223372036854775807) (hb : hasBody Tryz.prog f = true) (hf : ∀ s ∈ xs, Con Tryz.prog noMv f (s.av :: ds.map AV.d) [] (fun r h => r = bool (p s) ∧ h = [])) : Con Tryz.prog noMv 84 [.d (.sl 2 (xs.map GPending.row)), .d (.fn (.func f) ds)] [] (fun r h => r = bool (xs.any p) ∧ h = []) := by
 refine con_of2 k_c_ContainsFunc_Pending_fits rfl fun C hP hmv => ?_
 unfold k_c_ContainsFunc_Pending
 refine cx_seq (cx_ops ?_)
 refine ax_q (q_mov rfl) ?_
 refine ax_nil (cx_keep rfl rfl (cx_seq (cx_ops ?_)))
 refine ax_q (q_mov rfl) ?_
 refine ax_q (q_mov rfl) ?_
 refine ax_call rfl (vc_pure0 (c_IndexFunc_Pending p hw hb hf) hP rfl rfl ?_)
 refine ax_qe (r' := bool (xs.any p)) (q_ibin rfl rfl rfl) (congrArg AM.bool any_idxOf) ?_
 refine ax_q (q_mov rfl) ?_
 refine ax_nil (cx_keep rfl rfl ?_)
 refine cx_ret (ret0 rfl rfl ?_)
 exact ⟨rfl, rfl⟩


/- loop.example/g00332/impl.isPlace -/
def k_c_isPlace : XCode :=
 .seq (.ops [.op (some 4) (.mov (.k (.bool false)))])
 (.keep [0, 1] (.seq (.ops [.op (some 5) (.mov (.t 0)),
   .op (some 6) (.mov (.t 1)),
   .op (some 7) (.bin .sub (.t 6) (.k (.int .i64 1))),
   .call (some 8) 26 [.t 5, .k (.int .i64 0), .t 7],
   .op (some 4) (.mov (.t 8))])
 (.keep [4] (.ret))))
theorem k_c_isPlace_fits : fitsF Tryz.prog 40 ⟨9, k_c_isPlace, [.t 4]⟩ = true := by kernel_rfl
theorem c_isPlace {n k : Int} (hk : 0 ≤ k ∧ k ≤ 1048576) : Con Tryz.prog noMv 40 [int n, int k] [] (fun r h => r = bool (inR n 0 (k - 1)) ∧ h = []) := by
 refine con_of2 k_c_isPlace_fits rfl fun C hP hmv => ?_
 unfold k_c_isPlace
 refine cx_seq (cx_ops ?_)
 refine ax_q (q_mov rfl) ?_
 refine ax_nil (cx_keep rfl rfl (cx_seq (cx_ops ?_)))
 refine ax_q (q_mov rfl) ?_
 refine ax_q (q_mov rfl) ?_
 refine ax_q (q_sub rfl rfl (by omega)) ?_
 refine ax_call rfl (vc_pure0 (c_inRange  ) hP rfl rfl ?_)
 refine ax_q (q_mov rfl) ?_
 refine ax_nil (cx_keep rfl rfl ?_)
 refine cx_ret (ret0 rfl rfl ?_)
 exact ⟨rfl, rfl⟩


/- loop.example/g00332/impl.DiskOK$2 -/
def k_c_DiskOK2 : XCode :=
 .seq (.ops [.op (some 2) (.box (.t 0)),
   .op (some 3) (.mov (.k (.bool false)))])
 (.keep [1, 2] (.seq (.ops [.op (some 4) (.fadr (.t 2) 0),
   .op (some 5) (.load1 (.t 4)),
   .op (some 6) (.fadr (.t 1) 0),
   .op (some 7) (.load1 (.t 6)),
   .op (some 8) (.lenS (.t 7)),
   .call (some 9) 40 [.t 5, .t 8],
   .op (some 10) (.not (.t 9)),
   .op (some 11) (.mov (.t 10)),
   .andor 16 false 7 11 [.op (some 12) (.fadr (.t 2) 1), .op (some 13) (.load1 (.t 12)), .op (some 14) (.lenT (.t 13)), .op (some 15) (.bin .gtr (.t 14) (.k (.int .i64 160)))] (.t 15),
   .op (some 3) (.mov (.t 16))])
 (.keep [3] (.ret))))
theorem k_c_DiskOK2_fits : fitsF Tryz.prog 85 ⟨17, k_c_DiskOK2, [.t 3]⟩ = true := by kernel_rfl
theorem c_DiskOK2 {a : GPending} {d : GDisk} (hw0 : d.Sectors.length ≤ 1048576) : Con Tryz.prog noMv 85 [a.av, .d (.ip d.row)] [] (fun r h => r = bool (badAt d.Sectors.length a) ∧ h = []) := by
 refine con_of2 k_c_DiskOK2_fits rfl fun C hP hmv => ?_
 unfold k_c_DiskOK2
 refine cx_seq (cx_ops ?_)
 refine ax_e (e_box rfl rfl (by decide) rfl rfl rfl) ?_
 refine ax_q (q_mov rfl) ?_
 refine ax_nil (cx_keep rfl rfl (cx_seq (cx_ops ?_)))
 refine ax_q (q_fadr_ptr rfl) ?_
 refine ax_q (q_load1_ptr rfl rfl rfl) ?_
 first | refine ax_q (q_fadr_ptr rfl) ?_ | refine ax_q (q_fadr_rptr rfl) ?_ | refine ax_q (q_fadr_ip rfl) ?_
 first | refine ax_q (q_load1_ptr rfl rfl rfl) ?_ | refine ax_q (q_load1_ip rfl) ?_
 refine ax_q (q_lenS_map rfl) ?_
 refine ax_call rfl (vc_pure0 (c_isPlace  ?_) hP rfl rfl ?_)
 ·
  first | assumption | omega
 refine ax_q (q_not rfl) ?_
 refine ax_q (q_mov rfl) ?_
 apply ax_or rfl rfl
 ·
  intro g
  have g := bF g
  refine ax_q (q_fadr_ptr rfl) ?_
  refine ax_q (q_load1_ptr rfl rfl rfl) ?_
  refine ax_q (q_lenT rfl) ?_
  refine ax_q (q_ibin rfl rfl rfl) ?_
  exact ax_nil ⟨rfl, by repeat constructor⟩
 refine ax_q (q_mov rfl) ?_
 refine ax_nil (cx_keep rfl rfl ?_)
 refine cx_ret (ret0 rfl rfl ?_)
 exact ⟨rfl, rfl⟩

end Go.Proofs.YtcloaaakhojjgaaGreat
