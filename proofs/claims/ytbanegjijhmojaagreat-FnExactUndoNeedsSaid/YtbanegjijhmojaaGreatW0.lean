/- The walks: what each function computes, as a contract without a world (part 0). -/
import Derived.Test.YtbanegjijhmojaaGreatProg
import Derived.Test.YtbanegjijhmojaaGreatR
namespace Go.Proofs.YtbanegjijhmojaaGreat
open Go Go.AM
set_option maxRecDepth 10000
set_option linter.unusedVariables false
set_option linter.unusedSimpArgs false
/- loop.example/g00332/laws.szStringS -/
def k_c_szStringS : XCode :=
 .seq (.ops [.op (some 4) (.mov (.k (.int .i64 0)))])
 (.keep [0, 1] (.seq (.ops [.op (some 6) (.mov (.t 1)),
   .op (some 7) (.mov (.t 0)),
   .op (some 8) (.lenS (.t 7)),
   .op (some 9) (.bin .sub (.t 6) (.t 8)),
   .op (some 1) (.mov (.t 9))])
 (.keep [0, 1] (.seq (.seq (.ops [.op (some 10) (.mov (.t 1)),
   .op (some 11) (.bin .lss (.t 10) (.k (.int .i64 0)))])
  (.keep [0, 1, 11] (.cond (.t 11)
  (.seq (.ops [.op (some 4) (.mov (.k (.int .i64 (-1))))])
   (.keep [4] (.ret)))
  (.skip))))
 (.keep [0, 1] (.seq (.seq (.ops [.op (some 5) (.mov (.k (.int .i64 0)))])
  (.keep [0, 1, 5] (.block 0 (.loop (.seq (.seq (.ops [.op (some 12) (.mov (.t 5)),
     .op (some 13) (.mov (.t 0)),
     .op (some 14) (.lenS (.t 13)),
     .op (some 15) (.bin .lss (.t 12) (.t 14))])
   (.keep [0, 1, 5, 15] (.cond (.t 15)
    (.skip)
    (.exit 0))))
   (.keep [0, 1, 5] (.seq (.block 1 (.seq (.ops [.op (some 18) (.mov (.t 1)),
     .op (some 19) (.mov (.t 0)),
     .op (some 20) (.mov (.t 5)),
     .op (some 21) (.iadr 1 (.t 19) (.t 20)),
     .op (some 22) (.load1 (.t 21)),
     .op (some 23) (.lenT (.t 22)),
     .op (some 24) (.bin .sub (.t 18) (.t 23)),
     .op (some 1) (.mov (.t 24))])
    (.keep [0, 1, 5] (.seq (.ops [.op (some 25) (.mov (.t 1)),
     .op (some 26) (.bin .lss (.t 25) (.k (.int .i64 0)))])
    (.keep [0, 1, 5, 26] (.cond (.t 26)
    (.seq (.ops [.op (some 4) (.mov (.k (.int .i64 (-1))))])
     (.keep [4] (.ret)))
    (.skip)))))))
   (.keep [0, 1, 5] (.ops [.op (some 16) (.mov (.t 5)),
    .op (some 17) (.bin .add (.t 16) (.k (.int .i64 1))),
    .op (some 5) (.mov (.t 17))])))))))))
 (.keep [1] (.seq (.ops [.op (some 27) (.mov (.t 1)),
   .op (some 4) (.mov (.t 27))])
 (.keep [4] (.ret))))))))))
theorem k_c_szStringS_fits : fitsF Tryz.prog 104 ⟨28, k_c_szStringS, [.t 4]⟩ = true := by kernel_rfl
theorem c_szStringS {xs : List Str} {left : Int} (h0 : 0 ≤ left) (hl : left ≤ 1048576) (hw : wfL wfStr xs) : Con Tryz.prog noMv 104 [.d (.sl 1 (xs.map strRow)), int left] [] (fun r h => r = int (szF left (szL List.length xs)) ∧ h = []) := by
 refine con_of2 k_c_szStringS_fits rfl fun C hP hmv => ?_
 unfold k_c_szStringS
 have hw1 := hw.1; have hw2 := hw.2
 have sp := szF_spec left (szL List.length xs)
 refine cx_seq (cx_ops ?_)
 refine ax_q (q_mov rfl) ?_
 refine ax_nil (cx_keep rfl rfl (cx_seq (cx_ops ?_)))
 refine ax_q (q_mov rfl) ?_
 refine ax_q (q_mov rfl) ?_
 refine ax_q (q_lenS_map rfl) ?_
 refine ax_q (q_sub rfl rfl (by omega)) ?_
 refine ax_q (q_mov rfl) ?_
 refine ax_nil (cx_keep rfl rfl (cx_seq (cx_seq (cx_ops ?_))))
 refine ax_q (q_mov rfl) ?_
 refine ax_q (q_ibin rfl rfl rfl) ?_
 refine ax_nil (cx_keep rfl rfl ?_)
 refine cx_cond rfl (fun h0 => ?_) (fun h0 => ?_)
 ·
  have h0 := dT h0
  refine cx_seq (cx_ops ?_)
  refine ax_q (q_mov rfl) ?_
  refine ax_nil (cx_keep rfl rfl ?_)
  refine cx_ret (ret0 rfl rfl ?_)
  exact ⟨congrArg int (by unfold szL at sp ⊢; omega), rfl⟩
 ·
  have h0 := dF h0
  refine cx_skip ?_
  refine cx_keep rfl rfl (cx_seq (cx_seq (cx_ops ?_)))
  refine ax_q (q_mov rfl) ?_
  refine ax_nil (cx_keep rfl rfl (cx_block ?_))
  refine cx_loopU (fun n k => k ≤ xs.length ∧ n = xs.length - k ∧ 0 ≤ left - xs.length - sumBy List.length (xs.take k)) (fun k : Nat => [(1, int (left - xs.length - sumBy List.length (xs.take k))), (5, int k)]) (fun _ => [])
   ⟨_, 0, ⟨Nat.zero_le _, rfl, by simp [sumBy]; omega⟩, ⟨⟨rfl, congrArg (fun n => some (int n)) (by simp only [List.take_zero, sumBy]; omega), rfl, trivial⟩, trivial⟩⟩ ?_
  rintro n k ⟨hk, rfl, hs⟩
  refine cx_seq (cx_seq (cx_ops ?_))
  refine ax_q (q_mov rfl) ?_
  refine ax_q (q_mov rfl) ?_
  refine ax_q (q_lenS_map rfl) ?_
  refine ax_q (q_ibin rfl rfl rfl) ?_
  refine ax_nil (cx_keep rfl rfl ?_)
  refine cx_cond rfl (fun h1 => ?_) (fun h1 => ?_)
  ·
   have h1 := dT h1
   have h1x : k < xs.length := by omega
   have hst := sumBy_take (f := List.length) h1x
   have hsl := sumBy_le (f := List.length) xs (k + 1)
   have hwk := hw2 _ (List.getElem_mem h1x)
   refine cx_skip ?_
   refine cx_keep rfl rfl (cx_seq (cx_block (cx_seq (cx_ops ?_))))
   refine ax_q (q_mov rfl) ?_
   refine ax_q (q_mov rfl) ?_
   refine ax_q (q_mov rfl) ?_
   refine ax_q (q_ix rfl rfl (mapAt h1x)) ?_
   first | refine ax_q (q_load1_ptr rfl rfl rfl) ?_ | refine ax_q (q_load1_ip rfl) ?_
   refine ax_q (q_lenT rfl) ?_
   refine ax_qe (r' := int (left - xs.length - sumBy List.length (xs.take (k + 1)))) (q_ibin rfl rfl rfl) (by unfold wfStr at hwk; rw [wi (by omega) (by omega)]; congr 2; omega) ?_
   refine ax_q (q_mov rfl) ?_
   refine ax_nil (cx_keep rfl rfl (cx_seq (cx_ops ?_)))
   refine ax_q (q_mov rfl) ?_
   refine ax_q (q_ibin rfl rfl rfl) ?_
   refine ax_nil (cx_keep rfl rfl ?_)
   refine cx_cond rfl (fun h2 => ?_) (fun h2 => ?_)
   ·
    have h2 := dT h2
    refine cx_seq (cx_ops ?_)
    refine ax_q (q_mov rfl) ?_
    refine ax_nil (cx_keep rfl rfl ?_)
    refine cx_ret (ret0 rfl rfl ?_)
    exact ⟨congrArg int (by unfold szL at sp ⊢; omega), rfl⟩
   ·
    have h2 := dF h2
    refine cx_skip ?_
    refine cx_keep rfl rfl (cx_ops ?_)
    refine ax_q (q_mov rfl) ?_
    refine ax_q (q_add rfl rfl (by omega)) ?_
    refine ax_q (q_mov rfl) ?_
    refine ax_nil ?_
    exact ⟨_, k + 1, by omega, ⟨by omega, rfl, by omega⟩, by repeat constructor⟩
  ·
   have h1 := dF h1
   refine cx_exit rfl ?_
   refine cx_keep rfl rfl (cx_seq (cx_ops ?_))
   refine ax_q (q_mov rfl) ?_
   refine ax_q (q_mov rfl) ?_
   refine ax_nil (cx_keep rfl rfl ?_)
   refine cx_ret (ret0 rfl rfl ?_)
   have hk2 : k = xs.length := by omega
   subst hk2; rw [List.take_length] at hs ⊢
   exact ⟨congrArg int (by unfold szL at sp ⊢; omega), rfl⟩


/- loop.example/g00332/laws.szPending -/
def k_c_szPending : XCode :=
 .seq (.ops [.op (some 2) (.box (.t 0)),
   .op (some 4) (.mov (.k (.int .i64 0)))])
 (.keep [1, 2] (.seq (.ops [.op (some 5) (.mov (.t 1)),
   .op (some 6) (.fadr (.t 2) 1),
   .op (some 7) (.load1 (.t 6)),
   .op (some 8) (.lenT (.t 7)),
   .op (some 9) (.bin .sub (.t 5) (.t 8)),
   .op (some 1) (.mov (.t 9))])
 (.keep [1] (.seq (.seq (.ops [.op (some 10) (.mov (.t 1)),
   .op (some 11) (.bin .lss (.t 10) (.k (.int .i64 0)))])
  (.keep [1, 11] (.cond (.t 11)
  (.seq (.ops [.op (some 4) (.mov (.k (.int .i64 (-1))))])
   (.keep [4] (.ret)))
  (.skip))))
 (.keep [1] (.seq (.ops [.op (some 12) (.mov (.t 1)),
   .op (some 4) (.mov (.t 12))])
 (.keep [4] (.ret))))))))
theorem k_c_szPending_fits : fitsF Tryz.prog 179 ⟨13, k_c_szPending, [.t 4]⟩ = true := by kernel_rfl
theorem c_szPending {a : GPending} {left : Int} (h0 : 0 ≤ left) (hl : left ≤ 1048576) (hw : a.wf) : Con Tryz.prog noMv 179 [a.av, int left] [] (fun r h => r = int (szF left (GPending.sz a)) ∧ h = []) := by
 refine con_of2 k_c_szPending_fits rfl fun C hP hmv => ?_
 unfold k_c_szPending
 have sp := szF_spec left (GPending.sz a)
 have e0 : GPending.sz a = a.Data.length := rfl
 rw [e0] at sp ⊢
 obtain ⟨w0, w1⟩ := hw
 have w1x : a.Data.length ≤ 9223372036854775807 := w1
 refine cx_seq (cx_ops ?_)
 refine ax_e (e_box rfl rfl (by decide) rfl rfl rfl) ?_
 refine ax_q (q_mov rfl) ?_
 refine ax_nil (cx_keep rfl rfl (cx_seq (cx_ops ?_)))
 refine ax_q (q_mov rfl) ?_
 refine ax_q (q_fadr_ptr rfl) ?_
 refine ax_q (q_load1_ptr rfl rfl rfl) ?_
 refine ax_q (q_lenT rfl) ?_
 refine ax_q (q_sub rfl rfl (by omega)) ?_
 refine ax_q (q_mov rfl) ?_
 refine ax_nil (cx_keep rfl rfl (cx_seq (cx_seq (cx_ops ?_))))
 refine ax_q (q_mov rfl) ?_
 refine ax_q (q_ibin rfl rfl rfl) ?_
 refine ax_nil (cx_keep rfl rfl ?_)
 refine cx_cond rfl (fun h0 => ?_) (fun h0 => ?_)
 ·
  have h0 := dT h0
  refine cx_seq (cx_ops ?_)
  refine ax_q (q_mov rfl) ?_
  refine ax_nil (cx_keep rfl rfl ?_)
  refine cx_ret (ret0 rfl rfl ?_)
  exact ⟨congrArg int (by omega), rfl⟩
 ·
  have h0 := dF h0
  refine cx_skip ?_
  refine cx_keep rfl rfl (cx_seq (cx_ops ?_))
  refine ax_q (q_mov rfl) ?_
  refine ax_q (q_mov rfl) ?_
  refine ax_nil (cx_keep rfl rfl ?_)
  refine cx_ret (ret0 rfl rfl ?_)
  exact ⟨congrArg int (by omega), rfl⟩


/- loop.example/g00332/laws.szPendingS -/
def k_c_szPendingS : XCode :=
 .seq (.ops [.op (some 4) (.mov (.k (.int .i64 0)))])
 (.keep [0, 1] (.seq (.ops [.op (some 6) (.mov (.t 1)),
   .op (some 7) (.mov (.t 0)),
   .op (some 8) (.lenS (.t 7)),
   .op (some 9) (.bin .sub (.t 6) (.t 8)),
   .op (some 1) (.mov (.t 9))])
 (.keep [0, 1] (.seq (.seq (.ops [.op (some 10) (.mov (.t 1)),
   .op (some 11) (.bin .lss (.t 10) (.k (.int .i64 0)))])
  (.keep [0, 1, 11] (.cond (.t 11)
  (.seq (.ops [.op (some 4) (.mov (.k (.int .i64 (-1))))])
   (.keep [4] (.ret)))
  (.skip))))
 (.keep [0, 1] (.seq (.seq (.ops [.op (some 5) (.mov (.k (.int .i64 0)))])
  (.keep [0, 1, 5] (.block 0 (.loop (.seq (.seq (.ops [.op (some 12) (.mov (.t 5)),
     .op (some 13) (.mov (.t 0)),
     .op (some 14) (.lenS (.t 13)),
     .op (some 15) (.bin .lss (.t 12) (.t 14))])
   (.keep [0, 1, 5, 15] (.cond (.t 15)
    (.skip)
    (.exit 0))))
   (.keep [0, 1, 5] (.seq (.block 1 (.seq (.ops [.op (some 18) (.mov (.t 0)),
     .op (some 19) (.mov (.t 5)),
     .op (some 20) (.iadr 2 (.t 18) (.t 19)),
     .op (some 21) (.loadN 2 (.t 20)),
     .op (some 22) (.mov (.t 1)),
     .call (some 23) 179 [.t 21, .t 22],
     .op (some 1) (.mov (.t 23))])
    (.keep [0, 1, 5] (.seq (.ops [.op (some 24) (.mov (.t 1)),
     .op (some 25) (.bin .lss (.t 24) (.k (.int .i64 0)))])
    (.keep [0, 1, 5, 25] (.cond (.t 25)
    (.seq (.ops [.op (some 4) (.mov (.k (.int .i64 (-1))))])
     (.keep [4] (.ret)))
    (.skip)))))))
   (.keep [0, 1, 5] (.ops [.op (some 16) (.mov (.t 5)),
    .op (some 17) (.bin .add (.t 16) (.k (.int .i64 1))),
    .op (some 5) (.mov (.t 17))])))))))))
 (.keep [1] (.seq (.ops [.op (some 26) (.mov (.t 1)),
   .op (some 4) (.mov (.t 26))])
 (.keep [4] (.ret))))))))))
theorem k_c_szPendingS_fits : fitsF Tryz.prog 105 ⟨27, k_c_szPendingS, [.t 4]⟩ = true := by kernel_rfl
theorem c_szPendingS {xs : List GPending} {left : Int} (h0 : 0 ≤ left) (hl : left ≤ 1048576) (hw : wfL GPending.wf xs) : Con Tryz.prog noMv 105 [.d (.sl 2 (xs.map GPending.row)), int left] [] (fun r h => r = int (szF left (szL GPending.sz xs)) ∧ h = []) := by
 refine con_of2 k_c_szPendingS_fits rfl fun C hP hmv => ?_
 unfold k_c_szPendingS
 have hw1 := hw.1; have hw2 := hw.2
 have sp := szF_spec left (szL GPending.sz xs)
 refine cx_seq (cx_ops ?_)
 refine ax_q (q_mov rfl) ?_
 refine ax_nil (cx_keep rfl rfl (cx_seq (cx_ops ?_)))
 refine ax_q (q_mov rfl) ?_
 refine ax_q (q_mov rfl) ?_
 refine ax_q (q_lenS_map rfl) ?_
 refine ax_q (q_sub rfl rfl (by omega)) ?_
 refine ax_q (q_mov rfl) ?_
 refine ax_nil (cx_keep rfl rfl (cx_seq (cx_seq (cx_ops ?_))))
 refine ax_q (q_mov rfl) ?_
 refine ax_q (q_ibin rfl rfl rfl) ?_
 refine ax_nil (cx_keep rfl rfl ?_)
 refine cx_cond rfl (fun h0 => ?_) (fun h0 => ?_)
 ·
  have h0 := dT h0
  refine cx_seq (cx_ops ?_)
  refine ax_q (q_mov rfl) ?_
  refine ax_nil (cx_keep rfl rfl ?_)
  refine cx_ret (ret0 rfl rfl ?_)
  exact ⟨congrArg int (by unfold szL at sp ⊢; omega), rfl⟩
 ·
  have h0 := dF h0
  refine cx_skip ?_
  refine cx_keep rfl rfl (cx_seq (cx_seq (cx_ops ?_)))
  refine ax_q (q_mov rfl) ?_
  refine ax_nil (cx_keep rfl rfl (cx_block ?_))
  refine cx_loopU (fun n k => k ≤ xs.length ∧ n = xs.length - k ∧ 0 ≤ left - xs.length - sumBy GPending.sz (xs.take k)) (fun k : Nat => [(1, int (left - xs.length - sumBy GPending.sz (xs.take k))), (5, int k)]) (fun _ => [])
   ⟨_, 0, ⟨Nat.zero_le _, rfl, by simp [sumBy]; omega⟩, ⟨⟨rfl, congrArg (fun n => some (int n)) (by simp only [List.take_zero, sumBy]; omega), rfl, trivial⟩, trivial⟩⟩ ?_
  rintro n k ⟨hk, rfl, hs⟩
  refine cx_seq (cx_seq (cx_ops ?_))
  refine ax_q (q_mov rfl) ?_
  refine ax_q (q_mov rfl) ?_
  refine ax_q (q_lenS_map rfl) ?_
  refine ax_q (q_ibin rfl rfl rfl) ?_
  refine ax_nil (cx_keep rfl rfl ?_)
  refine cx_cond rfl (fun h1 => ?_) (fun h1 => ?_)
  ·
   have h1 := dT h1
   have h1x : k < xs.length := by omega
   have hst := sumBy_take (f := GPending.sz) h1x
   have hsl := sumBy_le (f := GPending.sz) xs (k + 1)
   have hwk := hw2 _ (List.getElem_mem h1x)
   refine cx_skip ?_
   refine cx_keep rfl rfl (cx_seq (cx_block (cx_seq (cx_ops ?_))))
   refine ax_q (q_mov rfl) ?_
   refine ax_q (q_mov rfl) ?_
   refine ax_q (q_ix rfl rfl (mapAt h1x)) ?_
   first | refine ax_q (q_ldN rfl rfl rfl) ?_ | refine ax_q (q_loadN_ip rfl (Nat.le_refl _)) ?_
   refine ax_q (q_mov rfl) ?_
   have spk := szF_spec (left - xs.length - sumBy GPending.sz (xs.take k)) (GPending.sz xs[k])
   refine ax_call rfl (vc_pure0 (c_szPending  ?_ ?_ ?_) hP rfl rfl ?_)
   ·
    assumption
   ·
    first | assumption | omega
   ·
    assumption
   refine ax_q (q_mov rfl) ?_
   refine ax_nil (cx_keep rfl rfl (cx_seq (cx_ops ?_)))
   refine ax_q (q_mov rfl) ?_
   refine ax_q (q_ibin rfl rfl rfl) ?_
   refine ax_nil (cx_keep rfl rfl ?_)
   refine cx_cond rfl (fun h2 => ?_) (fun h2 => ?_)
   ·
    have h2 := dT h2
    refine cx_seq (cx_ops ?_)
    refine ax_q (q_mov rfl) ?_
    refine ax_nil (cx_keep rfl rfl ?_)
    refine cx_ret (ret0 rfl rfl ?_)
    exact ⟨congrArg int (by unfold szL at sp ⊢; omega), rfl⟩
   ·
    have h2 := dF h2
    have e9 : szF (left - xs.length - sumBy GPending.sz (xs.take k)) (GPending.sz xs[k]) = left - xs.length - sumBy GPending.sz (xs.take (k + 1)) := by omega
    refine cx_skip ?_
    refine cx_keep rfl rfl (cx_ops ?_)
    refine ax_q (q_mov rfl) ?_
    refine ax_q (q_add rfl rfl (by omega)) ?_
    refine ax_q (q_mov rfl) ?_
    refine ax_nil ?_
    refine ⟨_, k + 1, by omega, ⟨by omega, rfl, by omega⟩, ?_⟩
    rw [e9]
    exact by repeat constructor
  ·
   have h1 := dF h1
   refine cx_exit rfl ?_
   refine cx_keep rfl rfl (cx_seq (cx_ops ?_))
   refine ax_q (q_mov rfl) ?_
   refine ax_q (q_mov rfl) ?_
   refine ax_nil (cx_keep rfl rfl ?_)
   refine cx_ret (ret0 rfl rfl ?_)
   have hk2 : k = xs.length := by omega
   subst hk2; rw [List.take_length] at hs ⊢
   exact ⟨congrArg int (by unfold szL at sp ⊢; omega), rfl⟩


/- loop.example/g00332/laws.szIntS -/
def k_c_szIntS : XCode :=
 .seq (.ops [.op (some 4) (.mov (.k (.int .i64 0)))])
 (.keep [0, 1] (.seq (.ops [.op (some 5) (.mov (.t 1)),
   .op (some 6) (.mov (.t 0)),
   .op (some 7) (.lenS (.t 6)),
   .op (some 8) (.bin .sub (.t 5) (.t 7)),
   .op (some 1) (.mov (.t 8))])
 (.keep [1] (.seq (.seq (.ops [.op (some 9) (.mov (.t 1)),
   .op (some 10) (.bin .lss (.t 9) (.k (.int .i64 0)))])
  (.keep [1, 10] (.cond (.t 10)
  (.seq (.ops [.op (some 4) (.mov (.k (.int .i64 (-1))))])
   (.keep [4] (.ret)))
  (.skip))))
 (.keep [1] (.seq (.ops [.op (some 11) (.mov (.t 1)),
   .op (some 4) (.mov (.t 11))])
 (.keep [4] (.ret))))))))
theorem k_c_szIntS_fits : fitsF Tryz.prog 106 ⟨12, k_c_szIntS, [.t 4]⟩ = true := by kernel_rfl
theorem c_szIntS {xs : List Int} {left : Int} (h0 : 0 ≤ left) (hl : left ≤ 1048576) (hw : wfL wfInt xs) : Con Tryz.prog noMv 106 [.d (.sl 1 (xs.map intRow)), int left] [] (fun r h => r = int (szF left (szL (fun _ => 0) xs)) ∧ h = []) := by
 refine con_of2 k_c_szIntS_fits rfl fun C hP hmv => ?_
 unfold k_c_szIntS
 have hw1 := hw.1
 have sp := szF_spec left (szL (fun _ => 0) xs)
 have e0 : szL (fun _ => 0) xs = xs.length := by unfold szL; rw [sumBy_zero]; rfl
 rw [e0] at sp ⊢
 refine cx_seq (cx_ops ?_)
 refine ax_q (q_mov rfl) ?_
 refine ax_nil (cx_keep rfl rfl (cx_seq (cx_ops ?_)))
 refine ax_q (q_mov rfl) ?_
 refine ax_q (q_mov rfl) ?_
 refine ax_q (q_lenS_map rfl) ?_
 refine ax_q (q_sub rfl rfl (by omega)) ?_
 refine ax_q (q_mov rfl) ?_
 refine ax_nil (cx_keep rfl rfl (cx_seq (cx_seq (cx_ops ?_))))
 refine ax_q (q_mov rfl) ?_
 refine ax_q (q_ibin rfl rfl rfl) ?_
 refine ax_nil (cx_keep rfl rfl ?_)
 refine cx_cond rfl (fun h0 => ?_) (fun h0 => ?_)
 ·
  have h0 := dT h0
  refine cx_seq (cx_ops ?_)
  refine ax_q (q_mov rfl) ?_
  refine ax_nil (cx_keep rfl rfl ?_)
  refine cx_ret (ret0 rfl rfl ?_)
  exact ⟨congrArg int (by omega), rfl⟩
 ·
  have h0 := dF h0
  refine cx_skip ?_
  refine cx_keep rfl rfl (cx_seq (cx_ops ?_))
  refine ax_q (q_mov rfl) ?_
  refine ax_q (q_mov rfl) ?_
  refine ax_nil (cx_keep rfl rfl ?_)
  refine cx_ret (ret0 rfl rfl ?_)
  exact ⟨congrArg int (by omega), rfl⟩


/- loop.example/g00332/laws.szDisk -/
def k_c_szDisk : XCode :=
 .seq (.ops [.op (some 2) (.box (.t 0)),
   .op (some 4) (.mov (.k (.int .i64 0)))])
 (.keep [1, 2] (.seq (.ops [.op (some 5) (.fadr (.t 2) 0),
   .op (some 6) (.load1 (.t 5)),
   .op (some 7) (.mov (.t 1)),
   .call (some 8) 104 [.t 6, .t 7],
   .op (some 1) (.mov (.t 8))])
 (.keep [1, 2] (.seq (.seq (.ops [.op (some 9) (.mov (.t 1)),
   .op (some 10) (.bin .lss (.t 9) (.k (.int .i64 0)))])
  (.keep [1, 2, 10] (.cond (.t 10)
  (.seq (.ops [.op (some 4) (.mov (.k (.int .i64 (-1))))])
   (.keep [4] (.ret)))
  (.skip))))
 (.keep [1, 2] (.seq (.ops [.op (some 11) (.fadr (.t 2) 1),
   .op (some 12) (.load1 (.t 11)),
   .op (some 13) (.mov (.t 1)),
   .call (some 14) 105 [.t 12, .t 13],
   .op (some 1) (.mov (.t 14))])
 (.keep [1, 2] (.seq (.seq (.ops [.op (some 15) (.mov (.t 1)),
   .op (some 16) (.bin .lss (.t 15) (.k (.int .i64 0)))])
  (.keep [1, 2, 16] (.cond (.t 16)
  (.seq (.ops [.op (some 4) (.mov (.k (.int .i64 (-1))))])
   (.keep [4] (.ret)))
  (.skip))))
 (.keep [1, 2] (.seq (.ops [.op (some 17) (.fadr (.t 2) 3),
   .op (some 18) (.load1 (.t 17)),
   .op (some 19) (.mov (.t 1)),
   .call (some 20) 106 [.t 18, .t 19],
   .op (some 1) (.mov (.t 20))])
 (.keep [1] (.seq (.seq (.ops [.op (some 21) (.mov (.t 1)),
   .op (some 22) (.bin .lss (.t 21) (.k (.int .i64 0)))])
  (.keep [1, 22] (.cond (.t 22)
  (.seq (.ops [.op (some 4) (.mov (.k (.int .i64 (-1))))])
   (.keep [4] (.ret)))
  (.skip))))
 (.keep [1] (.seq (.ops [.op (some 23) (.mov (.t 1)),
   .op (some 4) (.mov (.t 23))])
 (.keep [4] (.ret))))))))))))))))
theorem k_c_szDisk_fits : fitsF Tryz.prog 47 ⟨24, k_c_szDisk, [.t 4]⟩ = true := by kernel_rfl
theorem c_szDisk {a : GDisk} {left : Int} (h0 : 0 ≤ left) (hl : left ≤ 1048576) (hw : a.wf) : Con Tryz.prog noMv 47 [a.av, int left] [] (fun r h => r = int (szF left (GDisk.sz a)) ∧ h = []) := by
 refine con_of2 k_c_szDisk_fits rfl fun C hP hmv => ?_
 unfold k_c_szDisk
 have sp := szF_spec left (GDisk.sz a)
 have e0 : GDisk.sz a = szL List.length a.Sectors + szL GPending.sz a.Cache + szL (fun _ => 0) a.Keep := rfl
 rw [e0] at sp ⊢
 obtain ⟨w0, w1, w2, w3⟩ := hw
 refine cx_seq (cx_ops ?_)
 refine ax_e (e_box rfl rfl (by decide) rfl rfl rfl) ?_
 refine ax_q (q_mov rfl) ?_
 refine ax_nil (cx_keep rfl rfl (cx_seq (cx_ops ?_)))
 refine ax_q (q_fadr_ptr rfl) ?_
 refine ax_q (q_load1_ptr rfl rfl rfl) ?_
 refine ax_q (q_mov rfl) ?_
 have q0 := szF_spec left (szL List.length a.Sectors)
 refine ax_call rfl (vc_pure0 (c_szStringS  ?_ ?_ ?_) hP rfl rfl ?_)
 ·
  assumption
 ·
  assumption
 ·
  assumption
 refine ax_q (q_mov rfl) ?_
 refine ax_nil (cx_keep rfl rfl (cx_seq (cx_seq (cx_ops ?_))))
 refine ax_q (q_mov rfl) ?_
 refine ax_q (q_ibin rfl rfl rfl) ?_
 refine ax_nil (cx_keep rfl rfl ?_)
 refine cx_cond rfl (fun h0 => ?_) (fun h0 => ?_)
 ·
  have h0 := dT h0
  refine cx_seq (cx_ops ?_)
  refine ax_q (q_mov rfl) ?_
  refine ax_nil (cx_keep rfl rfl ?_)
  refine cx_ret (ret0 rfl rfl ?_)
  exact ⟨congrArg int (by omega), rfl⟩
 ·
  have h0 := dF h0
  refine cx_skip ?_
  refine cx_keep rfl rfl (cx_seq (cx_ops ?_))
  refine ax_q (q_fadr_ptr rfl) ?_
  refine ax_q (q_load1_ptr rfl rfl rfl) ?_
  refine ax_q (q_mov rfl) ?_
  have q1 := szF_spec (szF left (szL List.length a.Sectors)) (szL GPending.sz a.Cache)
  refine ax_call rfl (vc_pure0 (c_szPendingS  ?_ ?_ ?_) hP rfl rfl ?_)
  ·
   first | assumption | omega
  ·
   first | assumption | omega
  ·
   assumption
  refine ax_q (q_mov rfl) ?_
  refine ax_nil (cx_keep rfl rfl (cx_seq (cx_seq (cx_ops ?_))))
  refine ax_q (q_mov rfl) ?_
  refine ax_q (q_ibin rfl rfl rfl) ?_
  refine ax_nil (cx_keep rfl rfl ?_)
  refine cx_cond rfl (fun h1 => ?_) (fun h1 => ?_)
  ·
   have h1 := dT h1
   refine cx_seq (cx_ops ?_)
   refine ax_q (q_mov rfl) ?_
   refine ax_nil (cx_keep rfl rfl ?_)
   refine cx_ret (ret0 rfl rfl ?_)
   exact ⟨congrArg int (by omega), rfl⟩
  ·
   have h1 := dF h1
   refine cx_skip ?_
   refine cx_keep rfl rfl (cx_seq (cx_ops ?_))
   refine ax_q (q_fadr_ptr rfl) ?_
   refine ax_q (q_load1_ptr rfl rfl rfl) ?_
   refine ax_q (q_mov rfl) ?_
   have q2 := szF_spec (szF (szF left (szL List.length a.Sectors)) (szL GPending.sz a.Cache)) (szL (fun _ => 0) a.Keep)
   refine ax_call rfl (vc_pure0 (c_szIntS  ?_ ?_ ?_) hP rfl rfl ?_)
   ·
    first | assumption | omega
   ·
    first | assumption | omega
   ·
    assumption
   refine ax_q (q_mov rfl) ?_
   refine ax_nil (cx_keep rfl rfl (cx_seq (cx_seq (cx_ops ?_))))
   refine ax_q (q_mov rfl) ?_
   refine ax_q (q_ibin rfl rfl rfl) ?_
   refine ax_nil (cx_keep rfl rfl ?_)
   refine cx_cond rfl (fun h2 => ?_) (fun h2 => ?_)
   ·
    have h2 := dT h2
    refine cx_seq (cx_ops ?_)
    refine ax_q (q_mov rfl) ?_
    refine ax_nil (cx_keep rfl rfl ?_)
    refine cx_ret (ret0 rfl rfl ?_)
    exact ⟨congrArg int (by omega), rfl⟩
   ·
    have h2 := dF h2
    refine cx_skip ?_
    refine cx_keep rfl rfl (cx_seq (cx_ops ?_))
    refine ax_q (q_mov rfl) ?_
    refine ax_q (q_mov rfl) ?_
    refine ax_nil (cx_keep rfl rfl ?_)
    refine cx_ret (ret0 rfl rfl ?_)
    exact ⟨congrArg int (by omega), rfl⟩


/- loop.example/g00332/laws.szLogRecord -/
def k_c_szLogRecord : XCode :=
 .seq (.ops [.op (some 2) (.box (.t 0)),
   .op (some 4) (.mov (.k (.int .i64 0)))])
 (.keep [1, 2] (.seq (.ops [.op (some 5) (.mov (.t 1)),
   .op (some 6) (.fadr (.t 2) 8),
   .op (some 7) (.load1 (.t 6)),
   .op (some 8) (.lenT (.t 7)),
   .op (some 9) (.bin .sub (.t 5) (.t 8)),
   .op (some 1) (.mov (.t 9))])
 (.keep [1, 2] (.seq (.seq (.ops [.op (some 10) (.mov (.t 1)),
   .op (some 11) (.bin .lss (.t 10) (.k (.int .i64 0)))])
  (.keep [1, 2, 11] (.cond (.t 11)
  (.seq (.ops [.op (some 4) (.mov (.k (.int .i64 (-1))))])
   (.keep [4] (.ret)))
  (.skip))))
 (.keep [1, 2] (.seq (.ops [.op (some 12) (.mov (.t 1)),
   .op (some 13) (.fadr (.t 2) 9),
   .op (some 14) (.load1 (.t 13)),
   .op (some 15) (.lenT (.t 14)),
   .op (some 16) (.bin .sub (.t 12) (.t 15)),
   .op (some 1) (.mov (.t 16))])
 (.keep [1] (.seq (.seq (.ops [.op (some 17) (.mov (.t 1)),
   .op (some 18) (.bin .lss (.t 17) (.k (.int .i64 0)))])
  (.keep [1, 18] (.cond (.t 18)
  (.seq (.ops [.op (some 4) (.mov (.k (.int .i64 (-1))))])
   (.keep [4] (.ret)))
  (.skip))))
 (.keep [1] (.seq (.ops [.op (some 19) (.mov (.t 1)),
   .op (some 4) (.mov (.t 19))])
 (.keep [4] (.ret))))))))))))
theorem k_c_szLogRecord_fits : fitsF Tryz.prog 107 ⟨20, k_c_szLogRecord, [.t 4]⟩ = true := by kernel_rfl
theorem c_szLogRecord {a : GLogRecord} {left : Int} (h0 : 0 ≤ left) (hl : left ≤ 1048576) (hw : a.wf) : Con Tryz.prog noMv 107 [a.av, int left] [] (fun r h => r = int (szF left (GLogRecord.sz a)) ∧ h = []) := by
 refine con_of2 k_c_szLogRecord_fits rfl fun C hP hmv => ?_
 unfold k_c_szLogRecord
 have sp := szF_spec left (GLogRecord.sz a)
 have e0 : GLogRecord.sz a = a.Before.length + a.After.length := rfl
 rw [e0] at sp ⊢
 obtain ⟨w0, w1, w2, w3, w4, w5, w6, w7, w8, w9⟩ := hw
 have w8x : a.Before.length ≤ 9223372036854775807 := w8
 have w9x : a.After.length ≤ 9223372036854775807 := w9
 refine cx_seq (cx_ops ?_)
 refine ax_e (e_box rfl rfl (by decide) rfl rfl rfl) ?_
 refine ax_q (q_mov rfl) ?_
 refine ax_nil (cx_keep rfl rfl (cx_seq (cx_ops ?_)))
 refine ax_q (q_mov rfl) ?_
 refine ax_q (q_fadr_ptr rfl) ?_
 refine ax_q (q_load1_ptr rfl rfl rfl) ?_
 refine ax_q (q_lenT rfl) ?_
 refine ax_q (q_sub rfl rfl (by omega)) ?_
 refine ax_q (q_mov rfl) ?_
 refine ax_nil (cx_keep rfl rfl (cx_seq (cx_seq (cx_ops ?_))))
 refine ax_q (q_mov rfl) ?_
 refine ax_q (q_ibin rfl rfl rfl) ?_
 refine ax_nil (cx_keep rfl rfl ?_)
 refine cx_cond rfl (fun h0 => ?_) (fun h0 => ?_)
 ·
  have h0 := dT h0
  refine cx_seq (cx_ops ?_)
  refine ax_q (q_mov rfl) ?_
  refine ax_nil (cx_keep rfl rfl ?_)
  refine cx_ret (ret0 rfl rfl ?_)
  exact ⟨congrArg int (by omega), rfl⟩
 ·
  have h0 := dF h0
  refine cx_skip ?_
  refine cx_keep rfl rfl (cx_seq (cx_ops ?_))
  refine ax_q (q_mov rfl) ?_
  refine ax_q (q_fadr_ptr rfl) ?_
  refine ax_q (q_load1_ptr rfl rfl rfl) ?_
  refine ax_q (q_lenT rfl) ?_
  refine ax_q (q_sub rfl rfl (by omega)) ?_
  refine ax_q (q_mov rfl) ?_
  refine ax_nil (cx_keep rfl rfl (cx_seq (cx_seq (cx_ops ?_))))
  refine ax_q (q_mov rfl) ?_
  refine ax_q (q_ibin rfl rfl rfl) ?_
  refine ax_nil (cx_keep rfl rfl ?_)
  refine cx_cond rfl (fun h1 => ?_) (fun h1 => ?_)
  ·
   have h1 := dT h1
   refine cx_seq (cx_ops ?_)
   refine ax_q (q_mov rfl) ?_
   refine ax_nil (cx_keep rfl rfl ?_)
   refine cx_ret (ret0 rfl rfl ?_)
   exact ⟨congrArg int (by omega), rfl⟩
  ·
   have h1 := dF h1
   refine cx_skip ?_
   refine cx_keep rfl rfl (cx_seq (cx_ops ?_))
   refine ax_q (q_mov rfl) ?_
   refine ax_q (q_mov rfl) ?_
   refine ax_nil (cx_keep rfl rfl ?_)
   refine cx_ret (ret0 rfl rfl ?_)
   exact ⟨congrArg int (by omega), rfl⟩


/- loop.example/g00332/laws.szLogRecordS -/
def k_c_szLogRecordS : XCode :=
 .seq (.ops [.op (some 4) (.mov (.k (.int .i64 0)))])
 (.keep [0, 1] (.seq (.ops [.op (some 6) (.mov (.t 1)),
   .op (some 7) (.mov (.t 0)),
   .op (some 8) (.lenS (.t 7)),
   .op (some 9) (.bin .sub (.t 6) (.t 8)),
   .op (some 1) (.mov (.t 9))])
 (.keep [0, 1] (.seq (.seq (.ops [.op (some 10) (.mov (.t 1)),
   .op (some 11) (.bin .lss (.t 10) (.k (.int .i64 0)))])
  (.keep [0, 1, 11] (.cond (.t 11)
  (.seq (.ops [.op (some 4) (.mov (.k (.int .i64 (-1))))])
   (.keep [4] (.ret)))
  (.skip))))
 (.keep [0, 1] (.seq (.seq (.ops [.op (some 5) (.mov (.k (.int .i64 0)))])
  (.keep [0, 1, 5] (.block 0 (.loop (.seq (.seq (.ops [.op (some 12) (.mov (.t 5)),
     .op (some 13) (.mov (.t 0)),
     .op (some 14) (.lenS (.t 13)),
     .op (some 15) (.bin .lss (.t 12) (.t 14))])
   (.keep [0, 1, 5, 15] (.cond (.t 15)
    (.skip)
    (.exit 0))))
   (.keep [0, 1, 5] (.seq (.block 1 (.seq (.ops [.op (some 18) (.mov (.t 0)),
     .op (some 19) (.mov (.t 5)),
     .op (some 20) (.iadr 10 (.t 18) (.t 19)),
     .op (some 21) (.loadN 10 (.t 20)),
     .op (some 22) (.mov (.t 1)),
     .call (some 23) 107 [.t 21, .t 22],
     .op (some 1) (.mov (.t 23))])
    (.keep [0, 1, 5] (.seq (.ops [.op (some 24) (.mov (.t 1)),
     .op (some 25) (.bin .lss (.t 24) (.k (.int .i64 0)))])
    (.keep [0, 1, 5, 25] (.cond (.t 25)
    (.seq (.ops [.op (some 4) (.mov (.k (.int .i64 (-1))))])
     (.keep [4] (.ret)))
    (.skip)))))))
   (.keep [0, 1, 5] (.ops [.op (some 16) (.mov (.t 5)),
    .op (some 17) (.bin .add (.t 16) (.k (.int .i64 1))),
    .op (some 5) (.mov (.t 17))])))))))))
 (.keep [1] (.seq (.ops [.op (some 26) (.mov (.t 1)),
   .op (some 4) (.mov (.t 26))])
 (.keep [4] (.ret))))))))))
theorem k_c_szLogRecordS_fits : fitsF Tryz.prog 48 ⟨27, k_c_szLogRecordS, [.t 4]⟩ = true := by kernel_rfl
theorem c_szLogRecordS {xs : List GLogRecord} {left : Int} (h0 : 0 ≤ left) (hl : left ≤ 1048576) (hw : wfL GLogRecord.wf xs) : Con Tryz.prog noMv 48 [.d (.sl 10 (xs.map GLogRecord.row)), int left] [] (fun r h => r = int (szF left (szL GLogRecord.sz xs)) ∧ h = []) := by
 refine con_of2 k_c_szLogRecordS_fits rfl fun C hP hmv => ?_
 unfold k_c_szLogRecordS
 have hw1 := hw.1; have hw2 := hw.2
 have sp := szF_spec left (szL GLogRecord.sz xs)
 refine cx_seq (cx_ops ?_)
 refine ax_q (q_mov rfl) ?_
 refine ax_nil (cx_keep rfl rfl (cx_seq (cx_ops ?_)))
 refine ax_q (q_mov rfl) ?_
 refine ax_q (q_mov rfl) ?_
 refine ax_q (q_lenS_map rfl) ?_
 refine ax_q (q_sub rfl rfl (by omega)) ?_
 refine ax_q (q_mov rfl) ?_
 refine ax_nil (cx_keep rfl rfl (cx_seq (cx_seq (cx_ops ?_))))
 refine ax_q (q_mov rfl) ?_
 refine ax_q (q_ibin rfl rfl rfl) ?_
 refine ax_nil (cx_keep rfl rfl ?_)
 refine cx_cond rfl (fun h0 => ?_) (fun h0 => ?_)
 ·
  have h0 := dT h0
  refine cx_seq (cx_ops ?_)
  refine ax_q (q_mov rfl) ?_
  refine ax_nil (cx_keep rfl rfl ?_)
  refine cx_ret (ret0 rfl rfl ?_)
  exact ⟨congrArg int (by unfold szL at sp ⊢; omega), rfl⟩
 ·
  have h0 := dF h0
  refine cx_skip ?_
  refine cx_keep rfl rfl (cx_seq (cx_seq (cx_ops ?_)))
  refine ax_q (q_mov rfl) ?_
  refine ax_nil (cx_keep rfl rfl (cx_block ?_))
  refine cx_loopU (fun n k => k ≤ xs.length ∧ n = xs.length - k ∧ 0 ≤ left - xs.length - sumBy GLogRecord.sz (xs.take k)) (fun k : Nat => [(1, int (left - xs.length - sumBy GLogRecord.sz (xs.take k))), (5, int k)]) (fun _ => [])
   ⟨_, 0, ⟨Nat.zero_le _, rfl, by simp [sumBy]; omega⟩, ⟨⟨rfl, congrArg (fun n => some (int n)) (by simp only [List.take_zero, sumBy]; omega), rfl, trivial⟩, trivial⟩⟩ ?_
  rintro n k ⟨hk, rfl, hs⟩
  refine cx_seq (cx_seq (cx_ops ?_))
  refine ax_q (q_mov rfl) ?_
  refine ax_q (q_mov rfl) ?_
  refine ax_q (q_lenS_map rfl) ?_
  refine ax_q (q_ibin rfl rfl rfl) ?_
  refine ax_nil (cx_keep rfl rfl ?_)
  refine cx_cond rfl (fun h1 => ?_) (fun h1 => ?_)
  ·
   have h1 := dT h1
   have h1x : k < xs.length := by omega
   have hst := sumBy_take (f := GLogRecord.sz) h1x
   have hsl := sumBy_le (f := GLogRecord.sz) xs (k + 1)
   have hwk := hw2 _ (List.getElem_mem h1x)
   refine cx_skip ?_
   refine cx_keep rfl rfl (cx_seq (cx_block (cx_seq (cx_ops ?_))))
   refine ax_q (q_mov rfl) ?_
   refine ax_q (q_mov rfl) ?_
   refine ax_q (q_ix rfl rfl (mapAt h1x)) ?_
   first | refine ax_q (q_ldN rfl rfl rfl) ?_ | refine ax_q (q_loadN_ip rfl (Nat.le_refl _)) ?_
   refine ax_q (q_mov rfl) ?_
   have spk := szF_spec (left - xs.length - sumBy GLogRecord.sz (xs.take k)) (GLogRecord.sz xs[k])
   refine ax_call rfl (vc_pure0 (c_szLogRecord  ?_ ?_ ?_) hP rfl rfl ?_)
   ·
    assumption
   ·
    first | assumption | omega
   ·
    assumption
   refine ax_q (q_mov rfl) ?_
   refine ax_nil (cx_keep rfl rfl (cx_seq (cx_ops ?_)))
   refine ax_q (q_mov rfl) ?_
   refine ax_q (q_ibin rfl rfl rfl) ?_
   refine ax_nil (cx_keep rfl rfl ?_)
   refine cx_cond rfl (fun h2 => ?_) (fun h2 => ?_)
   ·
    have h2 := dT h2
    refine cx_seq (cx_ops ?_)
    refine ax_q (q_mov rfl) ?_
    refine ax_nil (cx_keep rfl rfl ?_)
    refine cx_ret (ret0 rfl rfl ?_)
    exact ⟨congrArg int (by unfold szL at sp ⊢; omega), rfl⟩
   ·
    have h2 := dF h2
    have e9 : szF (left - xs.length - sumBy GLogRecord.sz (xs.take k)) (GLogRecord.sz xs[k]) = left - xs.length - sumBy GLogRecord.sz (xs.take (k + 1)) := by omega
    refine cx_skip ?_
    refine cx_keep rfl rfl (cx_ops ?_)
    refine ax_q (q_mov rfl) ?_
    refine ax_q (q_add rfl rfl (by omega)) ?_
    refine ax_q (q_mov rfl) ?_
    refine ax_nil ?_
    refine ⟨_, k + 1, by omega, ⟨by omega, rfl, by omega⟩, ?_⟩
    rw [e9]
    exact by repeat constructor
  ·
   have h1 := dF h1
   refine cx_exit rfl ?_
   refine cx_keep rfl rfl (cx_seq (cx_ops ?_))
   refine ax_q (q_mov rfl) ?_
   refine ax_q (q_mov rfl) ?_
   refine ax_nil (cx_keep rfl rfl ?_)
   refine cx_ret (ret0 rfl rfl ?_)
   have hk2 : k = xs.length := by omega
   subst hk2; rw [List.take_length] at hs ⊢
   exact ⟨congrArg int (by unfold szL at sp ⊢; omega), rfl⟩


/- loop.example/g00332/laws.szPage -/
def k_c_szPage : XCode :=
 .seq (.ops [.op (some 2) (.box (.t 0)),
   .op (some 4) (.mov (.k (.int .i64 0)))])
 (.keep [1, 2] (.seq (.ops [.op (some 5) (.fadr (.t 2) 1),
   .op (some 6) (.load1 (.t 5)),
   .op (some 7) (.mov (.t 1)),
   .call (some 8) 104 [.t 6, .t 7],
   .op (some 1) (.mov (.t 8))])
 (.keep [1] (.seq (.seq (.ops [.op (some 9) (.mov (.t 1)),
   .op (some 10) (.bin .lss (.t 9) (.k (.int .i64 0)))])
  (.keep [1, 10] (.cond (.t 10)
  (.seq (.ops [.op (some 4) (.mov (.k (.int .i64 (-1))))])
   (.keep [4] (.ret)))
  (.skip))))
 (.keep [1] (.seq (.ops [.op (some 11) (.mov (.t 1)),
   .op (some 4) (.mov (.t 11))])
 (.keep [4] (.ret))))))))
theorem k_c_szPage_fits : fitsF Tryz.prog 180 ⟨12, k_c_szPage, [.t 4]⟩ = true := by kernel_rfl
theorem c_szPage {a : Page} {left : Int} (h0 : 0 ≤ left) (hl : left ≤ 1048576) (hw : a.wf) : Con Tryz.prog noMv 180 [a.av, int left] [] (fun r h => r = int (szF left (Page.sz a)) ∧ h = []) := by
 refine con_of2 k_c_szPage_fits rfl fun C hP hmv => ?_
 unfold k_c_szPage
 have sp := szF_spec left (Page.sz a)
 have e0 : Page.sz a = szL List.length a.slots := rfl
 rw [e0] at sp ⊢
 obtain ⟨w0, w1⟩ := hw
 refine cx_seq (cx_ops ?_)
 refine ax_e (e_box rfl rfl (by decide) rfl rfl rfl) ?_
 refine ax_q (q_mov rfl) ?_
 refine ax_nil (cx_keep rfl rfl (cx_seq (cx_ops ?_)))
 refine ax_q (q_fadr_ptr rfl) ?_
 refine ax_q (q_load1_ptr rfl rfl rfl) ?_
 refine ax_q (q_mov rfl) ?_
 have q0 := szF_spec left (szL List.length a.slots)
 refine ax_call rfl (vc_pure0 (c_szStringS  ?_ ?_ ?_) hP rfl rfl ?_)
 ·
  assumption
 ·
  assumption
 ·
  assumption
 refine ax_q (q_mov rfl) ?_
 refine ax_nil (cx_keep rfl rfl (cx_seq (cx_seq (cx_ops ?_))))
 refine ax_q (q_mov rfl) ?_
 refine ax_q (q_ibin rfl rfl rfl) ?_
 refine ax_nil (cx_keep rfl rfl ?_)
 refine cx_cond rfl (fun h0 => ?_) (fun h0 => ?_)
 ·
  have h0 := dT h0
  refine cx_seq (cx_ops ?_)
  refine ax_q (q_mov rfl) ?_
  refine ax_nil (cx_keep rfl rfl ?_)
  refine cx_ret (ret0 rfl rfl ?_)
  exact ⟨congrArg int (by omega), rfl⟩
 ·
  have h0 := dF h0
  refine cx_skip ?_
  refine cx_keep rfl rfl (cx_seq (cx_ops ?_))
  refine ax_q (q_mov rfl) ?_
  refine ax_q (q_mov rfl) ?_
  refine ax_nil (cx_keep rfl rfl ?_)
  refine cx_ret (ret0 rfl rfl ?_)
  exact ⟨congrArg int (by omega), rfl⟩


/- loop.example/g00332/laws.szFrame -/
def k_c_szFrame : XCode :=
 .seq (.ops [.op (some 2) (.box (.t 0)),
   .op (some 4) (.mov (.k (.int .i64 0)))])
 (.keep [1, 2] (.seq (.ops [.op (some 5) (.fadr (.t 2) 1),
   .op (some 6) (.loadN 2 (.t 5)),
   .op (some 7) (.mov (.t 1)),
   .call (some 8) 180 [.t 6, .t 7],
   .op (some 1) (.mov (.t 8))])
 (.keep [1] (.seq (.seq (.ops [.op (some 9) (.mov (.t 1)),
   .op (some 10) (.bin .lss (.t 9) (.k (.int .i64 0)))])
  (.keep [1, 10] (.cond (.t 10)
  (.seq (.ops [.op (some 4) (.mov (.k (.int .i64 (-1))))])
   (.keep [4] (.ret)))
  (.skip))))
 (.keep [1] (.seq (.ops [.op (some 11) (.mov (.t 1)),
   .op (some 4) (.mov (.t 11))])
 (.keep [4] (.ret))))))))
theorem k_c_szFrame_fits : fitsF Tryz.prog 108 ⟨12, k_c_szFrame, [.t 4]⟩ = true := by kernel_rfl
theorem c_szFrame {a : GFrame} {left : Int} (h0 : 0 ≤ left) (hl : left ≤ 1048576) (hw : a.wf) : Con Tryz.prog noMv 108 [a.av, int left] [] (fun r h => r = int (szF left (GFrame.sz a)) ∧ h = []) := by
 refine con_of2 k_c_szFrame_fits rfl fun C hP hmv => ?_
 unfold k_c_szFrame
 have sp := szF_spec left (GFrame.sz a)
 have e0 : GFrame.sz a = Page.sz a.Page := rfl
 rw [e0] at sp ⊢
 obtain ⟨w0, w1, w2, w3⟩ := hw
 refine cx_seq (cx_ops ?_)
 refine ax_e (e_box rfl rfl (by decide) rfl rfl rfl) ?_
 refine ax_q (q_mov rfl) ?_
 refine ax_nil (cx_keep rfl rfl (cx_seq (cx_ops ?_)))
 refine ax_q (q_fadr_ptr rfl) ?_
 refine ax_q (q_ldN rfl rfl rfl) ?_
 refine ax_q (q_mov rfl) ?_
 have q0 := szF_spec left (Page.sz a.Page)
 refine ax_call rfl (vc_pure0 (c_szPage  ?_ ?_ ?_) hP rfl rfl ?_)
 ·
  assumption
 ·
  assumption
 ·
  assumption
 refine ax_q (q_mov rfl) ?_
 refine ax_nil (cx_keep rfl rfl (cx_seq (cx_seq (cx_ops ?_))))
 refine ax_q (q_mov rfl) ?_
 refine ax_q (q_ibin rfl rfl rfl) ?_
 refine ax_nil (cx_keep rfl rfl ?_)
 refine cx_cond rfl (fun h0 => ?_) (fun h0 => ?_)
 ·
  have h0 := dT h0
  refine cx_seq (cx_ops ?_)
  refine ax_q (q_mov rfl) ?_
  refine ax_nil (cx_keep rfl rfl ?_)
  refine cx_ret (ret0 rfl rfl ?_)
  exact ⟨congrArg int (by omega), rfl⟩
 ·
  have h0 := dF h0
  refine cx_skip ?_
  refine cx_keep rfl rfl (cx_seq (cx_ops ?_))
  refine ax_q (q_mov rfl) ?_
  refine ax_q (q_mov rfl) ?_
  refine ax_nil (cx_keep rfl rfl ?_)
  refine cx_ret (ret0 rfl rfl ?_)
  exact ⟨congrArg int (by omega), rfl⟩


/- loop.example/g00332/laws.szFrameS -/
def k_c_szFrameS : XCode :=
 .seq (.ops [.op (some 4) (.mov (.k (.int .i64 0)))])
 (.keep [0, 1] (.seq (.ops [.op (some 6) (.mov (.t 1)),
   .op (some 7) (.mov (.t 0)),
   .op (some 8) (.lenS (.t 7)),
   .op (some 9) (.bin .sub (.t 6) (.t 8)),
   .op (some 1) (.mov (.t 9))])
 (.keep [0, 1] (.seq (.seq (.ops [.op (some 10) (.mov (.t 1)),
   .op (some 11) (.bin .lss (.t 10) (.k (.int .i64 0)))])
  (.keep [0, 1, 11] (.cond (.t 11)
  (.seq (.ops [.op (some 4) (.mov (.k (.int .i64 (-1))))])
   (.keep [4] (.ret)))
  (.skip))))
 (.keep [0, 1] (.seq (.seq (.ops [.op (some 5) (.mov (.k (.int .i64 0)))])
  (.keep [0, 1, 5] (.block 0 (.loop (.seq (.seq (.ops [.op (some 12) (.mov (.t 5)),
     .op (some 13) (.mov (.t 0)),
     .op (some 14) (.lenS (.t 13)),
     .op (some 15) (.bin .lss (.t 12) (.t 14))])
   (.keep [0, 1, 5, 15] (.cond (.t 15)
    (.skip)
    (.exit 0))))
   (.keep [0, 1, 5] (.seq (.block 1 (.seq (.ops [.op (some 18) (.mov (.t 0)),
     .op (some 19) (.mov (.t 5)),
     .op (some 20) (.iadr 5 (.t 18) (.t 19)),
     .op (some 21) (.loadN 5 (.t 20)),
     .op (some 22) (.mov (.t 1)),
     .call (some 23) 108 [.t 21, .t 22],
     .op (some 1) (.mov (.t 23))])
    (.keep [0, 1, 5] (.seq (.ops [.op (some 24) (.mov (.t 1)),
     .op (some 25) (.bin .lss (.t 24) (.k (.int .i64 0)))])
    (.keep [0, 1, 5, 25] (.cond (.t 25)
    (.seq (.ops [.op (some 4) (.mov (.k (.int .i64 (-1))))])
     (.keep [4] (.ret)))
    (.skip)))))))
   (.keep [0, 1, 5] (.ops [.op (some 16) (.mov (.t 5)),
    .op (some 17) (.bin .add (.t 16) (.k (.int .i64 1))),
    .op (some 5) (.mov (.t 17))])))))))))
 (.keep [1] (.seq (.ops [.op (some 26) (.mov (.t 1)),
   .op (some 4) (.mov (.t 26))])
 (.keep [4] (.ret))))))))))
theorem k_c_szFrameS_fits : fitsF Tryz.prog 49 ⟨27, k_c_szFrameS, [.t 4]⟩ = true := by kernel_rfl
theorem c_szFrameS {xs : List GFrame} {left : Int} (h0 : 0 ≤ left) (hl : left ≤ 1048576) (hw : wfL GFrame.wf xs) : Con Tryz.prog noMv 49 [.d (.sl 5 (xs.map GFrame.row)), int left] [] (fun r h => r = int (szF left (szL GFrame.sz xs)) ∧ h = []) := by
 refine con_of2 k_c_szFrameS_fits rfl fun C hP hmv => ?_
 unfold k_c_szFrameS
 have hw1 := hw.1; have hw2 := hw.2
 have sp := szF_spec left (szL GFrame.sz xs)
 refine cx_seq (cx_ops ?_)
 refine ax_q (q_mov rfl) ?_
 refine ax_nil (cx_keep rfl rfl (cx_seq (cx_ops ?_)))
 refine ax_q (q_mov rfl) ?_
 refine ax_q (q_mov rfl) ?_
 refine ax_q (q_lenS_map rfl) ?_
 refine ax_q (q_sub rfl rfl (by omega)) ?_
 refine ax_q (q_mov rfl) ?_
 refine ax_nil (cx_keep rfl rfl (cx_seq (cx_seq (cx_ops ?_))))
 refine ax_q (q_mov rfl) ?_
 refine ax_q (q_ibin rfl rfl rfl) ?_
 refine ax_nil (cx_keep rfl rfl ?_)
 refine cx_cond rfl (fun h0 => ?_) (fun h0 => ?_)
 ·
  have h0 := dT h0
  refine cx_seq (cx_ops ?_)
  refine ax_q (q_mov rfl) ?_
  refine ax_nil (cx_keep rfl rfl ?_)
  refine cx_ret (ret0 rfl rfl ?_)
  exact ⟨congrArg int (by unfold szL at sp ⊢; omega), rfl⟩
 ·
  have h0 := dF h0
  refine cx_skip ?_
  refine cx_keep rfl rfl (cx_seq (cx_seq (cx_ops ?_)))
  refine ax_q (q_mov rfl) ?_
  refine ax_nil (cx_keep rfl rfl (cx_block ?_))
  refine cx_loopU (fun n k => k ≤ xs.length ∧ n = xs.length - k ∧ 0 ≤ left - xs.length - sumBy GFrame.sz (xs.take k)) (fun k : Nat => [(1, int (left - xs.length - sumBy GFrame.sz (xs.take k))), (5, int k)]) (fun _ => [])
   ⟨_, 0, ⟨Nat.zero_le _, rfl, by simp [sumBy]; omega⟩, ⟨⟨rfl, congrArg (fun n => some (int n)) (by simp only [List.take_zero, sumBy]; omega), rfl, trivial⟩, trivial⟩⟩ ?_
  rintro n k ⟨hk, rfl, hs⟩
  refine cx_seq (cx_seq (cx_ops ?_))
  refine ax_q (q_mov rfl) ?_
  refine ax_q (q_mov rfl) ?_
  refine ax_q (q_lenS_map rfl) ?_
  refine ax_q (q_ibin rfl rfl rfl) ?_
  refine ax_nil (cx_keep rfl rfl ?_)
  refine cx_cond rfl (fun h1 => ?_) (fun h1 => ?_)
  ·
   have h1 := dT h1
   have h1x : k < xs.length := by omega
   have hst := sumBy_take (f := GFrame.sz) h1x
   have hsl := sumBy_le (f := GFrame.sz) xs (k + 1)
   have hwk := hw2 _ (List.getElem_mem h1x)
   refine cx_skip ?_
   refine cx_keep rfl rfl (cx_seq (cx_block (cx_seq (cx_ops ?_))))
   refine ax_q (q_mov rfl) ?_
   refine ax_q (q_mov rfl) ?_
   refine ax_q (q_ix rfl rfl (mapAt h1x)) ?_
   first | refine ax_q (q_ldN rfl rfl rfl) ?_ | refine ax_q (q_loadN_ip rfl (Nat.le_refl _)) ?_
   refine ax_q (q_mov rfl) ?_
   have spk := szF_spec (left - xs.length - sumBy GFrame.sz (xs.take k)) (GFrame.sz xs[k])
   refine ax_call rfl (vc_pure0 (c_szFrame  ?_ ?_ ?_) hP rfl rfl ?_)
   ·
    assumption
   ·
    first | assumption | omega
   ·
    assumption
   refine ax_q (q_mov rfl) ?_
   refine ax_nil (cx_keep rfl rfl (cx_seq (cx_ops ?_)))
   refine ax_q (q_mov rfl) ?_
   refine ax_q (q_ibin rfl rfl rfl) ?_
   refine ax_nil (cx_keep rfl rfl ?_)
   refine cx_cond rfl (fun h2 => ?_) (fun h2 => ?_)
   ·
    have h2 := dT h2
    refine cx_seq (cx_ops ?_)
    refine ax_q (q_mov rfl) ?_
    refine ax_nil (cx_keep rfl rfl ?_)
    refine cx_ret (ret0 rfl rfl ?_)
    exact ⟨congrArg int (by unfold szL at sp ⊢; omega), rfl⟩
   ·
    have h2 := dF h2
    have e9 : szF (left - xs.length - sumBy GFrame.sz (xs.take k)) (GFrame.sz xs[k]) = left - xs.length - sumBy GFrame.sz (xs.take (k + 1)) := by omega
    refine cx_skip ?_
    refine cx_keep rfl rfl (cx_ops ?_)
    refine ax_q (q_mov rfl) ?_
    refine ax_q (q_add rfl rfl (by omega)) ?_
    refine ax_q (q_mov rfl) ?_
    refine ax_nil ?_
    refine ⟨_, k + 1, by omega, ⟨by omega, rfl, by omega⟩, ?_⟩
    rw [e9]
    exact by repeat constructor
  ·
   have h1 := dF h1
   refine cx_exit rfl ?_
   refine cx_keep rfl rfl (cx_seq (cx_ops ?_))
   refine ax_q (q_mov rfl) ?_
   refine ax_q (q_mov rfl) ?_
   refine ax_nil (cx_keep rfl rfl ?_)
   refine cx_ret (ret0 rfl rfl ?_)
   have hk2 : k = xs.length := by omega
   subst hk2; rw [List.take_length] at hs ⊢
   exact ⟨congrArg int (by unfold szL at sp ⊢; omega), rfl⟩


/- loop.example/g00332/laws.szStore -/
def k_c_szStore : XCode :=
 .seq (.ops [.op (some 2) (.box (.t 0)),
   .op (some 4) (.mov (.k (.int .i64 0)))])
 (.keep [1, 2] (.seq (.ops [.op (some 5) (.fadr (.t 2) 0),
   .op (some 6) (.loadN 4 (.t 5)),
   .op (some 7) (.mov (.t 1)),
   .call (some 8) 47 [.t 6, .t 7],
   .op (some 1) (.mov (.t 8))])
 (.keep [1, 2] (.seq (.seq (.ops [.op (some 9) (.mov (.t 1)),
   .op (some 10) (.bin .lss (.t 9) (.k (.int .i64 0)))])
  (.keep [1, 2, 10] (.cond (.t 10)
  (.seq (.ops [.op (some 4) (.mov (.k (.int .i64 (-1))))])
   (.keep [4] (.ret)))
  (.skip))))
 (.keep [1, 2] (.seq (.ops [.op (some 11) (.fadr (.t 2) 5),
   .op (some 12) (.load1 (.t 11)),
   .op (some 13) (.mov (.t 1)),
   .call (some 14) 48 [.t 12, .t 13],
   .op (some 1) (.mov (.t 14))])
 (.keep [1, 2] (.seq (.seq (.ops [.op (some 15) (.mov (.t 1)),
   .op (some 16) (.bin .lss (.t 15) (.k (.int .i64 0)))])
  (.keep [1, 2, 16] (.cond (.t 16)
  (.seq (.ops [.op (some 4) (.mov (.k (.int .i64 (-1))))])
   (.keep [4] (.ret)))
  (.skip))))
 (.keep [1, 2] (.seq (.ops [.op (some 17) (.fadr (.t 2) 7),
   .op (some 18) (.load1 (.t 17)),
   .op (some 19) (.mov (.t 1)),
   .call (some 20) 49 [.t 18, .t 19],
   .op (some 1) (.mov (.t 20))])
 (.keep [1] (.seq (.seq (.ops [.op (some 21) (.mov (.t 1)),
   .op (some 22) (.bin .lss (.t 21) (.k (.int .i64 0)))])
  (.keep [1, 22] (.cond (.t 22)
  (.seq (.ops [.op (some 4) (.mov (.k (.int .i64 (-1))))])
   (.keep [4] (.ret)))
  (.skip))))
 (.keep [1] (.seq (.ops [.op (some 23) (.mov (.t 1)),
   .op (some 4) (.mov (.t 23))])
 (.keep [4] (.ret))))))))))))))))
theorem k_c_szStore_fits : fitsF Tryz.prog 14 ⟨24, k_c_szStore, [.t 4]⟩ = true := by kernel_rfl
theorem c_szStore {a : GStore} {left : Int} (h0 : 0 ≤ left) (hl : left ≤ 1048576) (hw : a.wf) : Con Tryz.prog noMv 14 [a.av, int left] [] (fun r h => r = int (szF left (GStore.sz a)) ∧ h = []) := by
 refine con_of2 k_c_szStore_fits rfl fun C hP hmv => ?_
 unfold k_c_szStore
 have sp := szF_spec left (GStore.sz a)
 have e0 : GStore.sz a = GDisk.sz a.Disk + szL GLogRecord.sz a.Log + szL GFrame.sz a.Frames := rfl
 rw [e0] at sp ⊢
 obtain ⟨w0, w1, w2, w3, w4, w5⟩ := hw
 refine cx_seq (cx_ops ?_)
 refine ax_e (e_box rfl rfl (by decide) rfl rfl rfl) ?_
 refine ax_q (q_mov rfl) ?_
 refine ax_nil (cx_keep rfl rfl (cx_seq (cx_ops ?_)))
 refine ax_q (q_fadr_ptr rfl) ?_
 refine ax_q (q_ldN rfl rfl rfl) ?_
 refine ax_q (q_mov rfl) ?_
 have q0 := szF_spec left (GDisk.sz a.Disk)
 refine ax_call rfl (vc_pure0 (c_szDisk  ?_ ?_ ?_) hP rfl rfl ?_)
 ·
  assumption
 ·
  assumption
 ·
  assumption
 refine ax_q (q_mov rfl) ?_
 refine ax_nil (cx_keep rfl rfl (cx_seq (cx_seq (cx_ops ?_))))
 refine ax_q (q_mov rfl) ?_
 refine ax_q (q_ibin rfl rfl rfl) ?_
 refine ax_nil (cx_keep rfl rfl ?_)
 refine cx_cond rfl (fun h0 => ?_) (fun h0 => ?_)
 ·
  have h0 := dT h0
  refine cx_seq (cx_ops ?_)
  refine ax_q (q_mov rfl) ?_
  refine ax_nil (cx_keep rfl rfl ?_)
  refine cx_ret (ret0 rfl rfl ?_)
  exact ⟨congrArg int (by omega), rfl⟩
 ·
  have h0 := dF h0
  refine cx_skip ?_
  refine cx_keep rfl rfl (cx_seq (cx_ops ?_))
  refine ax_q (q_fadr_ptr rfl) ?_
  refine ax_q (q_load1_ptr rfl rfl rfl) ?_
  refine ax_q (q_mov rfl) ?_
  have q1 := szF_spec (szF left (GDisk.sz a.Disk)) (szL GLogRecord.sz a.Log)
  refine ax_call rfl (vc_pure0 (c_szLogRecordS  ?_ ?_ ?_) hP rfl rfl ?_)
  ·
   first | assumption | omega
  ·
   first | assumption | omega
  ·
   assumption
  refine ax_q (q_mov rfl) ?_
  refine ax_nil (cx_keep rfl rfl (cx_seq (cx_seq (cx_ops ?_))))
  refine ax_q (q_mov rfl) ?_
  refine ax_q (q_ibin rfl rfl rfl) ?_
  refine ax_nil (cx_keep rfl rfl ?_)
  refine cx_cond rfl (fun h1 => ?_) (fun h1 => ?_)
  ·
   have h1 := dT h1
   refine cx_seq (cx_ops ?_)
   refine ax_q (q_mov rfl) ?_
   refine ax_nil (cx_keep rfl rfl ?_)
   refine cx_ret (ret0 rfl rfl ?_)
   exact ⟨congrArg int (by omega), rfl⟩
  ·
   have h1 := dF h1
   refine cx_skip ?_
   refine cx_keep rfl rfl (cx_seq (cx_ops ?_))
   refine ax_q (q_fadr_ptr rfl) ?_
   refine ax_q (q_load1_ptr rfl rfl rfl) ?_
   refine ax_q (q_mov rfl) ?_
   have q2 := szF_spec (szF (szF left (GDisk.sz a.Disk)) (szL GLogRecord.sz a.Log)) (szL GFrame.sz a.Frames)
   refine ax_call rfl (vc_pure0 (c_szFrameS  ?_ ?_ ?_) hP rfl rfl ?_)
   ·
    first | assumption | omega
   ·
    first | assumption | omega
   ·
    assumption
   refine ax_q (q_mov rfl) ?_
   refine ax_nil (cx_keep rfl rfl (cx_seq (cx_seq (cx_ops ?_))))
   refine ax_q (q_mov rfl) ?_
   refine ax_q (q_ibin rfl rfl rfl) ?_
   refine ax_nil (cx_keep rfl rfl ?_)
   refine cx_cond rfl (fun h2 => ?_) (fun h2 => ?_)
   ·
    have h2 := dT h2
    refine cx_seq (cx_ops ?_)
    refine ax_q (q_mov rfl) ?_
    refine ax_nil (cx_keep rfl rfl ?_)
    refine cx_ret (ret0 rfl rfl ?_)
    exact ⟨congrArg int (by omega), rfl⟩
   ·
    have h2 := dF h2
    refine cx_skip ?_
    refine cx_keep rfl rfl (cx_seq (cx_ops ?_))
    refine ax_q (q_mov rfl) ?_
    refine ax_q (q_mov rfl) ?_
    refine ax_nil (cx_keep rfl rfl ?_)
    refine cx_ret (ret0 rfl rfl ?_)
    exact ⟨congrArg int (by omega), rfl⟩


/- loop.example/g00332/laws.szTxS -/
def k_c_szTxS : XCode :=
 .seq (.ops [.op (some 4) (.mov (.k (.int .i64 0)))])
 (.keep [0, 1] (.seq (.ops [.op (some 5) (.mov (.t 1)),
   .op (some 6) (.mov (.t 0)),
   .op (some 7) (.lenS (.t 6)),
   .op (some 8) (.bin .sub (.t 5) (.t 7)),
   .op (some 1) (.mov (.t 8))])
 (.keep [1] (.seq (.seq (.ops [.op (some 9) (.mov (.t 1)),
   .op (some 10) (.bin .lss (.t 9) (.k (.int .i64 0)))])
  (.keep [1, 10] (.cond (.t 10)
  (.seq (.ops [.op (some 4) (.mov (.k (.int .i64 (-1))))])
   (.keep [4] (.ret)))
  (.skip))))
 (.keep [1] (.seq (.ops [.op (some 11) (.mov (.t 1)),
   .op (some 4) (.mov (.t 11))])
 (.keep [4] (.ret))))))))
theorem k_c_szTxS_fits : fitsF Tryz.prog 33 ⟨12, k_c_szTxS, [.t 4]⟩ = true := by kernel_rfl
theorem c_szTxS {xs : List GTx} {left : Int} (h0 : 0 ≤ left) (hl : left ≤ 1048576) (hw : wfL GTx.wf xs) : Con Tryz.prog noMv 33 [.d (.sl 2 (xs.map GTx.row)), int left] [] (fun r h => r = int (szF left (szL (fun _ => 0) xs)) ∧ h = []) := by
 refine con_of2 k_c_szTxS_fits rfl fun C hP hmv => ?_
 unfold k_c_szTxS
 have hw1 := hw.1
 have sp := szF_spec left (szL (fun _ => 0) xs)
 have e0 : szL (fun _ => 0) xs = xs.length := by unfold szL; rw [sumBy_zero]; rfl
 rw [e0] at sp ⊢
 refine cx_seq (cx_ops ?_)
 refine ax_q (q_mov rfl) ?_
 refine ax_nil (cx_keep rfl rfl (cx_seq (cx_ops ?_)))
 refine ax_q (q_mov rfl) ?_
 refine ax_q (q_mov rfl) ?_
 refine ax_q (q_lenS_map rfl) ?_
 refine ax_q (q_sub rfl rfl (by omega)) ?_
 refine ax_q (q_mov rfl) ?_
 refine ax_nil (cx_keep rfl rfl (cx_seq (cx_seq (cx_ops ?_))))
 refine ax_q (q_mov rfl) ?_
 refine ax_q (q_ibin rfl rfl rfl) ?_
 refine ax_nil (cx_keep rfl rfl ?_)
 refine cx_cond rfl (fun h0 => ?_) (fun h0 => ?_)
 ·
  have h0 := dT h0
  refine cx_seq (cx_ops ?_)
  refine ax_q (q_mov rfl) ?_
  refine ax_nil (cx_keep rfl rfl ?_)
  refine cx_ret (ret0 rfl rfl ?_)
  exact ⟨congrArg int (by omega), rfl⟩
 ·
  have h0 := dF h0
  refine cx_skip ?_
  refine cx_keep rfl rfl (cx_seq (cx_ops ?_))
  refine ax_q (q_mov rfl) ?_
  refine ax_q (q_mov rfl) ?_
  refine ax_nil (cx_keep rfl rfl ?_)
  refine cx_ret (ret0 rfl rfl ?_)
  exact ⟨congrArg int (by omega), rfl⟩


/- loop.example/g00332/laws.szLockS -/
def k_c_szLockS : XCode :=
 .seq (.ops [.op (some 4) (.mov (.k (.int .i64 0)))])
 (.keep [0, 1] (.seq (.ops [.op (some 5) (.mov (.t 1)),
   .op (some 6) (.mov (.t 0)),
   .op (some 7) (.lenS (.t 6)),
   .op (some 8) (.bin .sub (.t 5) (.t 7)),
   .op (some 1) (.mov (.t 8))])
 (.keep [1] (.seq (.seq (.ops [.op (some 9) (.mov (.t 1)),
   .op (some 10) (.bin .lss (.t 9) (.k (.int .i64 0)))])
  (.keep [1, 10] (.cond (.t 10)
  (.seq (.ops [.op (some 4) (.mov (.k (.int .i64 (-1))))])
   (.keep [4] (.ret)))
  (.skip))))
 (.keep [1] (.seq (.ops [.op (some 11) (.mov (.t 1)),
   .op (some 4) (.mov (.t 11))])
 (.keep [4] (.ret))))))))
theorem k_c_szLockS_fits : fitsF Tryz.prog 80 ⟨12, k_c_szLockS, [.t 4]⟩ = true := by kernel_rfl
theorem c_szLockS {xs : List GLock} {left : Int} (h0 : 0 ≤ left) (hl : left ≤ 1048576) (hw : wfL GLock.wf xs) : Con Tryz.prog noMv 80 [.d (.sl 4 (xs.map GLock.row)), int left] [] (fun r h => r = int (szF left (szL (fun _ => 0) xs)) ∧ h = []) := by
 refine con_of2 k_c_szLockS_fits rfl fun C hP hmv => ?_
 unfold k_c_szLockS
 have hw1 := hw.1
 have sp := szF_spec left (szL (fun _ => 0) xs)
 have e0 : szL (fun _ => 0) xs = xs.length := by unfold szL; rw [sumBy_zero]; rfl
 rw [e0] at sp ⊢
 refine cx_seq (cx_ops ?_)
 refine ax_q (q_mov rfl) ?_
 refine ax_nil (cx_keep rfl rfl (cx_seq (cx_ops ?_)))
 refine ax_q (q_mov rfl) ?_
 refine ax_q (q_mov rfl) ?_
 refine ax_q (q_lenS_map rfl) ?_
 refine ax_q (q_sub rfl rfl (by omega)) ?_
 refine ax_q (q_mov rfl) ?_
 refine ax_nil (cx_keep rfl rfl (cx_seq (cx_seq (cx_ops ?_))))
 refine ax_q (q_mov rfl) ?_
 refine ax_q (q_ibin rfl rfl rfl) ?_
 refine ax_nil (cx_keep rfl rfl ?_)
 refine cx_cond rfl (fun h0 => ?_) (fun h0 => ?_)
 ·
  have h0 := dT h0
  refine cx_seq (cx_ops ?_)
  refine ax_q (q_mov rfl) ?_
  refine ax_nil (cx_keep rfl rfl ?_)
  refine cx_ret (ret0 rfl rfl ?_)
  exact ⟨congrArg int (by omega), rfl⟩
 ·
  have h0 := dF h0
  refine cx_skip ?_
  refine cx_keep rfl rfl (cx_seq (cx_ops ?_))
  refine ax_q (q_mov rfl) ?_
  refine ax_q (q_mov rfl) ?_
  refine ax_nil (cx_keep rfl rfl ?_)
  refine cx_ret (ret0 rfl rfl ?_)
  exact ⟨congrArg int (by omega), rfl⟩


/- loop.example/g00332/laws.szWaitS -/
def k_c_szWaitS : XCode :=
 .seq (.ops [.op (some 4) (.mov (.k (.int .i64 0)))])
 (.keep [0, 1] (.seq (.ops [.op (some 5) (.mov (.t 1)),
   .op (some 6) (.mov (.t 0)),
   .op (some 7) (.lenS (.t 6)),
   .op (some 8) (.bin .sub (.t 5) (.t 7)),
   .op (some 1) (.mov (.t 8))])
 (.keep [1] (.seq (.seq (.ops [.op (some 9) (.mov (.t 1)),
   .op (some 10) (.bin .lss (.t 9) (.k (.int .i64 0)))])
  (.keep [1, 10] (.cond (.t 10)
  (.seq (.ops [.op (some 4) (.mov (.k (.int .i64 (-1))))])
   (.keep [4] (.ret)))
  (.skip))))
 (.keep [1] (.seq (.ops [.op (some 11) (.mov (.t 1)),
   .op (some 4) (.mov (.t 11))])
 (.keep [4] (.ret))))))))
theorem k_c_szWaitS_fits : fitsF Tryz.prog 81 ⟨12, k_c_szWaitS, [.t 4]⟩ = true := by kernel_rfl
theorem c_szWaitS {xs : List GWait} {left : Int} (h0 : 0 ≤ left) (hl : left ≤ 1048576) (hw : wfL GWait.wf xs) : Con Tryz.prog noMv 81 [.d (.sl 2 (xs.map GWait.row)), int left] [] (fun r h => r = int (szF left (szL (fun _ => 0) xs)) ∧ h = []) := by
 refine con_of2 k_c_szWaitS_fits rfl fun C hP hmv => ?_
 unfold k_c_szWaitS
 have hw1 := hw.1
 have sp := szF_spec left (szL (fun _ => 0) xs)
 have e0 : szL (fun _ => 0) xs = xs.length := by unfold szL; rw [sumBy_zero]; rfl
 rw [e0] at sp ⊢
 refine cx_seq (cx_ops ?_)
 refine ax_q (q_mov rfl) ?_
 refine ax_nil (cx_keep rfl rfl (cx_seq (cx_ops ?_)))
 refine ax_q (q_mov rfl) ?_
 refine ax_q (q_mov rfl) ?_
 refine ax_q (q_lenS_map rfl) ?_
 refine ax_q (q_sub rfl rfl (by omega)) ?_
 refine ax_q (q_mov rfl) ?_
 refine ax_nil (cx_keep rfl rfl (cx_seq (cx_seq (cx_ops ?_))))
 refine ax_q (q_mov rfl) ?_
 refine ax_q (q_ibin rfl rfl rfl) ?_
 refine ax_nil (cx_keep rfl rfl ?_)
 refine cx_cond rfl (fun h0 => ?_) (fun h0 => ?_)
 ·
  have h0 := dT h0
  refine cx_seq (cx_ops ?_)
  refine ax_q (q_mov rfl) ?_
  refine ax_nil (cx_keep rfl rfl ?_)
  refine cx_ret (ret0 rfl rfl ?_)
  exact ⟨congrArg int (by omega), rfl⟩
 ·
  have h0 := dF h0
  refine cx_skip ?_
  refine cx_keep rfl rfl (cx_seq (cx_ops ?_))
  refine ax_q (q_mov rfl) ?_
  refine ax_q (q_mov rfl) ?_
  refine ax_nil (cx_keep rfl rfl ?_)
  refine cx_ret (ret0 rfl rfl ?_)
  exact ⟨congrArg int (by omega), rfl⟩


/- loop.example/g00332/laws.szLocks -/
def k_c_szLocks : XCode :=
 .seq (.ops [.op (some 2) (.box (.t 0)),
   .op (some 4) (.mov (.k (.int .i64 0)))])
 (.keep [1, 2] (.seq (.ops [.op (some 5) (.fadr (.t 2) 0),
   .op (some 6) (.load1 (.t 5)),
   .op (some 7) (.mov (.t 1)),
   .call (some 8) 80 [.t 6, .t 7],
   .op (some 1) (.mov (.t 8))])
 (.keep [1, 2] (.seq (.seq (.ops [.op (some 9) (.mov (.t 1)),
   .op (some 10) (.bin .lss (.t 9) (.k (.int .i64 0)))])
  (.keep [1, 2, 10] (.cond (.t 10)
  (.seq (.ops [.op (some 4) (.mov (.k (.int .i64 (-1))))])
   (.keep [4] (.ret)))
  (.skip))))
 (.keep [1, 2] (.seq (.ops [.op (some 11) (.fadr (.t 2) 1),
   .op (some 12) (.load1 (.t 11)),
   .op (some 13) (.mov (.t 1)),
   .call (some 14) 81 [.t 12, .t 13],
   .op (some 1) (.mov (.t 14))])
 (.keep [1] (.seq (.seq (.ops [.op (some 15) (.mov (.t 1)),
   .op (some 16) (.bin .lss (.t 15) (.k (.int .i64 0)))])
  (.keep [1, 16] (.cond (.t 16)
  (.seq (.ops [.op (some 4) (.mov (.k (.int .i64 (-1))))])
   (.keep [4] (.ret)))
  (.skip))))
 (.keep [1] (.seq (.ops [.op (some 17) (.mov (.t 1)),
   .op (some 4) (.mov (.t 17))])
 (.keep [4] (.ret))))))))))))
theorem k_c_szLocks_fits : fitsF Tryz.prog 34 ⟨18, k_c_szLocks, [.t 4]⟩ = true := by kernel_rfl
theorem c_szLocks {a : GLocks} {left : Int} (h0 : 0 ≤ left) (hl : left ≤ 1048576) (hw : a.wf) : Con Tryz.prog noMv 34 [a.av, int left] [] (fun r h => r = int (szF left (GLocks.sz a)) ∧ h = []) := by
 refine con_of2 k_c_szLocks_fits rfl fun C hP hmv => ?_
 unfold k_c_szLocks
 have sp := szF_spec left (GLocks.sz a)
 have e0 : GLocks.sz a = szL (fun _ => 0) a.Held + szL (fun _ => 0) a.Waits := rfl
 rw [e0] at sp ⊢
 obtain ⟨w0, w1⟩ := hw
 refine cx_seq (cx_ops ?_)
 refine ax_e (e_box rfl rfl (by decide) rfl rfl rfl) ?_
 refine ax_q (q_mov rfl) ?_
 refine ax_nil (cx_keep rfl rfl (cx_seq (cx_ops ?_)))
 refine ax_q (q_fadr_ptr rfl) ?_
 refine ax_q (q_load1_ptr rfl rfl rfl) ?_
 refine ax_q (q_mov rfl) ?_
 have q0 := szF_spec left (szL (fun _ => 0) a.Held)
 refine ax_call rfl (vc_pure0 (c_szLockS  ?_ ?_ ?_) hP rfl rfl ?_)
 ·
  assumption
 ·
  assumption
 ·
  assumption
 refine ax_q (q_mov rfl) ?_
 refine ax_nil (cx_keep rfl rfl (cx_seq (cx_seq (cx_ops ?_))))
 refine ax_q (q_mov rfl) ?_
 refine ax_q (q_ibin rfl rfl rfl) ?_
 refine ax_nil (cx_keep rfl rfl ?_)
 refine cx_cond rfl (fun h0 => ?_) (fun h0 => ?_)
 ·
  have h0 := dT h0
  refine cx_seq (cx_ops ?_)
  refine ax_q (q_mov rfl) ?_
  refine ax_nil (cx_keep rfl rfl ?_)
  refine cx_ret (ret0 rfl rfl ?_)
  exact ⟨congrArg int (by omega), rfl⟩
 ·
  have h0 := dF h0
  refine cx_skip ?_
  refine cx_keep rfl rfl (cx_seq (cx_ops ?_))
  refine ax_q (q_fadr_ptr rfl) ?_
  refine ax_q (q_load1_ptr rfl rfl rfl) ?_
  refine ax_q (q_mov rfl) ?_
  have q1 := szF_spec (szF left (szL (fun _ => 0) a.Held)) (szL (fun _ => 0) a.Waits)
  refine ax_call rfl (vc_pure0 (c_szWaitS  ?_ ?_ ?_) hP rfl rfl ?_)
  ·
   first | assumption | omega
  ·
   first | assumption | omega
  ·
   assumption
  refine ax_q (q_mov rfl) ?_
  refine ax_nil (cx_keep rfl rfl (cx_seq (cx_seq (cx_ops ?_))))
  refine ax_q (q_mov rfl) ?_
  refine ax_q (q_ibin rfl rfl rfl) ?_
  refine ax_nil (cx_keep rfl rfl ?_)
  refine cx_cond rfl (fun h1 => ?_) (fun h1 => ?_)
  ·
   have h1 := dT h1
   refine cx_seq (cx_ops ?_)
   refine ax_q (q_mov rfl) ?_
   refine ax_nil (cx_keep rfl rfl ?_)
   refine cx_ret (ret0 rfl rfl ?_)
   exact ⟨congrArg int (by omega), rfl⟩
  ·
   have h1 := dF h1
   refine cx_skip ?_
   refine cx_keep rfl rfl (cx_seq (cx_ops ?_))
   refine ax_q (q_mov rfl) ?_
   refine ax_q (q_mov rfl) ?_
   refine ax_nil (cx_keep rfl rfl ?_)
   refine cx_ret (ret0 rfl rfl ?_)
   exact ⟨congrArg int (by omega), rfl⟩


/- loop.example/g00332/laws.szEngine -/
def k_c_szEngine : XCode :=
 .seq (.ops [.op (some 2) (.box (.t 0)),
   .op (some 4) (.mov (.k (.int .i64 0)))])
 (.keep [1, 2] (.seq (.ops [.op (some 5) (.fadr (.t 2) 0),
   .op (some 6) (.loadN 9 (.t 5)),
   .op (some 7) (.mov (.t 1)),
   .call (some 8) 14 [.t 6, .t 7],
   .op (some 1) (.mov (.t 8))])
 (.keep [1, 2] (.seq (.seq (.ops [.op (some 9) (.mov (.t 1)),
   .op (some 10) (.bin .lss (.t 9) (.k (.int .i64 0)))])
  (.keep [1, 2, 10] (.cond (.t 10)
  (.seq (.ops [.op (some 4) (.mov (.k (.int .i64 (-1))))])
   (.keep [4] (.ret)))
  (.skip))))
 (.keep [1, 2] (.seq (.ops [.op (some 11) (.fadr (.t 2) 10),
   .op (some 12) (.load1 (.t 11)),
   .op (some 13) (.mov (.t 1)),
   .call (some 14) 33 [.t 12, .t 13],
   .op (some 1) (.mov (.t 14))])
 (.keep [1, 2] (.seq (.seq (.ops [.op (some 15) (.mov (.t 1)),
   .op (some 16) (.bin .lss (.t 15) (.k (.int .i64 0)))])
  (.keep [1, 2, 16] (.cond (.t 16)
  (.seq (.ops [.op (some 4) (.mov (.k (.int .i64 (-1))))])
   (.keep [4] (.ret)))
  (.skip))))
 (.keep [1, 2] (.seq (.ops [.op (some 17) (.fadr (.t 2) 11),
   .op (some 18) (.loadN 2 (.t 17)),
   .op (some 19) (.mov (.t 1)),
   .call (some 20) 34 [.t 18, .t 19],
   .op (some 1) (.mov (.t 20))])
 (.keep [1] (.seq (.seq (.ops [.op (some 21) (.mov (.t 1)),
   .op (some 22) (.bin .lss (.t 21) (.k (.int .i64 0)))])
  (.keep [1, 22] (.cond (.t 22)
  (.seq (.ops [.op (some 4) (.mov (.k (.int .i64 (-1))))])
   (.keep [4] (.ret)))
  (.skip))))
 (.keep [1] (.seq (.ops [.op (some 23) (.mov (.t 1)),
   .op (some 4) (.mov (.t 23))])
 (.keep [4] (.ret))))))))))))))))
theorem k_c_szEngine_fits : fitsF Tryz.prog 7 ⟨24, k_c_szEngine, [.t 4]⟩ = true := by kernel_rfl
theorem c_szEngine {a : GEngine} {left : Int} (h0 : 0 ≤ left) (hl : left ≤ 1048576) (hw : a.wf) : Con Tryz.prog noMv 7 [a.av, int left] [] (fun r h => r = int (szF left (GEngine.sz a)) ∧ h = []) := by
 refine con_of2 k_c_szEngine_fits rfl fun C hP hmv => ?_
 unfold k_c_szEngine
 have sp := szF_spec left (GEngine.sz a)
 have e0 : GEngine.sz a = GStore.sz a.Store + szL (fun _ => 0) a.Txs + GLocks.sz a.Locks := rfl
 rw [e0] at sp ⊢
 obtain ⟨w0, w1, w2, w3, w4⟩ := hw
 refine cx_seq (cx_ops ?_)
 refine ax_e (e_box rfl rfl (by decide) rfl rfl rfl) ?_
 refine ax_q (q_mov rfl) ?_
 refine ax_nil (cx_keep rfl rfl (cx_seq (cx_ops ?_)))
 refine ax_q (q_fadr_ptr rfl) ?_
 refine ax_q (q_ldN rfl rfl rfl) ?_
 refine ax_q (q_mov rfl) ?_
 have q0 := szF_spec left (GStore.sz a.Store)
 refine ax_call rfl (vc_pure0 (c_szStore  ?_ ?_ ?_) hP rfl rfl ?_)
 ·
  assumption
 ·
  assumption
 ·
  assumption
 refine ax_q (q_mov rfl) ?_
 refine ax_nil (cx_keep rfl rfl (cx_seq (cx_seq (cx_ops ?_))))
 refine ax_q (q_mov rfl) ?_
 refine ax_q (q_ibin rfl rfl rfl) ?_
 refine ax_nil (cx_keep rfl rfl ?_)
 refine cx_cond rfl (fun h0 => ?_) (fun h0 => ?_)
 ·
  have h0 := dT h0
  refine cx_seq (cx_ops ?_)
  refine ax_q (q_mov rfl) ?_
  refine ax_nil (cx_keep rfl rfl ?_)
  refine cx_ret (ret0 rfl rfl ?_)
  exact ⟨congrArg int (by omega), rfl⟩
 ·
  have h0 := dF h0
  refine cx_skip ?_
  refine cx_keep rfl rfl (cx_seq (cx_ops ?_))
  refine ax_q (q_fadr_ptr rfl) ?_
  refine ax_q (q_load1_ptr rfl rfl rfl) ?_
  refine ax_q (q_mov rfl) ?_
  have q1 := szF_spec (szF left (GStore.sz a.Store)) (szL (fun _ => 0) a.Txs)
  refine ax_call rfl (vc_pure0 (c_szTxS  ?_ ?_ ?_) hP rfl rfl ?_)
  ·
   first | assumption | omega
  ·
   first | assumption | omega
  ·
   assumption
  refine ax_q (q_mov rfl) ?_
  refine ax_nil (cx_keep rfl rfl (cx_seq (cx_seq (cx_ops ?_))))
  refine ax_q (q_mov rfl) ?_
  refine ax_q (q_ibin rfl rfl rfl) ?_
  refine ax_nil (cx_keep rfl rfl ?_)
  refine cx_cond rfl (fun h1 => ?_) (fun h1 => ?_)
  ·
   have h1 := dT h1
   refine cx_seq (cx_ops ?_)
   refine ax_q (q_mov rfl) ?_
   refine ax_nil (cx_keep rfl rfl ?_)
   refine cx_ret (ret0 rfl rfl ?_)
   exact ⟨congrArg int (by omega), rfl⟩
  ·
   have h1 := dF h1
   refine cx_skip ?_
   refine cx_keep rfl rfl (cx_seq (cx_ops ?_))
   refine ax_q (q_fadr_ptr rfl) ?_
   refine ax_q (q_ldN rfl rfl rfl) ?_
   refine ax_q (q_mov rfl) ?_
   have q2 := szF_spec (szF (szF left (GStore.sz a.Store)) (szL (fun _ => 0) a.Txs)) (GLocks.sz a.Locks)
   refine ax_call rfl (vc_pure0 (c_szLocks  ?_ ?_ ?_) hP rfl rfl ?_)
   ·
    first | assumption | omega
   ·
    first | assumption | omega
   ·
    assumption
   refine ax_q (q_mov rfl) ?_
   refine ax_nil (cx_keep rfl rfl (cx_seq (cx_seq (cx_ops ?_))))
   refine ax_q (q_mov rfl) ?_
   refine ax_q (q_ibin rfl rfl rfl) ?_
   refine ax_nil (cx_keep rfl rfl ?_)
   refine cx_cond rfl (fun h2 => ?_) (fun h2 => ?_)
   ·
    have h2 := dT h2
    refine cx_seq (cx_ops ?_)
    refine ax_q (q_mov rfl) ?_
    refine ax_nil (cx_keep rfl rfl ?_)
    refine cx_ret (ret0 rfl rfl ?_)
    exact ⟨congrArg int (by omega), rfl⟩
   ·
    have h2 := dF h2
    refine cx_skip ?_
    refine cx_keep rfl rfl (cx_seq (cx_ops ?_))
    refine ax_q (q_mov rfl) ?_
    refine ax_q (q_mov rfl) ?_
    refine ax_nil (cx_keep rfl rfl ?_)
    refine cx_ret (ret0 rfl rfl ?_)
    exact ⟨congrArg int (by omega), rfl⟩


/- loop.example/g00332/laws.toStringS -/
def k_c_toStringS : XCode :=
 .seq (.ops [.op (some 2) (.mov (.k (.nils 1)))])
 (.keep [0] (.seq (.ops [.op (some 5) (.mov (.t 0)),
   .op (some 6) (.lenS (.t 5)),
   .op (some 7) (.mkslice 1 16 [.str []] (.t 6) (.t 6)),
   .op (some 3) (.mov (.t 7))])
 (.keep [0, 3] (.seq (.seq (.ops [.op (some 4) (.mov (.k (.int .i64 0)))])
  (.keep [0, 3, 4] (.block 0 (.loop (.seq (.seq (.ops [.op (some 8) (.mov (.t 4)),
     .op (some 9) (.mov (.t 0)),
     .op (some 10) (.lenS (.t 9)),
     .op (some 11) (.bin .lss (.t 8) (.t 10))])
   (.keep [0, 3, 4, 11] (.cond (.t 11)
    (.skip)
    (.exit 0))))
   (.keep [0, 3, 4] (.seq (.block 1 (.ops [.op (some 14) (.mov (.t 3)),
     .op (some 15) (.mov (.t 4)),
     .op (some 16) (.mov (.t 0)),
     .op (some 17) (.mov (.t 4)),
     .op (some 18) (.iadr 1 (.t 16) (.t 17)),
     .op (some 19) (.load1 (.t 18)),
     .op (some 20) (.iadr 1 (.t 14) (.t 15)),
     .op none (.store 1 (.t 20) (.t 19))]))
   (.keep [0, 3, 4] (.ops [.op (some 12) (.mov (.t 4)),
    .op (some 13) (.bin .add (.t 12) (.k (.int .i64 1))),
    .op (some 4) (.mov (.t 13))])))))))))
 (.keep [3] (.seq (.ops [.op (some 21) (.mov (.t 3)),
   .op (some 2) (.mov (.t 21))])
 (.keep [2] (.ret))))))))
theorem k_c_toStringS_fits : fitsF Tryz.prog 109 ⟨22, k_c_toStringS, [.t 2]⟩ = true := by kernel_rfl
theorem c_toStringS {xs : List Str} (hw : xs.length ≤ 1048576) : Con Tryz.prog noMv 109 [.d (.sl 1 (xs.map strRow))] [] (fun r h => r = .osl 0 1 0 xs.length ∧ h = [(0, .rows 1 (xs.map strRow))]) := by
 refine con_of2 k_c_toStringS_fits rfl fun C hP hmv => ?_
 unfold k_c_toStringS
 refine cx_seq (cx_ops ?_)
 refine ax_q (q_mov rfl) ?_
 refine ax_nil (cx_keep rfl rfl (cx_seq (cx_ops ?_)))
 refine ax_q (q_mov rfl) ?_
 refine ax_q (q_lenS_map rfl) ?_
 refine ax_ee (e_mkslice rfl rfl rfl (by omega) (by omega) (by omega) (by decide) rfl rfl) (by rw [Int.toNat_natCast]) ?_
 refine ax_q (q_mov rfl) ?_
 refine ax_nil (cx_keep rfl rfl (cx_seq (cx_seq (cx_ops ?_))))
 refine ax_q (q_mov rfl) ?_
 refine ax_nil (cx_keep rfl rfl (cx_block ?_))
 refine cx_loopU (fun n k => k ≤ xs.length ∧ n = xs.length - k) (fun k : Nat => [(4, int k)]) (fun k => [(7, .rows 1 ((xs.take k).map strRow ++ List.replicate (xs.length - k) [.str []]))]) ⟨_, 0, ⟨Nat.zero_le _, rfl⟩, by repeat constructor⟩ ?_
 rintro n k ⟨hk, rfl⟩
 refine cx_seq (cx_seq (cx_ops ?_))
 refine ax_q (q_mov rfl) ?_
 refine ax_q (q_mov rfl) ?_
 refine ax_q (q_lenS_map rfl) ?_
 refine ax_q (q_ibin rfl rfl rfl) ?_
 refine ax_nil (cx_keep rfl rfl ?_)
 refine cx_cond rfl (fun h0 => ?_) (fun h0 => ?_)
 ·
  have h0 := dT h0
  have h1x : k < xs.length := by omega
  refine cx_skip ?_
  refine cx_keep rfl rfl (cx_seq (cx_block (cx_ops ?_)))
  refine ax_q (q_mov rfl) ?_
  refine ax_q (q_mov rfl) ?_
  refine ax_q (q_mov rfl) ?_
  refine ax_q (q_mov rfl) ?_
  refine ax_q (q_ix rfl rfl (mapAt h1x)) ?_
  first | refine ax_q (q_load1_ptr rfl rfl rfl) ?_ | refine ax_q (q_load1_ip rfl) ?_
  refine ax_q (q_ixo rfl rfl h1x) ?_
  refine ax_e (e_str (q := strRow xs[k]) rfl rfl rfl rfl rfl rfl (fillAtL h1x) rfl rfl (fillSetL h1x)) ?_
  refine ax_nil (cx_keep rfl rfl (cx_ops ?_))
  refine ax_q (q_mov rfl) ?_
  refine ax_q (q_add rfl rfl (by omega)) ?_
  refine ax_q (q_mov rfl) ?_
  refine ax_nil ?_
  exact ⟨_, k + 1, by omega, ⟨by omega, rfl⟩, by repeat constructor⟩
 ·
  have h0 := dF h0
  refine cx_exit rfl ?_
  refine cx_keep rfl rfl (cx_seq (cx_ops ?_))
  refine ax_q (q_mov rfl) ?_
  refine ax_q (q_mov rfl) ?_
  refine ax_nil (cx_keep rfl rfl ?_)
  refine cx_ret (retN (fun _ => 0) [7] rfl rfl rfl rfl rfl ?_)
  exact ⟨rfl, by rw [show k = xs.length from by omega, List.take_length, Nat.sub_self, List.replicate_zero, List.append_nil]; rfl⟩


/- loop.example/g00332/laws.toPending -/
def k_c_toPending : XCode :=
 .seq (.ops [.op (some 1) (.box (.t 0)),
   .op (some 2) (.alloc [.int .i64 0, .str []])])
 (.keep [1, 2] (.seq (.ops [.op (some 3) (.alloc [.int .i64 0, .str []])])
 (.keep [1, 2, 3] (.seq (.ops [.op (some 4) (.fadr (.t 1) 0),
   .op (some 5) (.load1 (.t 4)),
   .op (some 6) (.fadr (.t 3) 0),
   .op none (.store 1 (.t 6) (.t 5))])
 (.keep [1, 2, 3] (.seq (.ops [.op (some 7) (.fadr (.t 1) 1),
   .op (some 8) (.load1 (.t 7)),
   .op (some 9) (.fadr (.t 3) 1),
   .op none (.store 1 (.t 9) (.t 8))])
 (.keep [2, 3] (.seq (.ops [.op (some 10) (.loadN 2 (.t 3)),
   .op none (.store 2 (.t 2) (.t 10))])
 (.keep [2] (.ret))))))))))
theorem k_c_toPending_fits : fitsF Tryz.prog 181 ⟨11, k_c_toPending, [.cN 2 2]⟩ = true := by kernel_rfl
theorem c_toPending {a : GPending} : Con Tryz.prog noMv 181 [a.av] [] (fun r h => r = a.av ∧ h = []) := by
 refine con_of2 k_c_toPending_fits rfl fun C hP hmv => ?_
 unfold k_c_toPending
 refine cx_seq (cx_ops ?_)
 refine ax_e (e_box rfl rfl (by decide) rfl rfl rfl) ?_
 refine ax_e (e_alloc (by decide) rfl rfl) ?_
 refine ax_nil (cx_keep rfl rfl (cx_seq (cx_ops ?_)))
 refine ax_e (e_alloc (by decide) rfl rfl) ?_
 refine ax_nil (cx_keep rfl rfl (cx_seq (cx_ops ?_)))
 refine ax_q (q_fadr_ptr rfl) ?_
 refine ax_q (q_load1_ptr rfl rfl rfl) ?_
 refine ax_q (q_fadr_ptr rfl) ?_
 refine ax_e (e_st rfl rfl rfl rfl rfl rfl rfl) ?_
 refine ax_nil (cx_keep rfl rfl (cx_seq (cx_ops ?_)))
 refine ax_q (q_fadr_ptr rfl) ?_
 refine ax_q (q_load1_ptr rfl rfl rfl) ?_
 refine ax_q (q_fadr_ptr rfl) ?_
 refine ax_e (e_st rfl rfl rfl rfl rfl rfl rfl) ?_
 refine ax_nil (cx_keep rfl rfl (cx_seq (cx_ops ?_)))
 refine ax_q (q_ldN rfl rfl rfl) ?_
 refine ax_e (e_st rfl rfl rfl rfl rfl rfl rfl) ?_
 refine ax_nil (cx_keep rfl rfl ?_)
 refine cx_ret (ret0 rfl rfl ?_)
 exact ⟨rfl, rfl⟩


/- loop.example/g00332/laws.toPendingS -/
def k_c_toPendingS : XCode :=
 .seq (.ops [.op (some 2) (.mov (.k (.nils 2)))])
 (.keep [0] (.seq (.ops [.op (some 5) (.mov (.t 0)),
   .op (some 6) (.lenS (.t 5)),
   .op (some 7) (.mkslice 2 24 [.int .i64 0, .str []] (.t 6) (.t 6)),
   .op (some 3) (.mov (.t 7))])
 (.keep [0, 3] (.seq (.seq (.ops [.op (some 4) (.mov (.k (.int .i64 0)))])
  (.keep [0, 3, 4] (.block 0 (.loop (.seq (.seq (.ops [.op (some 8) (.mov (.t 4)),
     .op (some 9) (.mov (.t 0)),
     .op (some 10) (.lenS (.t 9)),
     .op (some 11) (.bin .lss (.t 8) (.t 10))])
   (.keep [0, 3, 4, 11] (.cond (.t 11)
    (.skip)
    (.exit 0))))
   (.keep [0, 3, 4] (.seq (.block 1 (.ops [.op (some 14) (.mov (.t 3)),
     .op (some 15) (.mov (.t 4)),
     .op (some 16) (.mov (.t 0)),
     .op (some 17) (.mov (.t 4)),
     .op (some 18) (.iadr 2 (.t 16) (.t 17)),
     .op (some 19) (.loadN 2 (.t 18)),
     .call (some 20) 181 [.t 19],
     .op (some 21) (.iadr 2 (.t 14) (.t 15)),
     .op none (.store 2 (.t 21) (.t 20))]))
   (.keep [0, 3, 4] (.ops [.op (some 12) (.mov (.t 4)),
    .op (some 13) (.bin .add (.t 12) (.k (.int .i64 1))),
    .op (some 4) (.mov (.t 13))])))))))))
 (.keep [3] (.seq (.ops [.op (some 22) (.mov (.t 3)),
   .op (some 2) (.mov (.t 22))])
 (.keep [2] (.ret))))))))
theorem k_c_toPendingS_fits : fitsF Tryz.prog 110 ⟨23, k_c_toPendingS, [.t 2]⟩ = true := by kernel_rfl
theorem c_toPendingS {xs : List GPending} (hw : xs.length ≤ 1048576) : Con Tryz.prog noMv 110 [.d (.sl 2 (xs.map GPending.row))] [] (fun r h => r = .osl 0 2 0 xs.length ∧ h = [(0, .rows 2 (xs.map GPending.row))]) := by
 refine con_of2 k_c_toPendingS_fits rfl fun C hP hmv => ?_
 unfold k_c_toPendingS
 refine cx_seq (cx_ops ?_)
 refine ax_q (q_mov rfl) ?_
 refine ax_nil (cx_keep rfl rfl (cx_seq (cx_ops ?_)))
 refine ax_q (q_mov rfl) ?_
 refine ax_q (q_lenS_map rfl) ?_
 refine ax_ee (e_mkslice rfl rfl rfl (by omega) (by omega) (by omega) (by decide) rfl rfl) (by rw [Int.toNat_natCast]) ?_
 refine ax_q (q_mov rfl) ?_
 refine ax_nil (cx_keep rfl rfl (cx_seq (cx_seq (cx_ops ?_))))
 refine ax_q (q_mov rfl) ?_
 refine ax_nil (cx_keep rfl rfl (cx_block ?_))
 refine cx_loopU (fun n k => k ≤ xs.length ∧ n = xs.length - k) (fun k : Nat => [(4, int k)]) (fun k => [(7, .rows 2 ((xs.take k).map GPending.row ++ List.replicate (xs.length - k) [.int .i64 0, .str []]))]) ⟨_, 0, ⟨Nat.zero_le _, rfl⟩, by repeat constructor⟩ ?_
 rintro n k ⟨hk, rfl⟩
 refine cx_seq (cx_seq (cx_ops ?_))
 refine ax_q (q_mov rfl) ?_
 refine ax_q (q_mov rfl) ?_
 refine ax_q (q_lenS_map rfl) ?_
 refine ax_q (q_ibin rfl rfl rfl) ?_
 refine ax_nil (cx_keep rfl rfl ?_)
 refine cx_cond rfl (fun h0 => ?_) (fun h0 => ?_)
 ·
  have h0 := dT h0
  have h1x : k < xs.length := by omega
  refine cx_skip ?_
  refine cx_keep rfl rfl (cx_seq (cx_block (cx_ops ?_)))
  refine ax_q (q_mov rfl) ?_
  refine ax_q (q_mov rfl) ?_
  refine ax_q (q_mov rfl) ?_
  refine ax_q (q_mov rfl) ?_
  refine ax_q (q_ix rfl rfl (mapAt h1x)) ?_
  first | refine ax_q (q_ldN rfl rfl rfl) ?_ | refine ax_q (q_loadN_ip rfl (Nat.le_refl _)) ?_
  refine ax_call rfl (vc_pure0 (c_toPending  ) hP rfl rfl ?_)
  refine ax_q (q_ixo rfl rfl h1x) ?_
  refine ax_e (e_str (q := GPending.row xs[k]) rfl rfl rfl rfl rfl rfl (fillAtL h1x) rfl rfl (fillSetL h1x)) ?_
  refine ax_nil (cx_keep rfl rfl (cx_ops ?_))
  refine ax_q (q_mov rfl) ?_
  refine ax_q (q_add rfl rfl (by omega)) ?_
  refine ax_q (q_mov rfl) ?_
  refine ax_nil ?_
  exact ⟨_, k + 1, by omega, ⟨by omega, rfl⟩, by repeat constructor⟩
 ·
  have h0 := dF h0
  refine cx_exit rfl ?_
  refine cx_keep rfl rfl (cx_seq (cx_ops ?_))
  refine ax_q (q_mov rfl) ?_
  refine ax_q (q_mov rfl) ?_
  refine ax_nil (cx_keep rfl rfl ?_)
  refine cx_ret (retN (fun _ => 0) [7] rfl rfl rfl rfl rfl ?_)
  exact ⟨rfl, by rw [show k = xs.length from by omega, List.take_length, Nat.sub_self, List.replicate_zero, List.append_nil]; rfl⟩


/- loop.example/g00332/laws.toIntS -/
def k_c_toIntS : XCode :=
 .seq (.ops [.op (some 2) (.mov (.k (.nils 1)))])
 (.keep [0] (.seq (.ops [.op (some 5) (.mov (.t 0)),
   .op (some 6) (.lenS (.t 5)),
   .op (some 7) (.mkslice 1 8 [.int .i64 0] (.t 6) (.t 6)),
   .op (some 3) (.mov (.t 7))])
 (.keep [0, 3] (.seq (.seq (.ops [.op (some 4) (.mov (.k (.int .i64 0)))])
  (.keep [0, 3, 4] (.block 0 (.loop (.seq (.seq (.ops [.op (some 8) (.mov (.t 4)),
     .op (some 9) (.mov (.t 0)),
     .op (some 10) (.lenS (.t 9)),
     .op (some 11) (.bin .lss (.t 8) (.t 10))])
   (.keep [0, 3, 4, 11] (.cond (.t 11)
    (.skip)
    (.exit 0))))
   (.keep [0, 3, 4] (.seq (.block 1 (.ops [.op (some 14) (.mov (.t 3)),
     .op (some 15) (.mov (.t 4)),
     .op (some 16) (.mov (.t 0)),
     .op (some 17) (.mov (.t 4)),
     .op (some 18) (.iadr 1 (.t 16) (.t 17)),
     .op (some 19) (.load1 (.t 18)),
     .op (some 20) (.iadr 1 (.t 14) (.t 15)),
     .op none (.store 1 (.t 20) (.t 19))]))
   (.keep [0, 3, 4] (.ops [.op (some 12) (.mov (.t 4)),
    .op (some 13) (.bin .add (.t 12) (.k (.int .i64 1))),
    .op (some 4) (.mov (.t 13))])))))))))
 (.keep [3] (.seq (.ops [.op (some 21) (.mov (.t 3)),
   .op (some 2) (.mov (.t 21))])
 (.keep [2] (.ret))))))))
theorem k_c_toIntS_fits : fitsF Tryz.prog 111 ⟨22, k_c_toIntS, [.t 2]⟩ = true := by kernel_rfl
theorem c_toIntS {xs : List Int} (hw : xs.length ≤ 1048576) : Con Tryz.prog noMv 111 [.d (.sl 1 (xs.map intRow))] [] (fun r h => r = .osl 0 1 0 xs.length ∧ h = [(0, .rows 1 (xs.map intRow))]) := by
 refine con_of2 k_c_toIntS_fits rfl fun C hP hmv => ?_
 unfold k_c_toIntS
 refine cx_seq (cx_ops ?_)
 refine ax_q (q_mov rfl) ?_
 refine ax_nil (cx_keep rfl rfl (cx_seq (cx_ops ?_)))
 refine ax_q (q_mov rfl) ?_
 refine ax_q (q_lenS_map rfl) ?_
 refine ax_ee (e_mkslice rfl rfl rfl (by omega) (by omega) (by omega) (by decide) rfl rfl) (by rw [Int.toNat_natCast]) ?_
 refine ax_q (q_mov rfl) ?_
 refine ax_nil (cx_keep rfl rfl (cx_seq (cx_seq (cx_ops ?_))))
 refine ax_q (q_mov rfl) ?_
 refine ax_nil (cx_keep rfl rfl (cx_block ?_))
 refine cx_loopU (fun n k => k ≤ xs.length ∧ n = xs.length - k) (fun k : Nat => [(4, int k)]) (fun k => [(7, .rows 1 ((xs.take k).map intRow ++ List.replicate (xs.length - k) [.int .i64 0]))]) ⟨_, 0, ⟨Nat.zero_le _, rfl⟩, by repeat constructor⟩ ?_
 rintro n k ⟨hk, rfl⟩
 refine cx_seq (cx_seq (cx_ops ?_))
 refine ax_q (q_mov rfl) ?_
 refine ax_q (q_mov rfl) ?_
 refine ax_q (q_lenS_map rfl) ?_
 refine ax_q (q_ibin rfl rfl rfl) ?_
 refine ax_nil (cx_keep rfl rfl ?_)
 refine cx_cond rfl (fun h0 => ?_) (fun h0 => ?_)
 ·
  have h0 := dT h0
  have h1x : k < xs.length := by omega
  refine cx_skip ?_
  refine cx_keep rfl rfl (cx_seq (cx_block (cx_ops ?_)))
  refine ax_q (q_mov rfl) ?_
  refine ax_q (q_mov rfl) ?_
  refine ax_q (q_mov rfl) ?_
  refine ax_q (q_mov rfl) ?_
  refine ax_q (q_ix rfl rfl (mapAt h1x)) ?_
  first | refine ax_q (q_load1_ptr rfl rfl rfl) ?_ | refine ax_q (q_load1_ip rfl) ?_
  refine ax_q (q_ixo rfl rfl h1x) ?_
  refine ax_e (e_str (q := intRow xs[k]) rfl rfl rfl rfl rfl rfl (fillAtL h1x) rfl rfl (fillSetL h1x)) ?_
  refine ax_nil (cx_keep rfl rfl (cx_ops ?_))
  refine ax_q (q_mov rfl) ?_
  refine ax_q (q_add rfl rfl (by omega)) ?_
  refine ax_q (q_mov rfl) ?_
  refine ax_nil ?_
  exact ⟨_, k + 1, by omega, ⟨by omega, rfl⟩, by repeat constructor⟩
 ·
  have h0 := dF h0
  refine cx_exit rfl ?_
  refine cx_keep rfl rfl (cx_seq (cx_ops ?_))
  refine ax_q (q_mov rfl) ?_
  refine ax_q (q_mov rfl) ?_
  refine ax_nil (cx_keep rfl rfl ?_)
  refine cx_ret (retN (fun _ => 0) [7] rfl rfl rfl rfl rfl ?_)
  exact ⟨rfl, by rw [show k = xs.length from by omega, List.take_length, Nat.sub_self, List.replicate_zero, List.append_nil]; rfl⟩


/- loop.example/g00332/laws.toDisk -/
def k_c_toDisk : XCode :=
 .seq (.ops [.op (some 1) (.box (.t 0)),
   .op (some 2) (.alloc [.nils 1, .nils 2, .bool false, .nils 1])])
 (.keep [1, 2] (.seq (.ops [.op (some 3) (.alloc [.nils 1, .nils 2, .bool false, .nils 1])])
 (.keep [1, 2, 3] (.seq (.ops [.op (some 4) (.fadr (.t 1) 0),
   .op (some 5) (.load1 (.t 4)),
   .call (some 6) 109 [.t 5],
   .op (some 7) (.fadr (.t 3) 0),
   .op none (.store 1 (.t 7) (.t 6))])
 (.keep [1, 2, 3] (.seq (.ops [.op (some 8) (.fadr (.t 1) 1),
   .op (some 9) (.load1 (.t 8)),
   .call (some 10) 110 [.t 9],
   .op (some 11) (.fadr (.t 3) 1),
   .op none (.store 1 (.t 11) (.t 10))])
 (.keep [1, 2, 3] (.seq (.ops [.op (some 12) (.fadr (.t 1) 2),
   .op (some 13) (.load1 (.t 12)),
   .op (some 14) (.fadr (.t 3) 2),
   .op none (.store 1 (.t 14) (.t 13))])
 (.keep [1, 2, 3] (.seq (.ops [.op (some 15) (.fadr (.t 1) 3),
   .op (some 16) (.load1 (.t 15)),
   .call (some 17) 111 [.t 16],
   .op (some 18) (.fadr (.t 3) 3),
   .op none (.store 1 (.t 18) (.t 17))])
 (.keep [2, 3] (.seq (.ops [.op (some 19) (.loadN 4 (.t 3)),
   .op none (.store 4 (.t 2) (.t 19))])
 (.keep [2] (.ret))))))))))))))
theorem k_c_toDisk_fits : fitsF Tryz.prog 51 ⟨20, k_c_toDisk, [.cN 2 4]⟩ = true := by kernel_rfl
theorem c_toDisk {a : GDisk} (hw0 : a.Sectors.length ≤ 1048576) (hw1 : a.Cache.length ≤ 1048576) (hw2 : a.Keep.length ≤ 1048576) : Con Tryz.prog noMv 51 [a.av] [] (fun r h => r = a.avO 0 1 2 ∧ h = a.hO 0 1 2) := by
 refine con_of2 k_c_toDisk_fits rfl fun C hP hmv => ?_
 unfold k_c_toDisk
 refine cx_seq (cx_ops ?_)
 refine ax_e (e_box rfl rfl (by decide) rfl rfl rfl) ?_
 refine ax_e (e_alloc (by decide) rfl rfl) ?_
 refine ax_nil (cx_keep rfl rfl (cx_seq (cx_ops ?_)))
 refine ax_e (e_alloc (by decide) rfl rfl) ?_
 refine ax_nil (cx_keep rfl rfl (cx_seq (cx_ops ?_)))
 refine ax_q (q_fadr_ptr rfl) ?_
 refine ax_q (q_load1_ptr rfl rfl rfl) ?_
 refine ax_call rfl (vc_pure (c_toStringS  ?_) hP rfl ?_)
 ·
  assumption
 rintro r h ⟨rfl, rfl⟩
 refine ⟨fun i => 6 + 200 * i, [0], ⟨rfl, rfl, rfl, rfl, rfl, (by first | exact (fun h => absurd h Bool.false_ne_true) | exact (fun _ => ⟨rfl, (noisl_of (by repeat (first | exact trivial | refine ⟨noisl_map (fun _ => rfl), ?_⟩ | refine ⟨?_, ?_⟩)))⟩))⟩, ?_⟩
 skip
 refine ax_q (q_fadr_ptr rfl) ?_
 refine ax_e (e_st rfl rfl rfl rfl rfl rfl rfl) ?_
 refine ax_nil (cx_keep rfl rfl (cx_seq (cx_ops ?_)))
 refine ax_q (q_fadr_ptr rfl) ?_
 refine ax_q (q_load1_ptr rfl rfl rfl) ?_
 refine ax_call rfl (vc_pure (c_toPendingS  ?_) hP rfl ?_)
 ·
  assumption
 rintro r h ⟨rfl, rfl⟩
 refine ⟨fun i => 10 + 200 * i, [0], ⟨rfl, rfl, rfl, rfl, rfl, (by first | exact (fun h => absurd h Bool.false_ne_true) | exact (fun _ => ⟨rfl, (noisl_of (by repeat (first | exact trivial | refine ⟨noisl_map (fun _ => rfl), ?_⟩ | refine ⟨?_, ?_⟩)))⟩))⟩, ?_⟩
 skip
 refine ax_q (q_fadr_ptr rfl) ?_
 refine ax_e (e_st rfl rfl rfl rfl rfl rfl rfl) ?_
 refine ax_nil (cx_keep rfl rfl (cx_seq (cx_ops ?_)))
 refine ax_q (q_fadr_ptr rfl) ?_
 refine ax_q (q_load1_ptr rfl rfl rfl) ?_
 refine ax_q (q_fadr_ptr rfl) ?_
 refine ax_e (e_st rfl rfl rfl rfl rfl rfl rfl) ?_
 refine ax_nil (cx_keep rfl rfl (cx_seq (cx_ops ?_)))
 refine ax_q (q_fadr_ptr rfl) ?_
 refine ax_q (q_load1_ptr rfl rfl rfl) ?_
 refine ax_call rfl (vc_pure (c_toIntS  ?_) hP rfl ?_)
 ·
  assumption
 rintro r h ⟨rfl, rfl⟩
 refine ⟨fun i => 17 + 200 * i, [0], ⟨rfl, rfl, rfl, rfl, rfl, (by first | exact (fun h => absurd h Bool.false_ne_true) | exact (fun _ => ⟨rfl, (noisl_of (by repeat (first | exact trivial | refine ⟨noisl_map (fun _ => rfl), ?_⟩ | refine ⟨?_, ?_⟩)))⟩))⟩, ?_⟩
 skip
 refine ax_q (q_fadr_ptr rfl) ?_
 refine ax_e (e_st rfl rfl rfl rfl rfl rfl rfl) ?_
 refine ax_nil (cx_keep rfl rfl (cx_seq (cx_ops ?_)))
 refine ax_q (q_ldN rfl rfl rfl) ?_
 refine ax_e (e_st rfl rfl rfl rfl rfl rfl rfl) ?_
 refine ax_nil (cx_keep rfl rfl ?_)
 refine cx_ret (retN (fun e => bif Nat.beq e 10 then 1 else bif Nat.beq e 17 then 2 else 0) [6, 10, 17] rfl rfl rfl rfl rfl ?_)
 exact ⟨rfl, rfl⟩


/- loop.example/g00332/laws.toLogRecord -/
def k_c_toLogRecord : XCode :=
 .seq (.ops [.op (some 1) (.box (.t 0)),
   .op (some 2) (.alloc [.int .i64 0, .int .i64 0, .int .i64 0, .int .i64 0, .int .i64 0, .int .i64 0, .int .i64 0, .int .i64 0, .str [], .str []])])
 (.keep [1, 2] (.seq (.ops [.op (some 3) (.alloc [.int .i64 0, .int .i64 0, .int .i64 0, .int .i64 0, .int .i64 0, .int .i64 0, .int .i64 0, .int .i64 0, .str [], .str []])])
 (.keep [1, 2, 3] (.seq (.ops [.op (some 4) (.fadr (.t 1) 0),
   .op (some 5) (.load1 (.t 4)),
   .op (some 6) (.fadr (.t 3) 0),
   .op none (.store 1 (.t 6) (.t 5))])
 (.keep [1, 2, 3] (.seq (.ops [.op (some 7) (.fadr (.t 1) 1),
   .op (some 8) (.load1 (.t 7)),
   .op (some 9) (.fadr (.t 3) 1),
   .op none (.store 1 (.t 9) (.t 8))])
 (.keep [1, 2, 3] (.seq (.ops [.op (some 10) (.fadr (.t 1) 2),
   .op (some 11) (.load1 (.t 10)),
   .op (some 12) (.fadr (.t 3) 2),
   .op none (.store 1 (.t 12) (.t 11))])
 (.keep [1, 2, 3] (.seq (.ops [.op (some 13) (.fadr (.t 1) 3),
   .op (some 14) (.load1 (.t 13)),
   .op (some 15) (.fadr (.t 3) 3),
   .op none (.store 1 (.t 15) (.t 14))])
 (.keep [1, 2, 3] (.seq (.ops [.op (some 16) (.fadr (.t 1) 4),
   .op (some 17) (.load1 (.t 16)),
   .op (some 18) (.fadr (.t 3) 4),
   .op none (.store 1 (.t 18) (.t 17))])
 (.keep [1, 2, 3] (.seq (.ops [.op (some 19) (.fadr (.t 1) 5),
   .op (some 20) (.load1 (.t 19)),
   .op (some 21) (.fadr (.t 3) 5),
   .op none (.store 1 (.t 21) (.t 20))])
 (.keep [1, 2, 3] (.seq (.ops [.op (some 22) (.fadr (.t 1) 6),
   .op (some 23) (.load1 (.t 22)),
   .op (some 24) (.fadr (.t 3) 6),
   .op none (.store 1 (.t 24) (.t 23))])
 (.keep [1, 2, 3] (.seq (.ops [.op (some 25) (.fadr (.t 1) 7),
   .op (some 26) (.load1 (.t 25)),
   .op (some 27) (.fadr (.t 3) 7),
   .op none (.store 1 (.t 27) (.t 26))])
 (.keep [1, 2, 3] (.seq (.ops [.op (some 28) (.fadr (.t 1) 8),
   .op (some 29) (.load1 (.t 28)),
   .op (some 30) (.fadr (.t 3) 8),
   .op none (.store 1 (.t 30) (.t 29))])
 (.keep [1, 2, 3] (.seq (.ops [.op (some 31) (.fadr (.t 1) 9),
   .op (some 32) (.load1 (.t 31)),
   .op (some 33) (.fadr (.t 3) 9),
   .op none (.store 1 (.t 33) (.t 32))])
 (.keep [2, 3] (.seq (.ops [.op (some 34) (.loadN 10 (.t 3)),
   .op none (.store 10 (.t 2) (.t 34))])
 (.keep [2] (.ret))))))))))))))))))))))))))
theorem k_c_toLogRecord_fits : fitsF Tryz.prog 112 ⟨35, k_c_toLogRecord, [.cN 2 10]⟩ = true := by kernel_rfl
theorem c_toLogRecord {a : GLogRecord} : Con Tryz.prog noMv 112 [a.av] [] (fun r h => r = a.av ∧ h = []) := by
 refine con_of2 k_c_toLogRecord_fits rfl fun C hP hmv => ?_
 unfold k_c_toLogRecord
 refine cx_seq (cx_ops ?_)
 refine ax_e (e_box rfl rfl (by decide) rfl rfl rfl) ?_
 refine ax_e (e_alloc (by decide) rfl rfl) ?_
 refine ax_nil (cx_keep rfl rfl (cx_seq (cx_ops ?_)))
 refine ax_e (e_alloc (by decide) rfl rfl) ?_
 refine ax_nil (cx_keep rfl rfl (cx_seq (cx_ops ?_)))
 refine ax_q (q_fadr_ptr rfl) ?_
 refine ax_q (q_load1_ptr rfl rfl rfl) ?_
 refine ax_q (q_fadr_ptr rfl) ?_
 refine ax_e (e_st rfl rfl rfl rfl rfl rfl rfl) ?_
 refine ax_nil (cx_keep rfl rfl (cx_seq (cx_ops ?_)))
 refine ax_q (q_fadr_ptr rfl) ?_
 refine ax_q (q_load1_ptr rfl rfl rfl) ?_
 refine ax_q (q_fadr_ptr rfl) ?_
 refine ax_e (e_st rfl rfl rfl rfl rfl rfl rfl) ?_
 refine ax_nil (cx_keep rfl rfl (cx_seq (cx_ops ?_)))
 refine ax_q (q_fadr_ptr rfl) ?_
 refine ax_q (q_load1_ptr rfl rfl rfl) ?_
 refine ax_q (q_fadr_ptr rfl) ?_
 refine ax_e (e_st rfl rfl rfl rfl rfl rfl rfl) ?_
 refine ax_nil (cx_keep rfl rfl (cx_seq (cx_ops ?_)))
 refine ax_q (q_fadr_ptr rfl) ?_
 refine ax_q (q_load1_ptr rfl rfl rfl) ?_
 refine ax_q (q_fadr_ptr rfl) ?_
 refine ax_e (e_st rfl rfl rfl rfl rfl rfl rfl) ?_
 refine ax_nil (cx_keep rfl rfl (cx_seq (cx_ops ?_)))
 refine ax_q (q_fadr_ptr rfl) ?_
 refine ax_q (q_load1_ptr rfl rfl rfl) ?_
 refine ax_q (q_fadr_ptr rfl) ?_
 refine ax_e (e_st rfl rfl rfl rfl rfl rfl rfl) ?_
 refine ax_nil (cx_keep rfl rfl (cx_seq (cx_ops ?_)))
 refine ax_q (q_fadr_ptr rfl) ?_
 refine ax_q (q_load1_ptr rfl rfl rfl) ?_
 refine ax_q (q_fadr_ptr rfl) ?_
 refine ax_e (e_st rfl rfl rfl rfl rfl rfl rfl) ?_
 refine ax_nil (cx_keep rfl rfl (cx_seq (cx_ops ?_)))
 refine ax_q (q_fadr_ptr rfl) ?_
 refine ax_q (q_load1_ptr rfl rfl rfl) ?_
 refine ax_q (q_fadr_ptr rfl) ?_
 refine ax_e (e_st rfl rfl rfl rfl rfl rfl rfl) ?_
 refine ax_nil (cx_keep rfl rfl (cx_seq (cx_ops ?_)))
 refine ax_q (q_fadr_ptr rfl) ?_
 refine ax_q (q_load1_ptr rfl rfl rfl) ?_
 refine ax_q (q_fadr_ptr rfl) ?_
 refine ax_e (e_st rfl rfl rfl rfl rfl rfl rfl) ?_
 refine ax_nil (cx_keep rfl rfl (cx_seq (cx_ops ?_)))
 refine ax_q (q_fadr_ptr rfl) ?_
 refine ax_q (q_load1_ptr rfl rfl rfl) ?_
 refine ax_q (q_fadr_ptr rfl) ?_
 refine ax_e (e_st rfl rfl rfl rfl rfl rfl rfl) ?_
 refine ax_nil (cx_keep rfl rfl (cx_seq (cx_ops ?_)))
 refine ax_q (q_fadr_ptr rfl) ?_
 refine ax_q (q_load1_ptr rfl rfl rfl) ?_
 refine ax_q (q_fadr_ptr rfl) ?_
 refine ax_e (e_st rfl rfl rfl rfl rfl rfl rfl) ?_
 refine ax_nil (cx_keep rfl rfl (cx_seq (cx_ops ?_)))
 refine ax_q (q_ldN rfl rfl rfl) ?_
 refine ax_e (e_st rfl rfl rfl rfl rfl rfl rfl) ?_
 refine ax_nil (cx_keep rfl rfl ?_)
 refine cx_ret (ret0 rfl rfl ?_)
 exact ⟨rfl, rfl⟩


/- loop.example/g00332/laws.toLogRecordS -/
def k_c_toLogRecordS : XCode :=
 .seq (.ops [.op (some 2) (.mov (.k (.nils 10)))])
 (.keep [0] (.seq (.ops [.op (some 5) (.mov (.t 0)),
   .op (some 6) (.lenS (.t 5)),
   .op (some 7) (.mkslice 10 96 [.int .i64 0, .int .i64 0, .int .i64 0, .int .i64 0, .int .i64 0, .int .i64 0, .int .i64 0, .int .i64 0, .str [], .str []] (.t 6) (.t 6)),
   .op (some 3) (.mov (.t 7))])
 (.keep [0, 3] (.seq (.seq (.ops [.op (some 4) (.mov (.k (.int .i64 0)))])
  (.keep [0, 3, 4] (.block 0 (.loop (.seq (.seq (.ops [.op (some 8) (.mov (.t 4)),
     .op (some 9) (.mov (.t 0)),
     .op (some 10) (.lenS (.t 9)),
     .op (some 11) (.bin .lss (.t 8) (.t 10))])
   (.keep [0, 3, 4, 11] (.cond (.t 11)
    (.skip)
    (.exit 0))))
   (.keep [0, 3, 4] (.seq (.block 1 (.ops [.op (some 14) (.mov (.t 3)),
     .op (some 15) (.mov (.t 4)),
     .op (some 16) (.mov (.t 0)),
     .op (some 17) (.mov (.t 4)),
     .op (some 18) (.iadr 10 (.t 16) (.t 17)),
     .op (some 19) (.loadN 10 (.t 18)),
     .call (some 20) 112 [.t 19],
     .op (some 21) (.iadr 10 (.t 14) (.t 15)),
     .op none (.store 10 (.t 21) (.t 20))]))
   (.keep [0, 3, 4] (.ops [.op (some 12) (.mov (.t 4)),
    .op (some 13) (.bin .add (.t 12) (.k (.int .i64 1))),
    .op (some 4) (.mov (.t 13))])))))))))
 (.keep [3] (.seq (.ops [.op (some 22) (.mov (.t 3)),
   .op (some 2) (.mov (.t 22))])
 (.keep [2] (.ret))))))))
theorem k_c_toLogRecordS_fits : fitsF Tryz.prog 52 ⟨23, k_c_toLogRecordS, [.t 2]⟩ = true := by kernel_rfl
theorem c_toLogRecordS {xs : List GLogRecord} (hw : xs.length ≤ 1048576) : Con Tryz.prog noMv 52 [.d (.sl 10 (xs.map GLogRecord.row))] [] (fun r h => r = .osl 0 10 0 xs.length ∧ h = [(0, .rows 10 (xs.map GLogRecord.row))]) := by
 refine con_of2 k_c_toLogRecordS_fits rfl fun C hP hmv => ?_
 unfold k_c_toLogRecordS
 refine cx_seq (cx_ops ?_)
 refine ax_q (q_mov rfl) ?_
 refine ax_nil (cx_keep rfl rfl (cx_seq (cx_ops ?_)))
 refine ax_q (q_mov rfl) ?_
 refine ax_q (q_lenS_map rfl) ?_
 refine ax_ee (e_mkslice rfl rfl rfl (by omega) (by omega) (by omega) (by decide) rfl rfl) (by rw [Int.toNat_natCast]) ?_
 refine ax_q (q_mov rfl) ?_
 refine ax_nil (cx_keep rfl rfl (cx_seq (cx_seq (cx_ops ?_))))
 refine ax_q (q_mov rfl) ?_
 refine ax_nil (cx_keep rfl rfl (cx_block ?_))
 refine cx_loopU (fun n k => k ≤ xs.length ∧ n = xs.length - k) (fun k : Nat => [(4, int k)]) (fun k => [(7, .rows 10 ((xs.take k).map GLogRecord.row ++ List.replicate (xs.length - k) [.int .i64 0, .int .i64 0, .int .i64 0, .int .i64 0, .int .i64 0, .int .i64 0, .int .i64 0, .int .i64 0, .str [], .str []]))]) ⟨_, 0, ⟨Nat.zero_le _, rfl⟩, by repeat constructor⟩ ?_
 rintro n k ⟨hk, rfl⟩
 refine cx_seq (cx_seq (cx_ops ?_))
 refine ax_q (q_mov rfl) ?_
 refine ax_q (q_mov rfl) ?_
 refine ax_q (q_lenS_map rfl) ?_
 refine ax_q (q_ibin rfl rfl rfl) ?_
 refine ax_nil (cx_keep rfl rfl ?_)
 refine cx_cond rfl (fun h0 => ?_) (fun h0 => ?_)
 ·
  have h0 := dT h0
  have h1x : k < xs.length := by omega
  refine cx_skip ?_
  refine cx_keep rfl rfl (cx_seq (cx_block (cx_ops ?_)))
  refine ax_q (q_mov rfl) ?_
  refine ax_q (q_mov rfl) ?_
  refine ax_q (q_mov rfl) ?_
  refine ax_q (q_mov rfl) ?_
  refine ax_q (q_ix rfl rfl (mapAt h1x)) ?_
  first | refine ax_q (q_ldN rfl rfl rfl) ?_ | refine ax_q (q_loadN_ip rfl (Nat.le_refl _)) ?_
  refine ax_call rfl (vc_pure0 (c_toLogRecord  ) hP rfl rfl ?_)
  refine ax_q (q_ixo rfl rfl h1x) ?_
  refine ax_e (e_str (q := GLogRecord.row xs[k]) rfl rfl rfl rfl rfl rfl (fillAtL h1x) rfl rfl (fillSetL h1x)) ?_
  refine ax_nil (cx_keep rfl rfl (cx_ops ?_))
  refine ax_q (q_mov rfl) ?_
  refine ax_q (q_add rfl rfl (by omega)) ?_
  refine ax_q (q_mov rfl) ?_
  refine ax_nil ?_
  exact ⟨_, k + 1, by omega, ⟨by omega, rfl⟩, by repeat constructor⟩
 ·
  have h0 := dF h0
  refine cx_exit rfl ?_
  refine cx_keep rfl rfl (cx_seq (cx_ops ?_))
  refine ax_q (q_mov rfl) ?_
  refine ax_q (q_mov rfl) ?_
  refine ax_nil (cx_keep rfl rfl ?_)
  refine cx_ret (retN (fun _ => 0) [7] rfl rfl rfl rfl rfl ?_)
  exact ⟨rfl, by rw [show k = xs.length from by omega, List.take_length, Nat.sub_self, List.replicate_zero, List.append_nil]; rfl⟩


/- loop.example/g00332/laws.toPage -/
def k_c_toPage : XCode :=
 .seq (.ops [.op (some 1) (.box (.t 0)),
   .op (some 2) (.alloc [.int .i64 0, .nils 1])])
 (.keep [1, 2] (.seq (.ops [.op (some 3) (.alloc [.int .i64 0, .nils 1])])
 (.keep [1, 2, 3] (.seq (.ops [.op (some 4) (.fadr (.t 1) 0),
   .op (some 5) (.load1 (.t 4)),
   .op (some 6) (.fadr (.t 3) 0),
   .op none (.store 1 (.t 6) (.t 5))])
 (.keep [1, 2, 3] (.seq (.ops [.op (some 7) (.fadr (.t 1) 1),
   .op (some 8) (.load1 (.t 7)),
   .call (some 9) 109 [.t 8],
   .op (some 10) (.fadr (.t 3) 1),
   .op none (.store 1 (.t 10) (.t 9))])
 (.keep [2, 3] (.seq (.ops [.op (some 11) (.loadN 2 (.t 3)),
   .op none (.store 2 (.t 2) (.t 11))])
 (.keep [2] (.ret))))))))))
theorem k_c_toPage_fits : fitsF Tryz.prog 182 ⟨12, k_c_toPage, [.cN 2 2]⟩ = true := by kernel_rfl
theorem c_toPage {a : Page} (hw0 : a.slots.length ≤ 1048576) : Con Tryz.prog noMv 182 [a.av] [] (fun r h => r = a.avO 0 ∧ h = a.hO 0) := by
 refine con_of2 k_c_toPage_fits rfl fun C hP hmv => ?_
 unfold k_c_toPage
 refine cx_seq (cx_ops ?_)
 refine ax_e (e_box rfl rfl (by decide) rfl rfl rfl) ?_
 refine ax_e (e_alloc (by decide) rfl rfl) ?_
 refine ax_nil (cx_keep rfl rfl (cx_seq (cx_ops ?_)))
 refine ax_e (e_alloc (by decide) rfl rfl) ?_
 refine ax_nil (cx_keep rfl rfl (cx_seq (cx_ops ?_)))
 refine ax_q (q_fadr_ptr rfl) ?_
 refine ax_q (q_load1_ptr rfl rfl rfl) ?_
 refine ax_q (q_fadr_ptr rfl) ?_
 refine ax_e (e_st rfl rfl rfl rfl rfl rfl rfl) ?_
 refine ax_nil (cx_keep rfl rfl (cx_seq (cx_ops ?_)))
 refine ax_q (q_fadr_ptr rfl) ?_
 refine ax_q (q_load1_ptr rfl rfl rfl) ?_
 refine ax_call rfl (vc_pure (c_toStringS  ?_) hP rfl ?_)
 ·
  assumption
 rintro r h ⟨rfl, rfl⟩
 refine ⟨fun i => 9 + 200 * i, [0], ⟨rfl, rfl, rfl, rfl, rfl, (by first | exact (fun h => absurd h Bool.false_ne_true) | exact (fun _ => ⟨rfl, (noisl_of (by repeat (first | exact trivial | refine ⟨noisl_map (fun _ => rfl), ?_⟩ | refine ⟨?_, ?_⟩)))⟩))⟩, ?_⟩
 skip
 refine ax_q (q_fadr_ptr rfl) ?_
 refine ax_e (e_st rfl rfl rfl rfl rfl rfl rfl) ?_
 refine ax_nil (cx_keep rfl rfl (cx_seq (cx_ops ?_)))
 refine ax_q (q_ldN rfl rfl rfl) ?_
 refine ax_e (e_st rfl rfl rfl rfl rfl rfl rfl) ?_
 refine ax_nil (cx_keep rfl rfl ?_)
 refine cx_ret (retN (fun e => 0) [9] rfl rfl rfl rfl rfl ?_)
 exact ⟨rfl, rfl⟩


/- loop.example/g00332/laws.toFrame -/
def k_c_toFrame : XCode :=
 .seq (.ops [.op (some 1) (.box (.t 0)),
   .op (some 2) (.alloc [.int .i64 0, .int .i64 0, .nils 1, .bool false, .int .i64 0])])
 (.keep [1, 2] (.seq (.ops [.op (some 3) (.alloc [.int .i64 0, .int .i64 0, .nils 1, .bool false, .int .i64 0])])
 (.keep [1, 2, 3] (.seq (.ops [.op (some 4) (.fadr (.t 1) 0),
   .op (some 5) (.load1 (.t 4)),
   .op (some 6) (.fadr (.t 3) 0),
   .op none (.store 1 (.t 6) (.t 5))])
 (.keep [1, 2, 3] (.seq (.ops [.op (some 7) (.fadr (.t 1) 1),
   .op (some 8) (.loadN 2 (.t 7)),
   .call (some 9) 182 [.t 8],
   .op (some 10) (.fadr (.t 3) 1),
   .op none (.store 2 (.t 10) (.t 9))])
 (.keep [1, 2, 3] (.seq (.ops [.op (some 11) (.fadr (.t 1) 3),
   .op (some 12) (.load1 (.t 11)),
   .op (some 13) (.fadr (.t 3) 3),
   .op none (.store 1 (.t 13) (.t 12))])
 (.keep [1, 2, 3] (.seq (.ops [.op (some 14) (.fadr (.t 1) 4),
   .op (some 15) (.load1 (.t 14)),
   .op (some 16) (.fadr (.t 3) 4),
   .op none (.store 1 (.t 16) (.t 15))])
 (.keep [2, 3] (.seq (.ops [.op (some 17) (.loadN 5 (.t 3)),
   .op none (.store 5 (.t 2) (.t 17))])
 (.keep [2] (.ret))))))))))))))
theorem k_c_toFrame_fits : fitsF Tryz.prog 113 ⟨18, k_c_toFrame, [.cN 2 5]⟩ = true := by kernel_rfl
theorem c_toFrame {a : GFrame} (hw0 : a.Page.slots.length ≤ 1048576) : Con Tryz.prog noMv 113 [a.av] [] (fun r h => r = a.av ∧ h = []) := by
 refine con_of2 k_c_toFrame_fits rfl fun C hP hmv => ?_
 unfold k_c_toFrame
 refine cx_seq (cx_ops ?_)
 refine ax_e (e_box rfl rfl (by decide) rfl rfl rfl) ?_
 refine ax_e (e_alloc (by decide) rfl rfl) ?_
 refine ax_nil (cx_keep rfl rfl (cx_seq (cx_ops ?_)))
 refine ax_e (e_alloc (by decide) rfl rfl) ?_
 refine ax_nil (cx_keep rfl rfl (cx_seq (cx_ops ?_)))
 refine ax_q (q_fadr_ptr rfl) ?_
 refine ax_q (q_load1_ptr rfl rfl rfl) ?_
 refine ax_q (q_fadr_ptr rfl) ?_
 refine ax_e (e_st rfl rfl rfl rfl rfl rfl rfl) ?_
 refine ax_nil (cx_keep rfl rfl (cx_seq (cx_ops ?_)))
 refine ax_q (q_fadr_ptr rfl) ?_
 refine ax_q (q_ldN rfl rfl rfl) ?_
 refine ax_call rfl (vc_pure (c_toPage  ?_) hP rfl ?_)
 ·
  assumption
 rintro r h ⟨rfl, rfl⟩
 refine ⟨fun i => 9 + 200 * i, [0], ⟨rfl, rfl, rfl, rfl, rfl, (by first | exact (fun h => absurd h Bool.false_ne_true) | exact (fun _ => ⟨rfl, (noisl_of (by repeat (first | exact trivial | refine ⟨noisl_map (fun _ => rfl), ?_⟩ | refine ⟨?_, ?_⟩)))⟩))⟩, ?_⟩
 skip
 refine ax_wk (wk_frz 9 9 rfl rfl (.agg (.cons (.same rfl) (.cons (.whole (List.length_map _).symm) .nil))) rfl) ?_
 refine ax_q (q_fadr_ptr rfl) ?_
 refine ax_e (e_st rfl rfl rfl rfl rfl rfl rfl) ?_
 refine ax_nil (cx_keep rfl rfl (cx_seq (cx_ops ?_)))
 refine ax_q (q_fadr_ptr rfl) ?_
 refine ax_q (q_load1_ptr rfl rfl rfl) ?_
 refine ax_q (q_fadr_ptr rfl) ?_
 refine ax_e (e_st rfl rfl rfl rfl rfl rfl rfl) ?_
 refine ax_nil (cx_keep rfl rfl (cx_seq (cx_ops ?_)))
 refine ax_q (q_fadr_ptr rfl) ?_
 refine ax_q (q_load1_ptr rfl rfl rfl) ?_
 refine ax_q (q_fadr_ptr rfl) ?_
 refine ax_e (e_st rfl rfl rfl rfl rfl rfl rfl) ?_
 refine ax_nil (cx_keep rfl rfl (cx_seq (cx_ops ?_)))
 refine ax_q (q_ldN rfl rfl rfl) ?_
 refine ax_e (e_st rfl rfl rfl rfl rfl rfl rfl) ?_
 refine ax_nil (cx_keep rfl rfl ?_)
 refine cx_ret (ret0 rfl rfl ?_)
 exact ⟨rfl, rfl⟩


/- loop.example/g00332/laws.toFrameS -/
def k_c_toFrameS : XCode :=
 .seq (.ops [.op (some 2) (.mov (.k (.nils 5)))])
 (.keep [0] (.seq (.ops [.op (some 5) (.mov (.t 0)),
   .op (some 6) (.lenS (.t 5)),
   .op (some 7) (.mkslice 5 56 [.int .i64 0, .int .i64 0, .nils 1, .bool false, .int .i64 0] (.t 6) (.t 6)),
   .op (some 3) (.mov (.t 7))])
 (.keep [0, 3] (.seq (.seq (.ops [.op (some 4) (.mov (.k (.int .i64 0)))])
  (.keep [0, 3, 4] (.block 0 (.loop (.seq (.seq (.ops [.op (some 8) (.mov (.t 4)),
     .op (some 9) (.mov (.t 0)),
     .op (some 10) (.lenS (.t 9)),
     .op (some 11) (.bin .lss (.t 8) (.t 10))])
   (.keep [0, 3, 4, 11] (.cond (.t 11)
    (.skip)
    (.exit 0))))
   (.keep [0, 3, 4] (.seq (.block 1 (.ops [.op (some 14) (.mov (.t 3)),
     .op (some 15) (.mov (.t 4)),
     .op (some 16) (.mov (.t 0)),
     .op (some 17) (.mov (.t 4)),
     .op (some 18) (.iadr 5 (.t 16) (.t 17)),
     .op (some 19) (.loadN 5 (.t 18)),
     .call (some 20) 113 [.t 19],
     .op (some 21) (.iadr 5 (.t 14) (.t 15)),
     .op none (.store 5 (.t 21) (.t 20))]))
   (.keep [0, 3, 4] (.ops [.op (some 12) (.mov (.t 4)),
    .op (some 13) (.bin .add (.t 12) (.k (.int .i64 1))),
    .op (some 4) (.mov (.t 13))])))))))))
 (.keep [3] (.seq (.ops [.op (some 22) (.mov (.t 3)),
   .op (some 2) (.mov (.t 22))])
 (.keep [2] (.ret))))))))
theorem k_c_toFrameS_fits : fitsF Tryz.prog 53 ⟨23, k_c_toFrameS, [.t 2]⟩ = true := by kernel_rfl
theorem c_toFrameS {xs : List GFrame} (hw : xs.length ≤ 1048576) (hs : ∀ f ∈ xs, f.Page.slots.length ≤ 1048576) : Con Tryz.prog noMv 53 [.d (.sl 5 (xs.map GFrame.row))] [] (fun r h => r = .d (.sl 5 (xs.map GFrame.row)) ∧ h = []) := by
 refine con_of2 k_c_toFrameS_fits rfl fun C hP hmv => ?_
 unfold k_c_toFrameS
 refine cx_seq (cx_ops ?_)
 refine ax_q (q_mov rfl) ?_
 refine ax_nil (cx_keep rfl rfl (cx_seq (cx_ops ?_)))
 refine ax_q (q_mov rfl) ?_
 refine ax_q (q_lenS_map rfl) ?_
 refine ax_ee (e_mkslice rfl rfl rfl (by omega) (by omega) (by omega) (by decide) rfl rfl) (by rw [Int.toNat_natCast]) ?_
 refine ax_q (q_mov rfl) ?_
 refine ax_nil (cx_keep rfl rfl (cx_seq (cx_seq (cx_ops ?_))))
 refine ax_q (q_mov rfl) ?_
 refine ax_nil (cx_keep rfl rfl (cx_block ?_))
 refine cx_loopU (fun n k => k ≤ xs.length ∧ n = xs.length - k) (fun k : Nat => [(4, int k)]) (fun k => [(7, .rows 5 ((xs.take k).map GFrame.row ++ List.replicate (xs.length - k) [.int .i64 0, .int .i64 0, .sl 1 [], .bool false, .int .i64 0]))]) ⟨_, 0, ⟨Nat.zero_le _, rfl⟩, by repeat constructor⟩ ?_
 rintro n k ⟨hk, rfl⟩
 refine cx_seq (cx_seq (cx_ops ?_))
 refine ax_q (q_mov rfl) ?_
 refine ax_q (q_mov rfl) ?_
 refine ax_q (q_lenS_map rfl) ?_
 refine ax_q (q_ibin rfl rfl rfl) ?_
 refine ax_nil (cx_keep rfl rfl ?_)
 refine cx_cond rfl (fun h0 => ?_) (fun h0 => ?_)
 ·
  have h0 := dT h0
  have h1x : k < xs.length := by omega
  refine cx_skip ?_
  refine cx_keep rfl rfl (cx_seq (cx_block (cx_ops ?_)))
  refine ax_q (q_mov rfl) ?_
  refine ax_q (q_mov rfl) ?_
  refine ax_q (q_mov rfl) ?_
  refine ax_q (q_mov rfl) ?_
  refine ax_q (q_ix rfl rfl (mapAt h1x)) ?_
  first | refine ax_q (q_ldN rfl rfl rfl) ?_ | refine ax_q (q_loadN_ip rfl (Nat.le_refl _)) ?_
  refine ax_call rfl (vc_pure0 (c_toFrame (a := xs[k]) ?_) hP rfl rfl ?_)
  ·
   exact hs _ (List.getElem_mem h1x)
  refine ax_q (q_ixo rfl rfl h1x) ?_
  refine ax_e (e_str (q := GFrame.row xs[k]) rfl rfl rfl rfl rfl rfl (fillAtL h1x) rfl rfl (fillSetL h1x)) ?_
  refine ax_nil (cx_keep rfl rfl (cx_ops ?_))
  refine ax_q (q_mov rfl) ?_
  refine ax_qe (r' := int ((k + 1 : Nat) : Int)) (q_ibin rfl rfl rfl) (by rw [wi (by omega) (by omega)]; rfl) ?_
  refine ax_q (q_mov rfl) ?_
  refine ax_nil ?_
  exact ⟨_, k + 1, by omega, ⟨by omega, rfl⟩, by repeat constructor⟩
 ·
  have h0 := dF h0
  refine cx_exit rfl ?_
  refine cx_keep rfl rfl (cx_seq (cx_ops ?_))
  refine ax_q (q_mov rfl) ?_
  refine ax_q (q_mov rfl) ?_
  refine ax_nil (cx_keep rfl rfl ?_)
  rw [show k = xs.length from by omega, List.take_length, Nat.sub_self, List.replicate_zero, List.append_nil]
  refine cx_wk (wk_frz 2 7 rfl rfl (.whole (List.length_map _).symm) rfl) ?_
  refine cx_ret (ret0 rfl rfl ?_)
  exact ⟨rfl, rfl⟩


/- loop.example/g00332/laws.toStore -/
def k_c_toStore : XCode :=
 .seq (.ops [.op (some 1) (.box (.t 0)),
   .op (some 2) (.alloc [.nils 1, .nils 2, .bool false, .nils 1, .int .i64 0, .nils 10, .int .i64 0, .nils 5, .int .i64 0])])
 (.keep [1, 2] (.seq (.ops [.op (some 3) (.alloc [.nils 1, .nils 2, .bool false, .nils 1, .int .i64 0, .nils 10, .int .i64 0, .nils 5, .int .i64 0])])
 (.keep [1, 2, 3] (.seq (.ops [.op (some 4) (.fadr (.t 1) 0),
   .op (some 5) (.loadN 4 (.t 4)),
   .call (some 6) 51 [.t 5],
   .op (some 7) (.fadr (.t 3) 0),
   .op none (.store 4 (.t 7) (.t 6))])
 (.keep [1, 2, 3] (.seq (.ops [.op (some 8) (.fadr (.t 1) 4),
   .op (some 9) (.load1 (.t 8)),
   .op (some 10) (.fadr (.t 3) 4),
   .op none (.store 1 (.t 10) (.t 9))])
 (.keep [1, 2, 3] (.seq (.ops [.op (some 11) (.fadr (.t 1) 5),
   .op (some 12) (.load1 (.t 11)),
   .call (some 13) 52 [.t 12],
   .op (some 14) (.fadr (.t 3) 5),
   .op none (.store 1 (.t 14) (.t 13))])
 (.keep [1, 2, 3] (.seq (.ops [.op (some 15) (.fadr (.t 1) 6),
   .op (some 16) (.load1 (.t 15)),
   .op (some 17) (.fadr (.t 3) 6),
   .op none (.store 1 (.t 17) (.t 16))])
 (.keep [1, 2, 3] (.seq (.ops [.op (some 18) (.fadr (.t 1) 7),
   .op (some 19) (.load1 (.t 18)),
   .call (some 20) 53 [.t 19],
   .op (some 21) (.fadr (.t 3) 7),
   .op none (.store 1 (.t 21) (.t 20))])
 (.keep [1, 2, 3] (.seq (.ops [.op (some 22) (.fadr (.t 1) 8),
   .op (some 23) (.load1 (.t 22)),
   .op (some 24) (.fadr (.t 3) 8),
   .op none (.store 1 (.t 24) (.t 23))])
 (.keep [2, 3] (.seq (.ops [.op (some 25) (.loadN 9 (.t 3)),
   .op none (.store 9 (.t 2) (.t 25))])
 (.keep [2] (.ret))))))))))))))))))
theorem k_c_toStore_fits : fitsF Tryz.prog 16 ⟨26, k_c_toStore, [.cN 2 9]⟩ = true := by kernel_rfl
theorem c_toStore {a : GStore} (hb : StB a) : Con Tryz.prog noMv 16 [a.av] [] (fun r h => r = a.av ∧ h = []) := by
 refine con_of2 k_c_toStore_fits rfl fun C hP hmv => ?_
 unfold k_c_toStore
 obtain ⟨hw0, hw1, hw2, hw3, hwa, hw4, hw5, hw6⟩ := hb
 refine cx_seq (cx_ops ?_)
 refine ax_e (e_box rfl rfl (by decide) rfl rfl rfl) ?_
 refine ax_e (e_alloc (by decide) rfl rfl) ?_
 refine ax_nil (cx_keep rfl rfl (cx_seq (cx_ops ?_)))
 refine ax_e (e_alloc (by decide) rfl rfl) ?_
 refine ax_nil (cx_keep rfl rfl (cx_seq (cx_ops ?_)))
 refine ax_q (q_fadr_ptr rfl) ?_
 refine ax_q (q_ldN rfl rfl rfl) ?_
 refine ax_call rfl (vc_pure (c_toDisk  ?_ ?_ ?_) hP rfl ?_)
 ·
  assumption
 ·
  assumption
 ·
  assumption
 rintro r h ⟨rfl, rfl⟩
 refine ⟨fun i => 6 + 200 * i, [0, 1, 2], ⟨rfl, rfl, rfl, rfl, rfl, (by first | exact (fun h => absurd h Bool.false_ne_true) | exact (fun _ => ⟨rfl, (noisl_of (by repeat (first | exact trivial | refine ⟨noisl_map (fun _ => rfl), ?_⟩ | refine ⟨?_, ?_⟩)))⟩))⟩, ?_⟩
 skip
 refine ax_wk (wk_frz 6 6 rfl rfl (.agg (.cons (.whole (List.length_map _).symm) (.cons (.same rfl) (.cons (.same rfl) (.cons (.same rfl) .nil))))) rfl) ?_
 refine ax_wk (wk_frz 6 206 rfl rfl (.agg (.cons (.same rfl) (.cons (.whole (List.length_map _).symm) (.cons (.same rfl) (.cons (.same rfl) .nil))))) rfl) ?_
 refine ax_wk (wk_frz 6 406 rfl rfl (.agg (.cons (.same rfl) (.cons (.same rfl) (.cons (.same rfl) (.cons (.whole (List.length_map _).symm) .nil))))) rfl) ?_
 refine ax_q (q_fadr_ptr rfl) ?_
 refine ax_e (e_st rfl rfl rfl rfl rfl rfl rfl) ?_
 refine ax_nil (cx_keep rfl rfl (cx_seq (cx_ops ?_)))
 refine ax_q (q_fadr_ptr rfl) ?_
 refine ax_q (q_load1_ptr rfl rfl rfl) ?_
 refine ax_q (q_fadr_ptr rfl) ?_
 refine ax_e (e_st rfl rfl rfl rfl rfl rfl rfl) ?_
 refine ax_nil (cx_keep rfl rfl (cx_seq (cx_ops ?_)))
 refine ax_q (q_fadr_ptr rfl) ?_
 refine ax_q (q_load1_ptr rfl rfl rfl) ?_
 refine ax_call rfl (vc_pure (c_toLogRecordS  ?_) hP rfl ?_)
 ·
  assumption
 rintro r h ⟨rfl, rfl⟩
 refine ⟨fun i => 13 + 200 * i, [0], ⟨rfl, rfl, rfl, rfl, rfl, (by first | exact (fun h => absurd h Bool.false_ne_true) | exact (fun _ => ⟨rfl, (noisl_of (by repeat (first | exact trivial | refine ⟨noisl_map (fun _ => rfl), ?_⟩ | refine ⟨?_, ?_⟩)))⟩))⟩, ?_⟩
 skip
 refine ax_wk (wk_frz 13 13 rfl rfl (.whole (List.length_map _).symm) rfl) ?_
 refine ax_q (q_fadr_ptr rfl) ?_
 refine ax_e (e_st rfl rfl rfl rfl rfl rfl rfl) ?_
 refine ax_nil (cx_keep rfl rfl (cx_seq (cx_ops ?_)))
 refine ax_q (q_fadr_ptr rfl) ?_
 refine ax_q (q_load1_ptr rfl rfl rfl) ?_
 refine ax_q (q_fadr_ptr rfl) ?_
 refine ax_e (e_st rfl rfl rfl rfl rfl rfl rfl) ?_
 refine ax_nil (cx_keep rfl rfl (cx_seq (cx_ops ?_)))
 refine ax_q (q_fadr_ptr rfl) ?_
 refine ax_q (q_load1_ptr rfl rfl rfl) ?_
 refine ax_call rfl (vc_pure0 (c_toFrameS  ?_ ?_) hP rfl rfl ?_)
 ·
  assumption
 ·
  assumption
 refine ax_q (q_fadr_ptr rfl) ?_
 refine ax_e (e_st rfl rfl rfl rfl rfl rfl rfl) ?_
 refine ax_nil (cx_keep rfl rfl (cx_seq (cx_ops ?_)))
 refine ax_q (q_fadr_ptr rfl) ?_
 refine ax_q (q_load1_ptr rfl rfl rfl) ?_
 refine ax_q (q_fadr_ptr rfl) ?_
 refine ax_e (e_st rfl rfl rfl rfl rfl rfl rfl) ?_
 refine ax_nil (cx_keep rfl rfl (cx_seq (cx_ops ?_)))
 refine ax_q (q_ldN rfl rfl rfl) ?_
 refine ax_e (e_st rfl rfl rfl rfl rfl rfl rfl) ?_
 refine ax_nil (cx_keep rfl rfl ?_)
 refine cx_ret (ret0 rfl rfl ?_)
 exact ⟨rfl, rfl⟩


/- loop.example/g00332/laws.toTx -/
def k_c_toTx : XCode :=
 .seq (.ops [.op (some 1) (.box (.t 0)),
   .op (some 2) (.alloc [.int .i64 0, .int .i64 0])])
 (.keep [1, 2] (.seq (.ops [.op (some 3) (.alloc [.int .i64 0, .int .i64 0])])
 (.keep [1, 2, 3] (.seq (.ops [.op (some 4) (.fadr (.t 1) 0),
   .op (some 5) (.load1 (.t 4)),
   .op (some 6) (.fadr (.t 3) 0),
   .op none (.store 1 (.t 6) (.t 5))])
 (.keep [1, 2, 3] (.seq (.ops [.op (some 7) (.fadr (.t 1) 1),
   .op (some 8) (.load1 (.t 7)),
   .op (some 9) (.fadr (.t 3) 1),
   .op none (.store 1 (.t 9) (.t 8))])
 (.keep [2, 3] (.seq (.ops [.op (some 10) (.loadN 2 (.t 3)),
   .op none (.store 2 (.t 2) (.t 10))])
 (.keep [2] (.ret))))))))))
theorem k_c_toTx_fits : fitsF Tryz.prog 89 ⟨11, k_c_toTx, [.cN 2 2]⟩ = true := by kernel_rfl
theorem c_toTx {a : GTx} : Con Tryz.prog noMv 89 [a.av] [] (fun r h => r = a.av ∧ h = []) := by
 refine con_of2 k_c_toTx_fits rfl fun C hP hmv => ?_
 unfold k_c_toTx
 refine cx_seq (cx_ops ?_)
 refine ax_e (e_box rfl rfl (by decide) rfl rfl rfl) ?_
 refine ax_e (e_alloc (by decide) rfl rfl) ?_
 refine ax_nil (cx_keep rfl rfl (cx_seq (cx_ops ?_)))
 refine ax_e (e_alloc (by decide) rfl rfl) ?_
 refine ax_nil (cx_keep rfl rfl (cx_seq (cx_ops ?_)))
 refine ax_q (q_fadr_ptr rfl) ?_
 refine ax_q (q_load1_ptr rfl rfl rfl) ?_
 refine ax_q (q_fadr_ptr rfl) ?_
 refine ax_e (e_st rfl rfl rfl rfl rfl rfl rfl) ?_
 refine ax_nil (cx_keep rfl rfl (cx_seq (cx_ops ?_)))
 refine ax_q (q_fadr_ptr rfl) ?_
 refine ax_q (q_load1_ptr rfl rfl rfl) ?_
 refine ax_q (q_fadr_ptr rfl) ?_
 refine ax_e (e_st rfl rfl rfl rfl rfl rfl rfl) ?_
 refine ax_nil (cx_keep rfl rfl (cx_seq (cx_ops ?_)))
 refine ax_q (q_ldN rfl rfl rfl) ?_
 refine ax_e (e_st rfl rfl rfl rfl rfl rfl rfl) ?_
 refine ax_nil (cx_keep rfl rfl ?_)
 refine cx_ret (ret0 rfl rfl ?_)
 exact ⟨rfl, rfl⟩


/- loop.example/g00332/laws.toTxS -/
def k_c_toTxS : XCode :=
 .seq (.ops [.op (some 2) (.mov (.k (.nils 2)))])
 (.keep [0] (.seq (.ops [.op (some 5) (.mov (.t 0)),
   .op (some 6) (.lenS (.t 5)),
   .op (some 7) (.mkslice 2 16 [.int .i64 0, .int .i64 0] (.t 6) (.t 6)),
   .op (some 3) (.mov (.t 7))])
 (.keep [0, 3] (.seq (.seq (.ops [.op (some 4) (.mov (.k (.int .i64 0)))])
  (.keep [0, 3, 4] (.block 0 (.loop (.seq (.seq (.ops [.op (some 8) (.mov (.t 4)),
     .op (some 9) (.mov (.t 0)),
     .op (some 10) (.lenS (.t 9)),
     .op (some 11) (.bin .lss (.t 8) (.t 10))])
   (.keep [0, 3, 4, 11] (.cond (.t 11)
    (.skip)
    (.exit 0))))
   (.keep [0, 3, 4] (.seq (.block 1 (.ops [.op (some 14) (.mov (.t 3)),
     .op (some 15) (.mov (.t 4)),
     .op (some 16) (.mov (.t 0)),
     .op (some 17) (.mov (.t 4)),
     .op (some 18) (.iadr 2 (.t 16) (.t 17)),
     .op (some 19) (.loadN 2 (.t 18)),
     .call (some 20) 89 [.t 19],
     .op (some 21) (.iadr 2 (.t 14) (.t 15)),
     .op none (.store 2 (.t 21) (.t 20))]))
   (.keep [0, 3, 4] (.ops [.op (some 12) (.mov (.t 4)),
    .op (some 13) (.bin .add (.t 12) (.k (.int .i64 1))),
    .op (some 4) (.mov (.t 13))])))))))))
 (.keep [3] (.seq (.ops [.op (some 22) (.mov (.t 3)),
   .op (some 2) (.mov (.t 22))])
 (.keep [2] (.ret))))))))
theorem k_c_toTxS_fits : fitsF Tryz.prog 41 ⟨23, k_c_toTxS, [.t 2]⟩ = true := by kernel_rfl
theorem c_toTxS {xs : List GTx} (hw : xs.length ≤ 1048576) : Con Tryz.prog noMv 41 [.d (.sl 2 (xs.map GTx.row))] [] (fun r h => r = .osl 0 2 0 xs.length ∧ h = [(0, .rows 2 (xs.map GTx.row))]) := by
 refine con_of2 k_c_toTxS_fits rfl fun C hP hmv => ?_
 unfold k_c_toTxS
 refine cx_seq (cx_ops ?_)
 refine ax_q (q_mov rfl) ?_
 refine ax_nil (cx_keep rfl rfl (cx_seq (cx_ops ?_)))
 refine ax_q (q_mov rfl) ?_
 refine ax_q (q_lenS_map rfl) ?_
 refine ax_ee (e_mkslice rfl rfl rfl (by omega) (by omega) (by omega) (by decide) rfl rfl) (by rw [Int.toNat_natCast]) ?_
 refine ax_q (q_mov rfl) ?_
 refine ax_nil (cx_keep rfl rfl (cx_seq (cx_seq (cx_ops ?_))))
 refine ax_q (q_mov rfl) ?_
 refine ax_nil (cx_keep rfl rfl (cx_block ?_))
 refine cx_loopU (fun n k => k ≤ xs.length ∧ n = xs.length - k) (fun k : Nat => [(4, int k)]) (fun k => [(7, .rows 2 ((xs.take k).map GTx.row ++ List.replicate (xs.length - k) [.int .i64 0, .int .i64 0]))]) ⟨_, 0, ⟨Nat.zero_le _, rfl⟩, by repeat constructor⟩ ?_
 rintro n k ⟨hk, rfl⟩
 refine cx_seq (cx_seq (cx_ops ?_))
 refine ax_q (q_mov rfl) ?_
 refine ax_q (q_mov rfl) ?_
 refine ax_q (q_lenS_map rfl) ?_
 refine ax_q (q_ibin rfl rfl rfl) ?_
 refine ax_nil (cx_keep rfl rfl ?_)
 refine cx_cond rfl (fun h0 => ?_) (fun h0 => ?_)
 ·
  have h0 := dT h0
  have h1x : k < xs.length := by omega
  refine cx_skip ?_
  refine cx_keep rfl rfl (cx_seq (cx_block (cx_ops ?_)))
  refine ax_q (q_mov rfl) ?_
  refine ax_q (q_mov rfl) ?_
  refine ax_q (q_mov rfl) ?_
  refine ax_q (q_mov rfl) ?_
  refine ax_q (q_ix rfl rfl (mapAt h1x)) ?_
  first | refine ax_q (q_ldN rfl rfl rfl) ?_ | refine ax_q (q_loadN_ip rfl (Nat.le_refl _)) ?_
  refine ax_call rfl (vc_pure0 (c_toTx  ) hP rfl rfl ?_)
  refine ax_q (q_ixo rfl rfl h1x) ?_
  refine ax_e (e_str (q := GTx.row xs[k]) rfl rfl rfl rfl rfl rfl (fillAtL h1x) rfl rfl (fillSetL h1x)) ?_
  refine ax_nil (cx_keep rfl rfl (cx_ops ?_))
  refine ax_q (q_mov rfl) ?_
  refine ax_q (q_add rfl rfl (by omega)) ?_
  refine ax_q (q_mov rfl) ?_
  refine ax_nil ?_
  exact ⟨_, k + 1, by omega, ⟨by omega, rfl⟩, by repeat constructor⟩
 ·
  have h0 := dF h0
  refine cx_exit rfl ?_
  refine cx_keep rfl rfl (cx_seq (cx_ops ?_))
  refine ax_q (q_mov rfl) ?_
  refine ax_q (q_mov rfl) ?_
  refine ax_nil (cx_keep rfl rfl ?_)
  refine cx_ret (retN (fun _ => 0) [7] rfl rfl rfl rfl rfl ?_)
  exact ⟨rfl, by rw [show k = xs.length from by omega, List.take_length, Nat.sub_self, List.replicate_zero, List.append_nil]; rfl⟩


/- loop.example/g00332/laws.toLock -/
def k_c_toLock : XCode :=
 .seq (.ops [.op (some 1) (.box (.t 0)),
   .op (some 2) (.alloc [.int .i64 0, .int .i64 0, .int .i64 0, .int .i64 0])])
 (.keep [1, 2] (.seq (.ops [.op (some 3) (.alloc [.int .i64 0, .int .i64 0, .int .i64 0, .int .i64 0])])
 (.keep [1, 2, 3] (.seq (.ops [.op (some 4) (.fadr (.t 1) 0),
   .op (some 5) (.load1 (.t 4)),
   .op (some 6) (.fadr (.t 3) 0),
   .op none (.store 1 (.t 6) (.t 5))])
 (.keep [1, 2, 3] (.seq (.ops [.op (some 7) (.fadr (.t 1) 1),
   .op (some 8) (.load1 (.t 7)),
   .op (some 9) (.fadr (.t 3) 1),
   .op none (.store 1 (.t 9) (.t 8))])
 (.keep [1, 2, 3] (.seq (.ops [.op (some 10) (.fadr (.t 1) 2),
   .op (some 11) (.load1 (.t 10)),
   .op (some 12) (.fadr (.t 3) 2),
   .op none (.store 1 (.t 12) (.t 11))])
 (.keep [1, 2, 3] (.seq (.ops [.op (some 13) (.fadr (.t 1) 3),
   .op (some 14) (.load1 (.t 13)),
   .op (some 15) (.fadr (.t 3) 3),
   .op none (.store 1 (.t 15) (.t 14))])
 (.keep [2, 3] (.seq (.ops [.op (some 16) (.loadN 4 (.t 3)),
   .op none (.store 4 (.t 2) (.t 16))])
 (.keep [2] (.ret))))))))))))))
theorem k_c_toLock_fits : fitsF Tryz.prog 163 ⟨17, k_c_toLock, [.cN 2 4]⟩ = true := by kernel_rfl
theorem c_toLock {a : GLock} : Con Tryz.prog noMv 163 [a.av] [] (fun r h => r = a.av ∧ h = []) := by
 refine con_of2 k_c_toLock_fits rfl fun C hP hmv => ?_
 unfold k_c_toLock
 refine cx_seq (cx_ops ?_)
 refine ax_e (e_box rfl rfl (by decide) rfl rfl rfl) ?_
 refine ax_e (e_alloc (by decide) rfl rfl) ?_
 refine ax_nil (cx_keep rfl rfl (cx_seq (cx_ops ?_)))
 refine ax_e (e_alloc (by decide) rfl rfl) ?_
 refine ax_nil (cx_keep rfl rfl (cx_seq (cx_ops ?_)))
 refine ax_q (q_fadr_ptr rfl) ?_
 refine ax_q (q_load1_ptr rfl rfl rfl) ?_
 refine ax_q (q_fadr_ptr rfl) ?_
 refine ax_e (e_st rfl rfl rfl rfl rfl rfl rfl) ?_
 refine ax_nil (cx_keep rfl rfl (cx_seq (cx_ops ?_)))
 refine ax_q (q_fadr_ptr rfl) ?_
 refine ax_q (q_load1_ptr rfl rfl rfl) ?_
 refine ax_q (q_fadr_ptr rfl) ?_
 refine ax_e (e_st rfl rfl rfl rfl rfl rfl rfl) ?_
 refine ax_nil (cx_keep rfl rfl (cx_seq (cx_ops ?_)))
 refine ax_q (q_fadr_ptr rfl) ?_
 refine ax_q (q_load1_ptr rfl rfl rfl) ?_
 refine ax_q (q_fadr_ptr rfl) ?_
 refine ax_e (e_st rfl rfl rfl rfl rfl rfl rfl) ?_
 refine ax_nil (cx_keep rfl rfl (cx_seq (cx_ops ?_)))
 refine ax_q (q_fadr_ptr rfl) ?_
 refine ax_q (q_load1_ptr rfl rfl rfl) ?_
 refine ax_q (q_fadr_ptr rfl) ?_
 refine ax_e (e_st rfl rfl rfl rfl rfl rfl rfl) ?_
 refine ax_nil (cx_keep rfl rfl (cx_seq (cx_ops ?_)))
 refine ax_q (q_ldN rfl rfl rfl) ?_
 refine ax_e (e_st rfl rfl rfl rfl rfl rfl rfl) ?_
 refine ax_nil (cx_keep rfl rfl ?_)
 refine cx_ret (ret0 rfl rfl ?_)
 exact ⟨rfl, rfl⟩


/- loop.example/g00332/laws.toLockS -/
def k_c_toLockS : XCode :=
 .seq (.ops [.op (some 2) (.mov (.k (.nils 4)))])
 (.keep [0] (.seq (.ops [.op (some 5) (.mov (.t 0)),
   .op (some 6) (.lenS (.t 5)),
   .op (some 7) (.mkslice 4 32 [.int .i64 0, .int .i64 0, .int .i64 0, .int .i64 0] (.t 6) (.t 6)),
   .op (some 3) (.mov (.t 7))])
 (.keep [0, 3] (.seq (.seq (.ops [.op (some 4) (.mov (.k (.int .i64 0)))])
  (.keep [0, 3, 4] (.block 0 (.loop (.seq (.seq (.ops [.op (some 8) (.mov (.t 4)),
     .op (some 9) (.mov (.t 0)),
     .op (some 10) (.lenS (.t 9)),
     .op (some 11) (.bin .lss (.t 8) (.t 10))])
   (.keep [0, 3, 4, 11] (.cond (.t 11)
    (.skip)
    (.exit 0))))
   (.keep [0, 3, 4] (.seq (.block 1 (.ops [.op (some 14) (.mov (.t 3)),
     .op (some 15) (.mov (.t 4)),
     .op (some 16) (.mov (.t 0)),
     .op (some 17) (.mov (.t 4)),
     .op (some 18) (.iadr 4 (.t 16) (.t 17)),
     .op (some 19) (.loadN 4 (.t 18)),
     .call (some 20) 163 [.t 19],
     .op (some 21) (.iadr 4 (.t 14) (.t 15)),
     .op none (.store 4 (.t 21) (.t 20))]))
   (.keep [0, 3, 4] (.ops [.op (some 12) (.mov (.t 4)),
    .op (some 13) (.bin .add (.t 12) (.k (.int .i64 1))),
    .op (some 4) (.mov (.t 13))])))))))))
 (.keep [3] (.seq (.ops [.op (some 22) (.mov (.t 3)),
   .op (some 2) (.mov (.t 22))])
 (.keep [2] (.ret))))))))
theorem k_c_toLockS_fits : fitsF Tryz.prog 90 ⟨23, k_c_toLockS, [.t 2]⟩ = true := by kernel_rfl
theorem c_toLockS {xs : List GLock} (hw : xs.length ≤ 1048576) : Con Tryz.prog noMv 90 [.d (.sl 4 (xs.map GLock.row))] [] (fun r h => r = .osl 0 4 0 xs.length ∧ h = [(0, .rows 4 (xs.map GLock.row))]) := by
 refine con_of2 k_c_toLockS_fits rfl fun C hP hmv => ?_
 unfold k_c_toLockS
 refine cx_seq (cx_ops ?_)
 refine ax_q (q_mov rfl) ?_
 refine ax_nil (cx_keep rfl rfl (cx_seq (cx_ops ?_)))
 refine ax_q (q_mov rfl) ?_
 refine ax_q (q_lenS_map rfl) ?_
 refine ax_ee (e_mkslice rfl rfl rfl (by omega) (by omega) (by omega) (by decide) rfl rfl) (by rw [Int.toNat_natCast]) ?_
 refine ax_q (q_mov rfl) ?_
 refine ax_nil (cx_keep rfl rfl (cx_seq (cx_seq (cx_ops ?_))))
 refine ax_q (q_mov rfl) ?_
 refine ax_nil (cx_keep rfl rfl (cx_block ?_))
 refine cx_loopU (fun n k => k ≤ xs.length ∧ n = xs.length - k) (fun k : Nat => [(4, int k)]) (fun k => [(7, .rows 4 ((xs.take k).map GLock.row ++ List.replicate (xs.length - k) [.int .i64 0, .int .i64 0, .int .i64 0, .int .i64 0]))]) ⟨_, 0, ⟨Nat.zero_le _, rfl⟩, by repeat constructor⟩ ?_
 rintro n k ⟨hk, rfl⟩
 refine cx_seq (cx_seq (cx_ops ?_))
 refine ax_q (q_mov rfl) ?_
 refine ax_q (q_mov rfl) ?_
 refine ax_q (q_lenS_map rfl) ?_
 refine ax_q (q_ibin rfl rfl rfl) ?_
 refine ax_nil (cx_keep rfl rfl ?_)
 refine cx_cond rfl (fun h0 => ?_) (fun h0 => ?_)
 ·
  have h0 := dT h0
  have h1x : k < xs.length := by omega
  refine cx_skip ?_
  refine cx_keep rfl rfl (cx_seq (cx_block (cx_ops ?_)))
  refine ax_q (q_mov rfl) ?_
  refine ax_q (q_mov rfl) ?_
  refine ax_q (q_mov rfl) ?_
  refine ax_q (q_mov rfl) ?_
  refine ax_q (q_ix rfl rfl (mapAt h1x)) ?_
  first | refine ax_q (q_ldN rfl rfl rfl) ?_ | refine ax_q (q_loadN_ip rfl (Nat.le_refl _)) ?_
  refine ax_call rfl (vc_pure0 (c_toLock  ) hP rfl rfl ?_)
  refine ax_q (q_ixo rfl rfl h1x) ?_
  refine ax_e (e_str (q := GLock.row xs[k]) rfl rfl rfl rfl rfl rfl (fillAtL h1x) rfl rfl (fillSetL h1x)) ?_
  refine ax_nil (cx_keep rfl rfl (cx_ops ?_))
  refine ax_q (q_mov rfl) ?_
  refine ax_q (q_add rfl rfl (by omega)) ?_
  refine ax_q (q_mov rfl) ?_
  refine ax_nil ?_
  exact ⟨_, k + 1, by omega, ⟨by omega, rfl⟩, by repeat constructor⟩
 ·
  have h0 := dF h0
  refine cx_exit rfl ?_
  refine cx_keep rfl rfl (cx_seq (cx_ops ?_))
  refine ax_q (q_mov rfl) ?_
  refine ax_q (q_mov rfl) ?_
  refine ax_nil (cx_keep rfl rfl ?_)
  refine cx_ret (retN (fun _ => 0) [7] rfl rfl rfl rfl rfl ?_)
  exact ⟨rfl, by rw [show k = xs.length from by omega, List.take_length, Nat.sub_self, List.replicate_zero, List.append_nil]; rfl⟩


/- loop.example/g00332/laws.toWait -/
def k_c_toWait : XCode :=
 .seq (.ops [.op (some 1) (.box (.t 0)),
   .op (some 2) (.alloc [.int .i64 0, .int .i64 0])])
 (.keep [1, 2] (.seq (.ops [.op (some 3) (.alloc [.int .i64 0, .int .i64 0])])
 (.keep [1, 2, 3] (.seq (.ops [.op (some 4) (.fadr (.t 1) 0),
   .op (some 5) (.load1 (.t 4)),
   .op (some 6) (.fadr (.t 3) 0),
   .op none (.store 1 (.t 6) (.t 5))])
 (.keep [1, 2, 3] (.seq (.ops [.op (some 7) (.fadr (.t 1) 1),
   .op (some 8) (.load1 (.t 7)),
   .op (some 9) (.fadr (.t 3) 1),
   .op none (.store 1 (.t 9) (.t 8))])
 (.keep [2, 3] (.seq (.ops [.op (some 10) (.loadN 2 (.t 3)),
   .op none (.store 2 (.t 2) (.t 10))])
 (.keep [2] (.ret))))))))))
theorem k_c_toWait_fits : fitsF Tryz.prog 164 ⟨11, k_c_toWait, [.cN 2 2]⟩ = true := by kernel_rfl
theorem c_toWait {a : GWait} : Con Tryz.prog noMv 164 [a.av] [] (fun r h => r = a.av ∧ h = []) := by
 refine con_of2 k_c_toWait_fits rfl fun C hP hmv => ?_
 unfold k_c_toWait
 refine cx_seq (cx_ops ?_)
 refine ax_e (e_box rfl rfl (by decide) rfl rfl rfl) ?_
 refine ax_e (e_alloc (by decide) rfl rfl) ?_
 refine ax_nil (cx_keep rfl rfl (cx_seq (cx_ops ?_)))
 refine ax_e (e_alloc (by decide) rfl rfl) ?_
 refine ax_nil (cx_keep rfl rfl (cx_seq (cx_ops ?_)))
 refine ax_q (q_fadr_ptr rfl) ?_
 refine ax_q (q_load1_ptr rfl rfl rfl) ?_
 refine ax_q (q_fadr_ptr rfl) ?_
 refine ax_e (e_st rfl rfl rfl rfl rfl rfl rfl) ?_
 refine ax_nil (cx_keep rfl rfl (cx_seq (cx_ops ?_)))
 refine ax_q (q_fadr_ptr rfl) ?_
 refine ax_q (q_load1_ptr rfl rfl rfl) ?_
 refine ax_q (q_fadr_ptr rfl) ?_
 refine ax_e (e_st rfl rfl rfl rfl rfl rfl rfl) ?_
 refine ax_nil (cx_keep rfl rfl (cx_seq (cx_ops ?_)))
 refine ax_q (q_ldN rfl rfl rfl) ?_
 refine ax_e (e_st rfl rfl rfl rfl rfl rfl rfl) ?_
 refine ax_nil (cx_keep rfl rfl ?_)
 refine cx_ret (ret0 rfl rfl ?_)
 exact ⟨rfl, rfl⟩


/- loop.example/g00332/laws.toWaitS -/
def k_c_toWaitS : XCode :=
 .seq (.ops [.op (some 2) (.mov (.k (.nils 2)))])
 (.keep [0] (.seq (.ops [.op (some 5) (.mov (.t 0)),
   .op (some 6) (.lenS (.t 5)),
   .op (some 7) (.mkslice 2 16 [.int .i64 0, .int .i64 0] (.t 6) (.t 6)),
   .op (some 3) (.mov (.t 7))])
 (.keep [0, 3] (.seq (.seq (.ops [.op (some 4) (.mov (.k (.int .i64 0)))])
  (.keep [0, 3, 4] (.block 0 (.loop (.seq (.seq (.ops [.op (some 8) (.mov (.t 4)),
     .op (some 9) (.mov (.t 0)),
     .op (some 10) (.lenS (.t 9)),
     .op (some 11) (.bin .lss (.t 8) (.t 10))])
   (.keep [0, 3, 4, 11] (.cond (.t 11)
    (.skip)
    (.exit 0))))
   (.keep [0, 3, 4] (.seq (.block 1 (.ops [.op (some 14) (.mov (.t 3)),
     .op (some 15) (.mov (.t 4)),
     .op (some 16) (.mov (.t 0)),
     .op (some 17) (.mov (.t 4)),
     .op (some 18) (.iadr 2 (.t 16) (.t 17)),
     .op (some 19) (.loadN 2 (.t 18)),
     .call (some 20) 164 [.t 19],
     .op (some 21) (.iadr 2 (.t 14) (.t 15)),
     .op none (.store 2 (.t 21) (.t 20))]))
   (.keep [0, 3, 4] (.ops [.op (some 12) (.mov (.t 4)),
    .op (some 13) (.bin .add (.t 12) (.k (.int .i64 1))),
    .op (some 4) (.mov (.t 13))])))))))))
 (.keep [3] (.seq (.ops [.op (some 22) (.mov (.t 3)),
   .op (some 2) (.mov (.t 22))])
 (.keep [2] (.ret))))))))
theorem k_c_toWaitS_fits : fitsF Tryz.prog 91 ⟨23, k_c_toWaitS, [.t 2]⟩ = true := by kernel_rfl
theorem c_toWaitS {xs : List GWait} (hw : xs.length ≤ 1048576) : Con Tryz.prog noMv 91 [.d (.sl 2 (xs.map GWait.row))] [] (fun r h => r = .osl 0 2 0 xs.length ∧ h = [(0, .rows 2 (xs.map GWait.row))]) := by
 refine con_of2 k_c_toWaitS_fits rfl fun C hP hmv => ?_
 unfold k_c_toWaitS
 refine cx_seq (cx_ops ?_)
 refine ax_q (q_mov rfl) ?_
 refine ax_nil (cx_keep rfl rfl (cx_seq (cx_ops ?_)))
 refine ax_q (q_mov rfl) ?_
 refine ax_q (q_lenS_map rfl) ?_
 refine ax_ee (e_mkslice rfl rfl rfl (by omega) (by omega) (by omega) (by decide) rfl rfl) (by rw [Int.toNat_natCast]) ?_
 refine ax_q (q_mov rfl) ?_
 refine ax_nil (cx_keep rfl rfl (cx_seq (cx_seq (cx_ops ?_))))
 refine ax_q (q_mov rfl) ?_
 refine ax_nil (cx_keep rfl rfl (cx_block ?_))
 refine cx_loopU (fun n k => k ≤ xs.length ∧ n = xs.length - k) (fun k : Nat => [(4, int k)]) (fun k => [(7, .rows 2 ((xs.take k).map GWait.row ++ List.replicate (xs.length - k) [.int .i64 0, .int .i64 0]))]) ⟨_, 0, ⟨Nat.zero_le _, rfl⟩, by repeat constructor⟩ ?_
 rintro n k ⟨hk, rfl⟩
 refine cx_seq (cx_seq (cx_ops ?_))
 refine ax_q (q_mov rfl) ?_
 refine ax_q (q_mov rfl) ?_
 refine ax_q (q_lenS_map rfl) ?_
 refine ax_q (q_ibin rfl rfl rfl) ?_
 refine ax_nil (cx_keep rfl rfl ?_)
 refine cx_cond rfl (fun h0 => ?_) (fun h0 => ?_)
 ·
  have h0 := dT h0
  have h1x : k < xs.length := by omega
  refine cx_skip ?_
  refine cx_keep rfl rfl (cx_seq (cx_block (cx_ops ?_)))
  refine ax_q (q_mov rfl) ?_
  refine ax_q (q_mov rfl) ?_
  refine ax_q (q_mov rfl) ?_
  refine ax_q (q_mov rfl) ?_
  refine ax_q (q_ix rfl rfl (mapAt h1x)) ?_
  first | refine ax_q (q_ldN rfl rfl rfl) ?_ | refine ax_q (q_loadN_ip rfl (Nat.le_refl _)) ?_
  refine ax_call rfl (vc_pure0 (c_toWait  ) hP rfl rfl ?_)
  refine ax_q (q_ixo rfl rfl h1x) ?_
  refine ax_e (e_str (q := GWait.row xs[k]) rfl rfl rfl rfl rfl rfl (fillAtL h1x) rfl rfl (fillSetL h1x)) ?_
  refine ax_nil (cx_keep rfl rfl (cx_ops ?_))
  refine ax_q (q_mov rfl) ?_
  refine ax_q (q_add rfl rfl (by omega)) ?_
  refine ax_q (q_mov rfl) ?_
  refine ax_nil ?_
  exact ⟨_, k + 1, by omega, ⟨by omega, rfl⟩, by repeat constructor⟩
 ·
  have h0 := dF h0
  refine cx_exit rfl ?_
  refine cx_keep rfl rfl (cx_seq (cx_ops ?_))
  refine ax_q (q_mov rfl) ?_
  refine ax_q (q_mov rfl) ?_
  refine ax_nil (cx_keep rfl rfl ?_)
  refine cx_ret (retN (fun _ => 0) [7] rfl rfl rfl rfl rfl ?_)
  exact ⟨rfl, by rw [show k = xs.length from by omega, List.take_length, Nat.sub_self, List.replicate_zero, List.append_nil]; rfl⟩


/- loop.example/g00332/laws.toLocks -/
def k_c_toLocks : XCode :=
 .seq (.ops [.op (some 1) (.box (.t 0)),
   .op (some 2) (.alloc [.nils 4, .nils 2])])
 (.keep [1, 2] (.seq (.ops [.op (some 3) (.alloc [.nils 4, .nils 2])])
 (.keep [1, 2, 3] (.seq (.ops [.op (some 4) (.fadr (.t 1) 0),
   .op (some 5) (.load1 (.t 4)),
   .call (some 6) 90 [.t 5],
   .op (some 7) (.fadr (.t 3) 0),
   .op none (.store 1 (.t 7) (.t 6))])
 (.keep [1, 2, 3] (.seq (.ops [.op (some 8) (.fadr (.t 1) 1),
   .op (some 9) (.load1 (.t 8)),
   .call (some 10) 91 [.t 9],
   .op (some 11) (.fadr (.t 3) 1),
   .op none (.store 1 (.t 11) (.t 10))])
 (.keep [2, 3] (.seq (.ops [.op (some 12) (.loadN 2 (.t 3)),
   .op none (.store 2 (.t 2) (.t 12))])
 (.keep [2] (.ret))))))))))
theorem k_c_toLocks_fits : fitsF Tryz.prog 42 ⟨13, k_c_toLocks, [.cN 2 2]⟩ = true := by kernel_rfl
theorem c_toLocks {a : GLocks} (hw0 : a.Held.length ≤ 1048576) (hw1 : a.Waits.length ≤ 1048576) : Con Tryz.prog noMv 42 [a.av] [] (fun r h => r = a.avO 0 1 ∧ h = a.hO 0 1) := by
 refine con_of2 k_c_toLocks_fits rfl fun C hP hmv => ?_
 unfold k_c_toLocks
 refine cx_seq (cx_ops ?_)
 refine ax_e (e_box rfl rfl (by decide) rfl rfl rfl) ?_
 refine ax_e (e_alloc (by decide) rfl rfl) ?_
 refine ax_nil (cx_keep rfl rfl (cx_seq (cx_ops ?_)))
 refine ax_e (e_alloc (by decide) rfl rfl) ?_
 refine ax_nil (cx_keep rfl rfl (cx_seq (cx_ops ?_)))
 refine ax_q (q_fadr_ptr rfl) ?_
 refine ax_q (q_load1_ptr rfl rfl rfl) ?_
 refine ax_call rfl (vc_pure (c_toLockS  ?_) hP rfl ?_)
 ·
  assumption
 rintro r h ⟨rfl, rfl⟩
 refine ⟨fun i => 6 + 200 * i, [0], ⟨rfl, rfl, rfl, rfl, rfl, (by first | exact (fun h => absurd h Bool.false_ne_true) | exact (fun _ => ⟨rfl, (noisl_of (by repeat (first | exact trivial | refine ⟨noisl_map (fun _ => rfl), ?_⟩ | refine ⟨?_, ?_⟩)))⟩))⟩, ?_⟩
 skip
 refine ax_q (q_fadr_ptr rfl) ?_
 refine ax_e (e_st rfl rfl rfl rfl rfl rfl rfl) ?_
 refine ax_nil (cx_keep rfl rfl (cx_seq (cx_ops ?_)))
 refine ax_q (q_fadr_ptr rfl) ?_
 refine ax_q (q_load1_ptr rfl rfl rfl) ?_
 refine ax_call rfl (vc_pure (c_toWaitS  ?_) hP rfl ?_)
 ·
  assumption
 rintro r h ⟨rfl, rfl⟩
 refine ⟨fun i => 10 + 200 * i, [0], ⟨rfl, rfl, rfl, rfl, rfl, (by first | exact (fun h => absurd h Bool.false_ne_true) | exact (fun _ => ⟨rfl, (noisl_of (by repeat (first | exact trivial | refine ⟨noisl_map (fun _ => rfl), ?_⟩ | refine ⟨?_, ?_⟩)))⟩))⟩, ?_⟩
 skip
 refine ax_q (q_fadr_ptr rfl) ?_
 refine ax_e (e_st rfl rfl rfl rfl rfl rfl rfl) ?_
 refine ax_nil (cx_keep rfl rfl (cx_seq (cx_ops ?_)))
 refine ax_q (q_ldN rfl rfl rfl) ?_
 refine ax_e (e_st rfl rfl rfl rfl rfl rfl rfl) ?_
 refine ax_nil (cx_keep rfl rfl ?_)
 refine cx_ret (retN (fun e => bif Nat.beq e 10 then 1 else 0) [6, 10] rfl rfl rfl rfl rfl ?_)
 exact ⟨rfl, rfl⟩


/- loop.example/g00332/laws.toEngine -/
def k_c_toEngine : XCode :=
 .seq (.ops [.op (some 1) (.box (.t 0)),
   .op (some 2) (.alloc [.nils 1, .nils 2, .bool false, .nils 1, .int .i64 0, .nils 10, .int .i64 0, .nils 5, .int .i64 0, .bool false, .nils 2, .nils 4, .nils 2, .int .i64 0])])
 (.keep [1, 2] (.seq (.ops [.op (some 3) (.alloc [.nils 1, .nils 2, .bool false, .nils 1, .int .i64 0, .nils 10, .int .i64 0, .nils 5, .int .i64 0, .bool false, .nils 2, .nils 4, .nils 2, .int .i64 0])])
 (.keep [1, 2, 3] (.seq (.ops [.op (some 4) (.fadr (.t 1) 0),
   .op (some 5) (.loadN 9 (.t 4)),
   .call (some 6) 16 [.t 5],
   .op (some 7) (.fadr (.t 3) 0),
   .op none (.store 9 (.t 7) (.t 6))])
 (.keep [1, 2, 3] (.seq (.ops [.op (some 8) (.fadr (.t 1) 9),
   .op (some 9) (.load1 (.t 8)),
   .op (some 10) (.fadr (.t 3) 9),
   .op none (.store 1 (.t 10) (.t 9))])
 (.keep [1, 2, 3] (.seq (.ops [.op (some 11) (.fadr (.t 1) 10),
   .op (some 12) (.load1 (.t 11)),
   .call (some 13) 41 [.t 12],
   .op (some 14) (.fadr (.t 3) 10),
   .op none (.store 1 (.t 14) (.t 13))])
 (.keep [1, 2, 3] (.seq (.ops [.op (some 15) (.fadr (.t 1) 11),
   .op (some 16) (.loadN 2 (.t 15)),
   .call (some 17) 42 [.t 16],
   .op (some 18) (.fadr (.t 3) 11),
   .op none (.store 2 (.t 18) (.t 17))])
 (.keep [1, 2, 3] (.seq (.ops [.op (some 19) (.fadr (.t 1) 13),
   .op (some 20) (.load1 (.t 19)),
   .op (some 21) (.fadr (.t 3) 13),
   .op none (.store 1 (.t 21) (.t 20))])
 (.keep [2, 3] (.seq (.ops [.op (some 22) (.loadN 14 (.t 3)),
   .op none (.store 14 (.t 2) (.t 22))])
 (.keep [2] (.ret))))))))))))))))
theorem k_c_toEngine_fits : fitsF Tryz.prog 9 ⟨23, k_c_toEngine, [.cN 2 14]⟩ = true := by kernel_rfl
theorem c_toEngine {a : GEngine} (hb : EnB a) : Con Tryz.prog noMv 9 [a.av] [] (fun r h => r = a.av ∧ h = []) := by
 refine con_of2 k_c_toEngine_fits rfl fun C hP hmv => ?_
 unfold k_c_toEngine
 obtain ⟨hs, hw0, hw1, hw2, hw3⟩ := hb
 refine cx_seq (cx_ops ?_)
 refine ax_e (e_box rfl rfl (by decide) rfl rfl rfl) ?_
 refine ax_e (e_alloc (by decide) rfl rfl) ?_
 refine ax_nil (cx_keep rfl rfl (cx_seq (cx_ops ?_)))
 refine ax_e (e_alloc (by decide) rfl rfl) ?_
 refine ax_nil (cx_keep rfl rfl (cx_seq (cx_ops ?_)))
 refine ax_q (q_fadr_ptr rfl) ?_
 refine ax_q (q_ldN rfl rfl rfl) ?_
 refine ax_call rfl (vc_pure0 (c_toStore (a := a.Store) ?_) hP rfl rfl ?_)
 ·
  exact hs
 refine ax_q (q_fadr_ptr rfl) ?_
 refine ax_e (e_st rfl rfl rfl rfl rfl rfl rfl) ?_
 refine ax_nil (cx_keep rfl rfl (cx_seq (cx_ops ?_)))
 refine ax_q (q_fadr_ptr rfl) ?_
 refine ax_q (q_load1_ptr rfl rfl rfl) ?_
 refine ax_q (q_fadr_ptr rfl) ?_
 refine ax_e (e_st rfl rfl rfl rfl rfl rfl rfl) ?_
 refine ax_nil (cx_keep rfl rfl (cx_seq (cx_ops ?_)))
 refine ax_q (q_fadr_ptr rfl) ?_
 refine ax_q (q_load1_ptr rfl rfl rfl) ?_
 refine ax_call rfl (vc_pure (c_toTxS  ?_) hP rfl ?_)
 ·
  assumption
 rintro r h ⟨rfl, rfl⟩
 refine ⟨fun i => 13 + 200 * i, [0], ⟨rfl, rfl, rfl, rfl, rfl, (by first | exact (fun h => absurd h Bool.false_ne_true) | exact (fun _ => ⟨rfl, (noisl_of (by repeat (first | exact trivial | refine ⟨noisl_map (fun _ => rfl), ?_⟩ | refine ⟨?_, ?_⟩)))⟩))⟩, ?_⟩
 skip
 refine ax_wk (wk_frz 13 13 rfl rfl (.whole (List.length_map _).symm) rfl) ?_
 refine ax_q (q_fadr_ptr rfl) ?_
 refine ax_e (e_st rfl rfl rfl rfl rfl rfl rfl) ?_
 refine ax_nil (cx_keep rfl rfl (cx_seq (cx_ops ?_)))
 refine ax_q (q_fadr_ptr rfl) ?_
 refine ax_q (q_ldN rfl rfl rfl) ?_
 refine ax_call rfl (vc_pure (c_toLocks  ?_ ?_) hP rfl ?_)
 ·
  assumption
 ·
  assumption
 rintro r h ⟨rfl, rfl⟩
 refine ⟨fun i => 17 + 200 * i, [0, 1], ⟨rfl, rfl, rfl, rfl, rfl, (by first | exact (fun h => absurd h Bool.false_ne_true) | exact (fun _ => ⟨rfl, (noisl_of (by repeat (first | exact trivial | refine ⟨noisl_map (fun _ => rfl), ?_⟩ | refine ⟨?_, ?_⟩)))⟩))⟩, ?_⟩
 skip
 refine ax_wk (wk_frz 17 17 rfl rfl (.agg (.cons (.whole (List.length_map _).symm) (.cons (.same rfl) .nil))) rfl) ?_
 refine ax_wk (wk_frz 17 217 rfl rfl (.agg (.cons (.same rfl) (.cons (.whole (List.length_map _).symm) .nil))) rfl) ?_
 refine ax_q (q_fadr_ptr rfl) ?_
 refine ax_e (e_st rfl rfl rfl rfl rfl rfl rfl) ?_
 refine ax_nil (cx_keep rfl rfl (cx_seq (cx_ops ?_)))
 refine ax_q (q_fadr_ptr rfl) ?_
 refine ax_q (q_load1_ptr rfl rfl rfl) ?_
 refine ax_q (q_fadr_ptr rfl) ?_
 refine ax_e (e_st rfl rfl rfl rfl rfl rfl rfl) ?_
 refine ax_nil (cx_keep rfl rfl (cx_seq (cx_ops ?_)))
 refine ax_q (q_ldN rfl rfl rfl) ?_
 refine ax_e (e_st rfl rfl rfl rfl rfl rfl rfl) ?_
 refine ax_nil (cx_keep rfl rfl ?_)
 refine cx_ret (ret0 rfl rfl ?_)
 exact ⟨rfl, rfl⟩


/- loop.example/g00332/laws.eqIntS -/
def k_c_eqIntS : XCode :=
 .seq (.ops [.op (some 4) (.mov (.k (.bool false)))])
 (.keep [0, 1] (.seq (.seq (.ops [.op (some 6) (.mov (.t 0)),
   .op (some 7) (.lenS (.t 6)),
   .op (some 8) (.mov (.t 1)),
   .op (some 9) (.lenS (.t 8)),
   .op (some 10) (.bin .neq (.t 7) (.t 9))])
  (.keep [0, 1, 10] (.cond (.t 10)
  (.seq (.ops [.op (some 4) (.mov (.k (.bool false)))])
   (.keep [4] (.ret)))
  (.skip))))
 (.keep [0, 1] (.seq (.seq (.ops [.op (some 5) (.mov (.k (.int .i64 0)))])
  (.keep [0, 1, 5] (.block 0 (.loop (.seq (.seq (.ops [.op (some 11) (.mov (.t 5)),
     .op (some 12) (.mov (.t 0)),
     .op (some 13) (.lenS (.t 12)),
     .op (some 14) (.bin .lss (.t 11) (.t 13))])
   (.keep [0, 1, 5, 14] (.cond (.t 14)
    (.skip)
    (.exit 0))))
   (.keep [0, 1, 5] (.seq (.block 1 (.seq (.draw [.op (some 17) (.mov (.t 0)),
     .op (some 18) (.mov (.t 5)),
     .op (some 19) (.iadr 1 (.t 17) (.t 18)),
     .op (some 20) (.load1 (.t 19)),
     .op (some 21) (.mov (.t 1)),
     .op (some 22) (.mov (.t 5)),
     .op (some 23) (.iadr 1 (.t 21) (.t 22)),
     .op (some 24) (.load1 (.t 23)),
     .op (some 25) (.bin .neq (.t 20) (.t 24))])
    (.keep [0, 1, 5, 25] (.cond (.t 25)
    (.seq (.ops [.op (some 4) (.mov (.k (.bool false)))])
     (.keep [4] (.ret)))
    (.skip)))))
   (.keep [0, 1, 5] (.ops [.op (some 15) (.mov (.t 5)),
    .op (some 16) (.bin .add (.t 15) (.k (.int .i64 1))),
    .op (some 5) (.mov (.t 16))])))))))))
 (.keep [] (.seq (.ops [.op (some 4) (.mov (.k (.bool true)))])
 (.keep [4] (.ret))))))))
theorem k_c_eqIntS_fits : fitsF Tryz.prog 18 ⟨26, k_c_eqIntS, [.t 4]⟩ = true := by kernel_rfl
theorem c_eqIntS {xs ys : List Int} (hw : xs.length ≤ 9223372036854775807) : Con Tryz.prog noMv 18 [.d (.sl 1 (xs.map intRow)), .d (.sl 1 (ys.map intRow))] [] (fun r h => r = bool (eqb xs ys) ∧ h = []) := by
 refine con_of2 k_c_eqIntS_fits rfl fun C hP hmv => ?_
 unfold k_c_eqIntS
 refine cx_seq (cx_ops ?_)
 refine ax_q (q_mov rfl) ?_
 refine ax_nil (cx_keep rfl rfl (cx_seq (cx_seq (cx_ops ?_))))
 refine ax_q (q_mov rfl) ?_
 refine ax_q (q_lenS_map rfl) ?_
 refine ax_q (q_mov rfl) ?_
 refine ax_q (q_lenS_map rfl) ?_
 refine ax_q (q_ibin rfl rfl rfl) ?_
 refine ax_nil (cx_keep rfl rfl ?_)
 refine cx_cond rfl (fun h0 => ?_) (fun h0 => ?_)
 ·
  have h0 := nT h0
  refine cx_seq (cx_ops ?_)
  refine ax_q (q_mov rfl) ?_
  refine ax_nil (cx_keep rfl rfl ?_)
  refine cx_ret (ret0 rfl rfl ?_)
  exact ⟨congrArg AM.bool (eqb_f (fun h => h0 (by rw [h]))).symm, rfl⟩
 ·
  have h0 := nF h0
  refine cx_skip ?_
  refine cx_keep rfl rfl (cx_seq (cx_seq (cx_ops ?_)))
  refine ax_q (q_mov rfl) ?_
  refine ax_nil (cx_keep rfl rfl (cx_block ?_))
  have hl : xs.length = ys.length := by omega
  refine cx_loopU (fun n k => k ≤ xs.length ∧ n = xs.length - k ∧ xs.take k = ys.take k) (fun k : Nat => [(5, int k)]) (fun _ => []) ⟨_, 0, ⟨Nat.zero_le _, rfl, rfl⟩, by repeat constructor⟩ ?_
  rintro n k ⟨hk, rfl, ht⟩
  refine cx_seq (cx_seq (cx_ops ?_))
  refine ax_q (q_mov rfl) ?_
  refine ax_q (q_mov rfl) ?_
  refine ax_q (q_lenS_map rfl) ?_
  refine ax_q (q_ibin rfl rfl rfl) ?_
  refine ax_nil (cx_keep rfl rfl ?_)
  refine cx_cond rfl (fun h1 => ?_) (fun h1 => ?_)
  ·
   have h1 := dT h1
   have h1x : k < xs.length := by omega
   have h1y : k < ys.length := by omega
   refine cx_skip ?_
   refine cx_keep rfl rfl (cx_seq (cx_block (cx_seq (cx_draw ?_))))
   refine ax_q (q_mov rfl) ?_
   refine ax_q (q_mov rfl) ?_
   refine ax_q (q_ix rfl rfl (mapAt h1x)) ?_
   first | refine ax_q (q_load1_ptr rfl rfl rfl) ?_ | refine ax_q (q_load1_ip rfl) ?_
   refine ax_q (q_mov rfl) ?_
   refine ax_q (q_mov rfl) ?_
   refine ax_q (q_ix rfl rfl (mapAt h1y)) ?_
   first | refine ax_q (q_load1_ptr rfl rfl rfl) ?_ | refine ax_q (q_load1_ip rfl) ?_
   refine ax_q (q_ibin rfl rfl rfl) ?_
   refine ax_nil (cx_keep rfl rfl ?_)
   refine cx_cond rfl (fun h2 => ?_) (fun h2 => ?_)
   ·
    have h2 := nT h2
    have h2 : xs[k] ≠ ys[k] := h2
    refine cx_seq (cx_ops ?_)
    refine ax_q (q_mov rfl) ?_
    refine ax_nil (cx_keep rfl rfl ?_)
    refine cx_ret (ret0 rfl rfl ?_)
    exact ⟨congrArg AM.bool (eqbL_no h1x h1y (eqb_f h2)).symm, rfl⟩
   ·
    have h2 := nF h2
    have h2 : xs[k] = ys[k] := h2
    refine cx_skip ?_
    refine cx_keep rfl rfl (cx_ops ?_)
    refine ax_q (q_mov rfl) ?_
    refine ax_q (q_add rfl rfl (by omega)) ?_
    refine ax_q (q_mov rfl) ?_
    refine ax_nil ?_
    exact ⟨_, k + 1, by omega, ⟨by omega, rfl, take_step h1x h1y ht h2⟩, by repeat constructor⟩
  ·
   have h1 := dF h1
   refine cx_exit rfl ?_
   refine cx_keep rfl rfl (cx_seq (cx_ops ?_))
   refine ax_q (q_mov rfl) ?_
   refine ax_nil (cx_keep rfl rfl ?_)
   refine cx_ret (ret0 rfl rfl ?_)
   exact ⟨congrArg AM.bool (eqb_t (eq_of_take hl (by rwa [show k = xs.length from by omega] at ht))).symm, rfl⟩


/- loop.example/g00332/laws.eqStringS -/
def k_c_eqStringS : XCode :=
 .seq (.ops [.op (some 4) (.mov (.k (.bool false)))])
 (.keep [0, 1] (.seq (.seq (.ops [.op (some 6) (.mov (.t 0)),
   .op (some 7) (.lenS (.t 6)),
   .op (some 8) (.mov (.t 1)),
   .op (some 9) (.lenS (.t 8)),
   .op (some 10) (.bin .neq (.t 7) (.t 9))])
  (.keep [0, 1, 10] (.cond (.t 10)
  (.seq (.ops [.op (some 4) (.mov (.k (.bool false)))])
   (.keep [4] (.ret)))
  (.skip))))
 (.keep [0, 1] (.seq (.seq (.ops [.op (some 5) (.mov (.k (.int .i64 0)))])
  (.keep [0, 1, 5] (.block 0 (.loop (.seq (.seq (.ops [.op (some 11) (.mov (.t 5)),
     .op (some 12) (.mov (.t 0)),
     .op (some 13) (.lenS (.t 12)),
     .op (some 14) (.bin .lss (.t 11) (.t 13))])
   (.keep [0, 1, 5, 14] (.cond (.t 14)
    (.skip)
    (.exit 0))))
   (.keep [0, 1, 5] (.seq (.block 1 (.seq (.draw [.op (some 17) (.mov (.t 0)),
     .op (some 18) (.mov (.t 5)),
     .op (some 19) (.iadr 1 (.t 17) (.t 18)),
     .op (some 20) (.load1 (.t 19)),
     .op (some 21) (.mov (.t 1)),
     .op (some 22) (.mov (.t 5)),
     .op (some 23) (.iadr 1 (.t 21) (.t 22)),
     .op (some 24) (.load1 (.t 23)),
     .op (some 25) (.bin .neq (.t 20) (.t 24))])
    (.keep [0, 1, 5, 25] (.cond (.t 25)
    (.seq (.ops [.op (some 4) (.mov (.k (.bool false)))])
     (.keep [4] (.ret)))
    (.skip)))))
   (.keep [0, 1, 5] (.ops [.op (some 15) (.mov (.t 5)),
    .op (some 16) (.bin .add (.t 15) (.k (.int .i64 1))),
    .op (some 5) (.mov (.t 16))])))))))))
 (.keep [] (.seq (.ops [.op (some 4) (.mov (.k (.bool true)))])
 (.keep [4] (.ret))))))))
theorem k_c_eqStringS_fits : fitsF Tryz.prog 116 ⟨26, k_c_eqStringS, [.t 4]⟩ = true := by kernel_rfl
theorem c_eqStringS {xs ys : List Str} (hw : xs.length ≤ 9223372036854775807) : Con Tryz.prog noMv 116 [.d (.sl 1 (xs.map strRow)), .d (.sl 1 (ys.map strRow))] [] (fun r h => r = bool (eqb xs ys) ∧ h = []) := by
 refine con_of2 k_c_eqStringS_fits rfl fun C hP hmv => ?_
 unfold k_c_eqStringS
 refine cx_seq (cx_ops ?_)
 refine ax_q (q_mov rfl) ?_
 refine ax_nil (cx_keep rfl rfl (cx_seq (cx_seq (cx_ops ?_))))
 refine ax_q (q_mov rfl) ?_
 refine ax_q (q_lenS_map rfl) ?_
 refine ax_q (q_mov rfl) ?_
 refine ax_q (q_lenS_map rfl) ?_
 refine ax_q (q_ibin rfl rfl rfl) ?_
 refine ax_nil (cx_keep rfl rfl ?_)
 refine cx_cond rfl (fun h0 => ?_) (fun h0 => ?_)
 ·
  have h0 := nT h0
  refine cx_seq (cx_ops ?_)
  refine ax_q (q_mov rfl) ?_
  refine ax_nil (cx_keep rfl rfl ?_)
  refine cx_ret (ret0 rfl rfl ?_)
  exact ⟨congrArg AM.bool (eqb_f (fun h => h0 (by rw [h]))).symm, rfl⟩
 ·
  have h0 := nF h0
  refine cx_skip ?_
  refine cx_keep rfl rfl (cx_seq (cx_seq (cx_ops ?_)))
  refine ax_q (q_mov rfl) ?_
  refine ax_nil (cx_keep rfl rfl (cx_block ?_))
  have hl : xs.length = ys.length := by omega
  refine cx_loopU (fun n k => k ≤ xs.length ∧ n = xs.length - k ∧ xs.take k = ys.take k) (fun k : Nat => [(5, int k)]) (fun _ => []) ⟨_, 0, ⟨Nat.zero_le _, rfl, rfl⟩, by repeat constructor⟩ ?_
  rintro n k ⟨hk, rfl, ht⟩
  refine cx_seq (cx_seq (cx_ops ?_))
  refine ax_q (q_mov rfl) ?_
  refine ax_q (q_mov rfl) ?_
  refine ax_q (q_lenS_map rfl) ?_
  refine ax_q (q_ibin rfl rfl rfl) ?_
  refine ax_nil (cx_keep rfl rfl ?_)
  refine cx_cond rfl (fun h1 => ?_) (fun h1 => ?_)
  ·
   have h1 := dT h1
   have h1x : k < xs.length := by omega
   have h1y : k < ys.length := by omega
   refine cx_skip ?_
   refine cx_keep rfl rfl (cx_seq (cx_block (cx_seq (cx_draw ?_))))
   refine ax_q (q_mov rfl) ?_
   refine ax_q (q_mov rfl) ?_
   refine ax_q (q_ix rfl rfl (mapAt h1x)) ?_
   first | refine ax_q (q_load1_ptr rfl rfl rfl) ?_ | refine ax_q (q_load1_ip rfl) ?_
   refine ax_q (q_mov rfl) ?_
   refine ax_q (q_mov rfl) ?_
   refine ax_q (q_ix rfl rfl (mapAt h1y)) ?_
   first | refine ax_q (q_load1_ptr rfl rfl rfl) ?_ | refine ax_q (q_load1_ip rfl) ?_
   refine ax_q (q_sbin rfl rfl rfl) ?_
   refine ax_nil (cx_keep rfl rfl ?_)
   refine cx_cond rfl (fun h2 => ?_) (fun h2 => ?_)
   ·
    have h2 := nT h2
    have h2 : xs[k] ≠ ys[k] := h2
    refine cx_seq (cx_ops ?_)
    refine ax_q (q_mov rfl) ?_
    refine ax_nil (cx_keep rfl rfl ?_)
    refine cx_ret (ret0 rfl rfl ?_)
    exact ⟨congrArg AM.bool (eqbL_no h1x h1y (eqb_f h2)).symm, rfl⟩
   ·
    have h2 := nF h2
    have h2 : xs[k] = ys[k] := h2
    refine cx_skip ?_
    refine cx_keep rfl rfl (cx_ops ?_)
    refine ax_q (q_mov rfl) ?_
    refine ax_q (q_add rfl rfl (by omega)) ?_
    refine ax_q (q_mov rfl) ?_
    refine ax_nil ?_
    exact ⟨_, k + 1, by omega, ⟨by omega, rfl, take_step h1x h1y ht h2⟩, by repeat constructor⟩
  ·
   have h1 := dF h1
   refine cx_exit rfl ?_
   refine cx_keep rfl rfl (cx_seq (cx_ops ?_))
   refine ax_q (q_mov rfl) ?_
   refine ax_nil (cx_keep rfl rfl ?_)
   refine cx_ret (ret0 rfl rfl ?_)
   exact ⟨congrArg AM.bool (eqb_t (eq_of_take hl (by rwa [show k = xs.length from by omega] at ht))).symm, rfl⟩


/- loop.example/g00332/laws.eqPending -/
def k_c_eqPending : XCode :=
 .seq (.ops [.op (some 2) (.box (.t 0)),
   .op (some 3) (.box (.t 1)),
   .op (some 4) (.mov (.k (.bool false)))])
 (.keep [2, 3] (.seq (.seq (.ops [.op (some 5) (.fadr (.t 2) 0),
   .op (some 6) (.load1 (.t 5)),
   .op (some 7) (.fadr (.t 3) 0),
   .op (some 8) (.load1 (.t 7)),
   .op (some 9) (.bin .neq (.t 6) (.t 8))])
  (.keep [2, 3, 9] (.cond (.t 9)
  (.seq (.ops [.op (some 4) (.mov (.k (.bool false)))])
   (.keep [4] (.ret)))
  (.skip))))
 (.keep [2, 3] (.seq (.seq (.ops [.op (some 10) (.fadr (.t 2) 1),
   .op (some 11) (.load1 (.t 10)),
   .op (some 12) (.fadr (.t 3) 1),
   .op (some 13) (.load1 (.t 12)),
   .op (some 14) (.bin .neq (.t 11) (.t 13))])
  (.keep [14] (.cond (.t 14)
  (.seq (.ops [.op (some 4) (.mov (.k (.bool false)))])
   (.keep [4] (.ret)))
  (.skip))))
 (.keep [] (.seq (.ops [.op (some 4) (.mov (.k (.bool true)))])
 (.keep [4] (.ret))))))))
theorem k_c_eqPending_fits : fitsF Tryz.prog 194 ⟨15, k_c_eqPending, [.t 4]⟩ = true := by kernel_rfl
theorem c_eqPending {a b : GPending}  : Con Tryz.prog noMv 194 [a.av, b.av] [] (fun r h => r = bool (eqb a b) ∧ h = []) := by
 refine con_of2 k_c_eqPending_fits rfl fun C hP hmv => ?_
 unfold k_c_eqPending
 refine cx_seq (cx_ops ?_)
 refine ax_e (e_box rfl rfl (by decide) rfl rfl rfl) ?_
 refine ax_e (e_box rfl rfl (by decide) rfl rfl rfl) ?_
 refine ax_q (q_mov rfl) ?_
 refine ax_nil (cx_keep rfl rfl (cx_seq (cx_seq (cx_ops ?_))))
 refine ax_q (q_fadr_ptr rfl) ?_
 refine ax_q (q_load1_ptr rfl rfl rfl) ?_
 refine ax_q (q_fadr_ptr rfl) ?_
 refine ax_q (q_load1_ptr rfl rfl rfl) ?_
 refine ax_q (q_ibin rfl rfl rfl) ?_
 refine ax_nil (cx_keep rfl rfl ?_)
 refine cx_cond rfl (fun h0 => ?_) (fun h0 => ?_)
 ·
  have h0 := nT h0
  refine cx_seq (cx_ops ?_)
  refine ax_q (q_mov rfl) ?_
  refine ax_nil (cx_keep rfl rfl ?_)
  refine cx_ret (ret0 rfl rfl ?_)
  exact ⟨congrArg AM.bool (eqb_f (fun h => h0 (by rw [h]))).symm, rfl⟩
 ·
  have h0 := nF h0
  refine cx_skip ?_
  refine cx_keep rfl rfl (cx_seq (cx_seq (cx_ops ?_)))
  refine ax_q (q_fadr_ptr rfl) ?_
  refine ax_q (q_load1_ptr rfl rfl rfl) ?_
  refine ax_q (q_fadr_ptr rfl) ?_
  refine ax_q (q_load1_ptr rfl rfl rfl) ?_
  refine ax_q (q_sbin rfl rfl rfl) ?_
  refine ax_nil (cx_keep rfl rfl ?_)
  refine cx_cond rfl (fun h1 => ?_) (fun h1 => ?_)
  ·
   have h1 := nT h1
   refine cx_seq (cx_ops ?_)
   refine ax_q (q_mov rfl) ?_
   refine ax_nil (cx_keep rfl rfl ?_)
   refine cx_ret (ret0 rfl rfl ?_)
   exact ⟨congrArg AM.bool (eqb_f (fun h => h1 (by rw [h]))).symm, rfl⟩
  ·
   have h1 := nF h1
   refine cx_skip ?_
   refine cx_keep rfl rfl (cx_seq (cx_ops ?_))
   refine ax_q (q_mov rfl) ?_
   refine ax_nil (cx_keep rfl rfl ?_)
   refine cx_ret (ret0 rfl rfl ?_)
   exact ⟨congrArg AM.bool (eqb_t (GPending.ext1 h0 h1)).symm, rfl⟩


/- loop.example/g00332/laws.eqPendingS -/
def k_c_eqPendingS : XCode :=
 .seq (.ops [.op (some 4) (.mov (.k (.bool false)))])
 (.keep [0, 1] (.seq (.seq (.ops [.op (some 6) (.mov (.t 0)),
   .op (some 7) (.lenS (.t 6)),
   .op (some 8) (.mov (.t 1)),
   .op (some 9) (.lenS (.t 8)),
   .op (some 10) (.bin .neq (.t 7) (.t 9))])
  (.keep [0, 1, 10] (.cond (.t 10)
  (.seq (.ops [.op (some 4) (.mov (.k (.bool false)))])
   (.keep [4] (.ret)))
  (.skip))))
 (.keep [0, 1] (.seq (.seq (.ops [.op (some 5) (.mov (.k (.int .i64 0)))])
  (.keep [0, 1, 5] (.block 0 (.loop (.seq (.seq (.ops [.op (some 11) (.mov (.t 5)),
     .op (some 12) (.mov (.t 0)),
     .op (some 13) (.lenS (.t 12)),
     .op (some 14) (.bin .lss (.t 11) (.t 13))])
   (.keep [0, 1, 5, 14] (.cond (.t 14)
    (.skip)
    (.exit 0))))
   (.keep [0, 1, 5] (.seq (.block 1 (.seq (.draw [.op (some 17) (.mov (.t 0)),
     .op (some 18) (.mov (.t 5)),
     .op (some 19) (.iadr 2 (.t 17) (.t 18)),
     .op (some 20) (.loadN 2 (.t 19)),
     .op (some 21) (.mov (.t 1)),
     .op (some 22) (.mov (.t 5)),
     .op (some 23) (.iadr 2 (.t 21) (.t 22)),
     .op (some 24) (.loadN 2 (.t 23)),
     .call (some 25) 194 [.t 20, .t 24],
     .op (some 26) (.not (.t 25))])
    (.keep [0, 1, 5, 26] (.cond (.t 26)
    (.seq (.ops [.op (some 4) (.mov (.k (.bool false)))])
     (.keep [4] (.ret)))
    (.skip)))))
   (.keep [0, 1, 5] (.ops [.op (some 15) (.mov (.t 5)),
    .op (some 16) (.bin .add (.t 15) (.k (.int .i64 1))),
    .op (some 5) (.mov (.t 16))])))))))))
 (.keep [] (.seq (.ops [.op (some 4) (.mov (.k (.bool true)))])
 (.keep [4] (.ret))))))))
theorem k_c_eqPendingS_fits : fitsF Tryz.prog 117 ⟨27, k_c_eqPendingS, [.t 4]⟩ = true := by kernel_rfl
theorem c_eqPendingS {xs ys : List GPending} (hw : xs.length ≤ 9223372036854775807) : Con Tryz.prog noMv 117 [.d (.sl 2 (xs.map GPending.row)), .d (.sl 2 (ys.map GPending.row))] [] (fun r h => r = bool (eqb xs ys) ∧ h = []) := by
 refine con_of2 k_c_eqPendingS_fits rfl fun C hP hmv => ?_
 unfold k_c_eqPendingS
 refine cx_seq (cx_ops ?_)
 refine ax_q (q_mov rfl) ?_
 refine ax_nil (cx_keep rfl rfl (cx_seq (cx_seq (cx_ops ?_))))
 refine ax_q (q_mov rfl) ?_
 refine ax_q (q_lenS_map rfl) ?_
 refine ax_q (q_mov rfl) ?_
 refine ax_q (q_lenS_map rfl) ?_
 refine ax_q (q_ibin rfl rfl rfl) ?_
 refine ax_nil (cx_keep rfl rfl ?_)
 refine cx_cond rfl (fun h0 => ?_) (fun h0 => ?_)
 ·
  have h0 := nT h0
  refine cx_seq (cx_ops ?_)
  refine ax_q (q_mov rfl) ?_
  refine ax_nil (cx_keep rfl rfl ?_)
  refine cx_ret (ret0 rfl rfl ?_)
  exact ⟨congrArg AM.bool (eqb_f (fun h => h0 (by rw [h]))).symm, rfl⟩
 ·
  have h0 := nF h0
  refine cx_skip ?_
  refine cx_keep rfl rfl (cx_seq (cx_seq (cx_ops ?_)))
  refine ax_q (q_mov rfl) ?_
  refine ax_nil (cx_keep rfl rfl (cx_block ?_))
  have hl : xs.length = ys.length := by omega
  refine cx_loopU (fun n k => k ≤ xs.length ∧ n = xs.length - k ∧ xs.take k = ys.take k) (fun k : Nat => [(5, int k)]) (fun _ => []) ⟨_, 0, ⟨Nat.zero_le _, rfl, rfl⟩, by repeat constructor⟩ ?_
  rintro n k ⟨hk, rfl, ht⟩
  refine cx_seq (cx_seq (cx_ops ?_))
  refine ax_q (q_mov rfl) ?_
  refine ax_q (q_mov rfl) ?_
  refine ax_q (q_lenS_map rfl) ?_
  refine ax_q (q_ibin rfl rfl rfl) ?_
  refine ax_nil (cx_keep rfl rfl ?_)
  refine cx_cond rfl (fun h1 => ?_) (fun h1 => ?_)
  ·
   have h1 := dT h1
   have h1x : k < xs.length := by omega
   have h1y : k < ys.length := by omega
   refine cx_skip ?_
   refine cx_keep rfl rfl (cx_seq (cx_block (cx_seq (cx_draw ?_))))
   refine ax_q (q_mov rfl) ?_
   refine ax_q (q_mov rfl) ?_
   refine ax_q (q_ix rfl rfl (mapAt h1x)) ?_
   first | refine ax_q (q_ldN rfl rfl rfl) ?_ | refine ax_q (q_loadN_ip rfl (Nat.le_refl _)) ?_
   refine ax_q (q_mov rfl) ?_
   refine ax_q (q_mov rfl) ?_
   refine ax_q (q_ix rfl rfl (mapAt h1y)) ?_
   first | refine ax_q (q_ldN rfl rfl rfl) ?_ | refine ax_q (q_loadN_ip rfl (Nat.le_refl _)) ?_
   refine ax_callq rfl (c_eqPending) hP (lal_id _ rfl) rfl ?_
   refine ax_q (q_not rfl) ?_
   refine ax_nil (cx_keep rfl rfl ?_)
   refine cx_cond rfl (fun h2 => ?_) (fun h2 => ?_)
   ·
    have h2 := bT h2
    refine cx_seq (cx_ops ?_)
    refine ax_q (q_mov rfl) ?_
    refine ax_nil (cx_keep rfl rfl ?_)
    refine cx_ret (ret0 rfl rfl ?_)
    exact ⟨congrArg AM.bool (eqbL_no h1x h1y h2).symm, rfl⟩
   ·
    have h2 := bF h2
    refine cx_skip ?_
    refine cx_keep rfl rfl (cx_ops ?_)
    refine ax_q (q_mov rfl) ?_
    refine ax_q (q_add rfl rfl (by omega)) ?_
    refine ax_q (q_mov rfl) ?_
    refine ax_nil ?_
    exact ⟨_, k + 1, by omega, ⟨by omega, rfl, eqbL_step h1x h1y ht h2⟩, by repeat constructor⟩
  ·
   have h1 := dF h1
   refine cx_exit rfl ?_
   refine cx_keep rfl rfl (cx_seq (cx_ops ?_))
   refine ax_q (q_mov rfl) ?_
   refine ax_nil (cx_keep rfl rfl ?_)
   refine cx_ret (ret0 rfl rfl ?_)
   exact ⟨congrArg AM.bool (eqb_t (eq_of_take hl (by rwa [show k = xs.length from by omega] at ht))).symm, rfl⟩


/- loop.example/g00332/laws.eqDisk -/
def k_c_eqDisk : XCode :=
 .seq (.ops [.op (some 2) (.box (.t 0)),
   .op (some 3) (.box (.t 1)),
   .op (some 4) (.mov (.k (.bool false)))])
 (.keep [2, 3] (.seq (.seq (.ops [.op (some 5) (.fadr (.t 2) 0),
   .op (some 6) (.load1 (.t 5)),
   .op (some 7) (.fadr (.t 3) 0),
   .op (some 8) (.load1 (.t 7)),
   .call (some 9) 116 [.t 6, .t 8],
   .op (some 10) (.not (.t 9))])
  (.keep [2, 3, 10] (.cond (.t 10)
  (.seq (.ops [.op (some 4) (.mov (.k (.bool false)))])
   (.keep [4] (.ret)))
  (.skip))))
 (.keep [2, 3] (.seq (.seq (.ops [.op (some 11) (.fadr (.t 2) 1),
   .op (some 12) (.load1 (.t 11)),
   .op (some 13) (.fadr (.t 3) 1),
   .op (some 14) (.load1 (.t 13)),
   .call (some 15) 117 [.t 12, .t 14],
   .op (some 16) (.not (.t 15))])
  (.keep [2, 3, 16] (.cond (.t 16)
  (.seq (.ops [.op (some 4) (.mov (.k (.bool false)))])
   (.keep [4] (.ret)))
  (.skip))))
 (.keep [2, 3] (.seq (.seq (.ops [.op (some 17) (.fadr (.t 2) 2),
   .op (some 18) (.load1 (.t 17)),
   .op (some 19) (.fadr (.t 3) 2),
   .op (some 20) (.load1 (.t 19)),
   .op (some 21) (.eqb true (.t 18) (.t 20))])
  (.keep [2, 3, 21] (.cond (.t 21)
  (.seq (.ops [.op (some 4) (.mov (.k (.bool false)))])
   (.keep [4] (.ret)))
  (.skip))))
 (.keep [2, 3] (.seq (.seq (.ops [.op (some 22) (.fadr (.t 2) 3),
   .op (some 23) (.load1 (.t 22)),
   .op (some 24) (.fadr (.t 3) 3),
   .op (some 25) (.load1 (.t 24)),
   .call (some 26) 18 [.t 23, .t 25],
   .op (some 27) (.not (.t 26))])
  (.keep [27] (.cond (.t 27)
  (.seq (.ops [.op (some 4) (.mov (.k (.bool false)))])
   (.keep [4] (.ret)))
  (.skip))))
 (.keep [] (.seq (.ops [.op (some 4) (.mov (.k (.bool true)))])
 (.keep [4] (.ret))))))))))))
theorem k_c_eqDisk_fits : fitsF Tryz.prog 55 ⟨28, k_c_eqDisk, [.t 4]⟩ = true := by kernel_rfl
theorem c_eqDisk {a b : GDisk} (hw0 : a.Sectors.length ≤ 9223372036854775807) (hw1 : a.Cache.length ≤ 9223372036854775807) (hw2 : a.Keep.length ≤ 9223372036854775807) : Con Tryz.prog noMv 55 [a.av, b.av] [] (fun r h => r = bool (eqb a b) ∧ h = []) := by
 refine con_of2 k_c_eqDisk_fits rfl fun C hP hmv => ?_
 unfold k_c_eqDisk
 refine cx_seq (cx_ops ?_)
 refine ax_e (e_box rfl rfl (by decide) rfl rfl rfl) ?_
 refine ax_e (e_box rfl rfl (by decide) rfl rfl rfl) ?_
 refine ax_q (q_mov rfl) ?_
 refine ax_nil (cx_keep rfl rfl (cx_seq (cx_seq (cx_ops ?_))))
 refine ax_q (q_fadr_ptr rfl) ?_
 refine ax_q (q_load1_ptr rfl rfl rfl) ?_
 refine ax_q (q_fadr_ptr rfl) ?_
 refine ax_q (q_load1_ptr rfl rfl rfl) ?_
 refine ax_call rfl (vc_pure0 (c_eqStringS  ?_) hP rfl rfl ?_)
 ·
  assumption
 refine ax_q (q_not rfl) ?_
 refine ax_nil (cx_keep rfl rfl ?_)
 refine cx_cond rfl (fun h0 => ?_) (fun h0 => ?_)
 ·
  have h0 := bT h0
  refine cx_seq (cx_ops ?_)
  refine ax_q (q_mov rfl) ?_
  refine ax_nil (cx_keep rfl rfl ?_)
  refine cx_ret (ret0 rfl rfl ?_)
  exact ⟨congrArg AM.bool (eqb_f (fun h => by rw [h, eqb_rfl] at h0; cases h0)).symm, rfl⟩
 ·
  have h0 := bF h0
  refine cx_skip ?_
  refine cx_keep rfl rfl (cx_seq (cx_seq (cx_ops ?_)))
  refine ax_q (q_fadr_ptr rfl) ?_
  refine ax_q (q_load1_ptr rfl rfl rfl) ?_
  refine ax_q (q_fadr_ptr rfl) ?_
  refine ax_q (q_load1_ptr rfl rfl rfl) ?_
  refine ax_call rfl (vc_pure0 (c_eqPendingS  ?_) hP rfl rfl ?_)
  ·
   assumption
  refine ax_q (q_not rfl) ?_
  refine ax_nil (cx_keep rfl rfl ?_)
  refine cx_cond rfl (fun h1 => ?_) (fun h1 => ?_)
  ·
   have h1 := bT h1
   refine cx_seq (cx_ops ?_)
   refine ax_q (q_mov rfl) ?_
   refine ax_nil (cx_keep rfl rfl ?_)
   refine cx_ret (ret0 rfl rfl ?_)
   exact ⟨congrArg AM.bool (eqb_f (fun h => by rw [h, eqb_rfl] at h1; cases h1)).symm, rfl⟩
  ·
   have h1 := bF h1
   refine cx_skip ?_
   refine cx_keep rfl rfl (cx_seq (cx_seq (cx_ops ?_)))
   refine ax_q (q_fadr_ptr rfl) ?_
   refine ax_q (q_load1_ptr rfl rfl rfl) ?_
   refine ax_q (q_fadr_ptr rfl) ?_
   refine ax_q (q_load1_ptr rfl rfl rfl) ?_
   refine ax_q (q_eqb rfl rfl) ?_
   refine ax_nil (cx_keep rfl rfl ?_)
   refine cx_cond rfl (fun h2 => ?_) (fun h2 => ?_)
   ·
    have h2 := bneT h2
    refine cx_seq (cx_ops ?_)
    refine ax_q (q_mov rfl) ?_
    refine ax_nil (cx_keep rfl rfl ?_)
    refine cx_ret (ret0 rfl rfl ?_)
    exact ⟨congrArg AM.bool (eqb_f (fun h => h2 (by rw [h]))).symm, rfl⟩
   ·
    have h2 := bneF h2
    refine cx_skip ?_
    refine cx_keep rfl rfl (cx_seq (cx_seq (cx_ops ?_)))
    refine ax_q (q_fadr_ptr rfl) ?_
    refine ax_q (q_load1_ptr rfl rfl rfl) ?_
    refine ax_q (q_fadr_ptr rfl) ?_
    refine ax_q (q_load1_ptr rfl rfl rfl) ?_
    refine ax_call rfl (vc_pure0 (c_eqIntS  ?_) hP rfl rfl ?_)
    ·
     assumption
    refine ax_q (q_not rfl) ?_
    refine ax_nil (cx_keep rfl rfl ?_)
    refine cx_cond rfl (fun h3 => ?_) (fun h3 => ?_)
    ·
     have h3 := bT h3
     refine cx_seq (cx_ops ?_)
     refine ax_q (q_mov rfl) ?_
     refine ax_nil (cx_keep rfl rfl ?_)
     refine cx_ret (ret0 rfl rfl ?_)
     exact ⟨congrArg AM.bool (eqb_f (fun h => by rw [h, eqb_rfl] at h3; cases h3)).symm, rfl⟩
    ·
     have h3 := bF h3
     refine cx_skip ?_
     refine cx_keep rfl rfl (cx_seq (cx_ops ?_))
     refine ax_q (q_mov rfl) ?_
     refine ax_nil (cx_keep rfl rfl ?_)
     refine cx_ret (ret0 rfl rfl ?_)
     exact ⟨congrArg AM.bool (eqb_t (GDisk.ext1 (eqb_iff.1 h0) (eqb_iff.1 h1) h2 (eqb_iff.1 h3))).symm, rfl⟩


/- loop.example/g00332/laws.eqLogRecord -/
def k_c_eqLogRecord : XCode :=
 .seq (.ops [.op (some 2) (.box (.t 0)),
   .op (some 3) (.box (.t 1)),
   .op (some 4) (.mov (.k (.bool false)))])
 (.keep [2, 3] (.seq (.seq (.ops [.op (some 5) (.fadr (.t 2) 0),
   .op (some 6) (.load1 (.t 5)),
   .op (some 7) (.fadr (.t 3) 0),
   .op (some 8) (.load1 (.t 7)),
   .op (some 9) (.bin .neq (.t 6) (.t 8))])
  (.keep [2, 3, 9] (.cond (.t 9)
  (.seq (.ops [.op (some 4) (.mov (.k (.bool false)))])
   (.keep [4] (.ret)))
  (.skip))))
 (.keep [2, 3] (.seq (.seq (.ops [.op (some 10) (.fadr (.t 2) 1),
   .op (some 11) (.load1 (.t 10)),
   .op (some 12) (.fadr (.t 3) 1),
   .op (some 13) (.load1 (.t 12)),
   .op (some 14) (.bin .neq (.t 11) (.t 13))])
  (.keep [2, 3, 14] (.cond (.t 14)
  (.seq (.ops [.op (some 4) (.mov (.k (.bool false)))])
   (.keep [4] (.ret)))
  (.skip))))
 (.keep [2, 3] (.seq (.seq (.ops [.op (some 15) (.fadr (.t 2) 2),
   .op (some 16) (.load1 (.t 15)),
   .op (some 17) (.fadr (.t 3) 2),
   .op (some 18) (.load1 (.t 17)),
   .op (some 19) (.bin .neq (.t 16) (.t 18))])
  (.keep [2, 3, 19] (.cond (.t 19)
  (.seq (.ops [.op (some 4) (.mov (.k (.bool false)))])
   (.keep [4] (.ret)))
  (.skip))))
 (.keep [2, 3] (.seq (.seq (.ops [.op (some 20) (.fadr (.t 2) 3),
   .op (some 21) (.load1 (.t 20)),
   .op (some 22) (.fadr (.t 3) 3),
   .op (some 23) (.load1 (.t 22)),
   .op (some 24) (.bin .neq (.t 21) (.t 23))])
  (.keep [2, 3, 24] (.cond (.t 24)
  (.seq (.ops [.op (some 4) (.mov (.k (.bool false)))])
   (.keep [4] (.ret)))
  (.skip))))
 (.keep [2, 3] (.seq (.seq (.ops [.op (some 25) (.fadr (.t 2) 4),
   .op (some 26) (.load1 (.t 25)),
   .op (some 27) (.fadr (.t 3) 4),
   .op (some 28) (.load1 (.t 27)),
   .op (some 29) (.bin .neq (.t 26) (.t 28))])
  (.keep [2, 3, 29] (.cond (.t 29)
  (.seq (.ops [.op (some 4) (.mov (.k (.bool false)))])
   (.keep [4] (.ret)))
  (.skip))))
 (.keep [2, 3] (.seq (.seq (.ops [.op (some 30) (.fadr (.t 2) 5),
   .op (some 31) (.load1 (.t 30)),
   .op (some 32) (.fadr (.t 3) 5),
   .op (some 33) (.load1 (.t 32)),
   .op (some 34) (.bin .neq (.t 31) (.t 33))])
  (.keep [2, 3, 34] (.cond (.t 34)
  (.seq (.ops [.op (some 4) (.mov (.k (.bool false)))])
   (.keep [4] (.ret)))
  (.skip))))
 (.keep [2, 3] (.seq (.seq (.ops [.op (some 35) (.fadr (.t 2) 6),
   .op (some 36) (.load1 (.t 35)),
   .op (some 37) (.fadr (.t 3) 6),
   .op (some 38) (.load1 (.t 37)),
   .op (some 39) (.bin .neq (.t 36) (.t 38))])
  (.keep [2, 3, 39] (.cond (.t 39)
  (.seq (.ops [.op (some 4) (.mov (.k (.bool false)))])
   (.keep [4] (.ret)))
  (.skip))))
 (.keep [2, 3] (.seq (.seq (.ops [.op (some 40) (.fadr (.t 2) 7),
   .op (some 41) (.load1 (.t 40)),
   .op (some 42) (.fadr (.t 3) 7),
   .op (some 43) (.load1 (.t 42)),
   .op (some 44) (.bin .neq (.t 41) (.t 43))])
  (.keep [2, 3, 44] (.cond (.t 44)
  (.seq (.ops [.op (some 4) (.mov (.k (.bool false)))])
   (.keep [4] (.ret)))
  (.skip))))
 (.keep [2, 3] (.seq (.seq (.ops [.op (some 45) (.fadr (.t 2) 8),
   .op (some 46) (.load1 (.t 45)),
   .op (some 47) (.fadr (.t 3) 8),
   .op (some 48) (.load1 (.t 47)),
   .op (some 49) (.bin .neq (.t 46) (.t 48))])
  (.keep [2, 3, 49] (.cond (.t 49)
  (.seq (.ops [.op (some 4) (.mov (.k (.bool false)))])
   (.keep [4] (.ret)))
  (.skip))))
 (.keep [2, 3] (.seq (.seq (.ops [.op (some 50) (.fadr (.t 2) 9),
   .op (some 51) (.load1 (.t 50)),
   .op (some 52) (.fadr (.t 3) 9),
   .op (some 53) (.load1 (.t 52)),
   .op (some 54) (.bin .neq (.t 51) (.t 53))])
  (.keep [54] (.cond (.t 54)
  (.seq (.ops [.op (some 4) (.mov (.k (.bool false)))])
   (.keep [4] (.ret)))
  (.skip))))
 (.keep [] (.seq (.ops [.op (some 4) (.mov (.k (.bool true)))])
 (.keep [4] (.ret))))))))))))))))))))))))
theorem k_c_eqLogRecord_fits : fitsF Tryz.prog 118 ⟨55, k_c_eqLogRecord, [.t 4]⟩ = true := by kernel_rfl
theorem c_eqLogRecord {a b : GLogRecord}  : Con Tryz.prog noMv 118 [a.av, b.av] [] (fun r h => r = bool (eqb a b) ∧ h = []) := by
 refine con_of2 k_c_eqLogRecord_fits rfl fun C hP hmv => ?_
 unfold k_c_eqLogRecord
 refine cx_seq (cx_ops ?_)
 refine ax_e (e_box rfl rfl (by decide) rfl rfl rfl) ?_
 refine ax_e (e_box rfl rfl (by decide) rfl rfl rfl) ?_
 refine ax_q (q_mov rfl) ?_
 refine ax_nil (cx_keep rfl rfl (cx_seq (cx_seq (cx_ops ?_))))
 refine ax_q (q_fadr_ptr rfl) ?_
 refine ax_q (q_load1_ptr rfl rfl rfl) ?_
 refine ax_q (q_fadr_ptr rfl) ?_
 refine ax_q (q_load1_ptr rfl rfl rfl) ?_
 refine ax_q (q_ibin rfl rfl rfl) ?_
 refine ax_nil (cx_keep rfl rfl ?_)
 refine cx_cond rfl (fun h0 => ?_) (fun h0 => ?_)
 ·
  have h0 := nT h0
  refine cx_seq (cx_ops ?_)
  refine ax_q (q_mov rfl) ?_
  refine ax_nil (cx_keep rfl rfl ?_)
  refine cx_ret (ret0 rfl rfl ?_)
  exact ⟨congrArg AM.bool (eqb_f (fun h => h0 (by rw [h]))).symm, rfl⟩
 ·
  have h0 := nF h0
  refine cx_skip ?_
  refine cx_keep rfl rfl (cx_seq (cx_seq (cx_ops ?_)))
  refine ax_q (q_fadr_ptr rfl) ?_
  refine ax_q (q_load1_ptr rfl rfl rfl) ?_
  refine ax_q (q_fadr_ptr rfl) ?_
  refine ax_q (q_load1_ptr rfl rfl rfl) ?_
  refine ax_q (q_ibin rfl rfl rfl) ?_
  refine ax_nil (cx_keep rfl rfl ?_)
  refine cx_cond rfl (fun h1 => ?_) (fun h1 => ?_)
  ·
   have h1 := nT h1
   refine cx_seq (cx_ops ?_)
   refine ax_q (q_mov rfl) ?_
   refine ax_nil (cx_keep rfl rfl ?_)
   refine cx_ret (ret0 rfl rfl ?_)
   exact ⟨congrArg AM.bool (eqb_f (fun h => h1 (by rw [h]))).symm, rfl⟩
  ·
   have h1 := nF h1
   refine cx_skip ?_
   refine cx_keep rfl rfl (cx_seq (cx_seq (cx_ops ?_)))
   refine ax_q (q_fadr_ptr rfl) ?_
   refine ax_q (q_load1_ptr rfl rfl rfl) ?_
   refine ax_q (q_fadr_ptr rfl) ?_
   refine ax_q (q_load1_ptr rfl rfl rfl) ?_
   refine ax_q (q_ibin rfl rfl rfl) ?_
   refine ax_nil (cx_keep rfl rfl ?_)
   refine cx_cond rfl (fun h2 => ?_) (fun h2 => ?_)
   ·
    have h2 := nT h2
    refine cx_seq (cx_ops ?_)
    refine ax_q (q_mov rfl) ?_
    refine ax_nil (cx_keep rfl rfl ?_)
    refine cx_ret (ret0 rfl rfl ?_)
    exact ⟨congrArg AM.bool (eqb_f (fun h => h2 (by rw [h]))).symm, rfl⟩
   ·
    have h2 := nF h2
    refine cx_skip ?_
    refine cx_keep rfl rfl (cx_seq (cx_seq (cx_ops ?_)))
    refine ax_q (q_fadr_ptr rfl) ?_
    refine ax_q (q_load1_ptr rfl rfl rfl) ?_
    refine ax_q (q_fadr_ptr rfl) ?_
    refine ax_q (q_load1_ptr rfl rfl rfl) ?_
    refine ax_q (q_ibin rfl rfl rfl) ?_
    refine ax_nil (cx_keep rfl rfl ?_)
    refine cx_cond rfl (fun h3 => ?_) (fun h3 => ?_)
    ·
     have h3 := nT h3
     refine cx_seq (cx_ops ?_)
     refine ax_q (q_mov rfl) ?_
     refine ax_nil (cx_keep rfl rfl ?_)
     refine cx_ret (ret0 rfl rfl ?_)
     exact ⟨congrArg AM.bool (eqb_f (fun h => h3 (by rw [h]))).symm, rfl⟩
    ·
     have h3 := nF h3
     refine cx_skip ?_
     refine cx_keep rfl rfl (cx_seq (cx_seq (cx_ops ?_)))
     refine ax_q (q_fadr_ptr rfl) ?_
     refine ax_q (q_load1_ptr rfl rfl rfl) ?_
     refine ax_q (q_fadr_ptr rfl) ?_
     refine ax_q (q_load1_ptr rfl rfl rfl) ?_
     refine ax_q (q_ibin rfl rfl rfl) ?_
     refine ax_nil (cx_keep rfl rfl ?_)
     refine cx_cond rfl (fun h4 => ?_) (fun h4 => ?_)
     ·
      have h4 := nT h4
      refine cx_seq (cx_ops ?_)
      refine ax_q (q_mov rfl) ?_
      refine ax_nil (cx_keep rfl rfl ?_)
      refine cx_ret (ret0 rfl rfl ?_)
      exact ⟨congrArg AM.bool (eqb_f (fun h => h4 (by rw [h]))).symm, rfl⟩
     ·
      have h4 := nF h4
      refine cx_skip ?_
      refine cx_keep rfl rfl (cx_seq (cx_seq (cx_ops ?_)))
      refine ax_q (q_fadr_ptr rfl) ?_
      refine ax_q (q_load1_ptr rfl rfl rfl) ?_
      refine ax_q (q_fadr_ptr rfl) ?_
      refine ax_q (q_load1_ptr rfl rfl rfl) ?_
      refine ax_q (q_ibin rfl rfl rfl) ?_
      refine ax_nil (cx_keep rfl rfl ?_)
      refine cx_cond rfl (fun h5 => ?_) (fun h5 => ?_)
      ·
       have h5 := nT h5
       refine cx_seq (cx_ops ?_)
       refine ax_q (q_mov rfl) ?_
       refine ax_nil (cx_keep rfl rfl ?_)
       refine cx_ret (ret0 rfl rfl ?_)
       exact ⟨congrArg AM.bool (eqb_f (fun h => h5 (by rw [h]))).symm, rfl⟩
      ·
       have h5 := nF h5
       refine cx_skip ?_
       refine cx_keep rfl rfl (cx_seq (cx_seq (cx_ops ?_)))
       refine ax_q (q_fadr_ptr rfl) ?_
       refine ax_q (q_load1_ptr rfl rfl rfl) ?_
       refine ax_q (q_fadr_ptr rfl) ?_
       refine ax_q (q_load1_ptr rfl rfl rfl) ?_
       refine ax_q (q_ibin rfl rfl rfl) ?_
       refine ax_nil (cx_keep rfl rfl ?_)
       refine cx_cond rfl (fun h6 => ?_) (fun h6 => ?_)
       ·
        have h6 := nT h6
        refine cx_seq (cx_ops ?_)
        refine ax_q (q_mov rfl) ?_
        refine ax_nil (cx_keep rfl rfl ?_)
        refine cx_ret (ret0 rfl rfl ?_)
        exact ⟨congrArg AM.bool (eqb_f (fun h => h6 (by rw [h]))).symm, rfl⟩
       ·
        have h6 := nF h6
        refine cx_skip ?_
        refine cx_keep rfl rfl (cx_seq (cx_seq (cx_ops ?_)))
        refine ax_q (q_fadr_ptr rfl) ?_
        refine ax_q (q_load1_ptr rfl rfl rfl) ?_
        refine ax_q (q_fadr_ptr rfl) ?_
        refine ax_q (q_load1_ptr rfl rfl rfl) ?_
        refine ax_q (q_ibin rfl rfl rfl) ?_
        refine ax_nil (cx_keep rfl rfl ?_)
        refine cx_cond rfl (fun h7 => ?_) (fun h7 => ?_)
        ·
         have h7 := nT h7
         refine cx_seq (cx_ops ?_)
         refine ax_q (q_mov rfl) ?_
         refine ax_nil (cx_keep rfl rfl ?_)
         refine cx_ret (ret0 rfl rfl ?_)
         exact ⟨congrArg AM.bool (eqb_f (fun h => h7 (by rw [h]))).symm, rfl⟩
        ·
         have h7 := nF h7
         refine cx_skip ?_
         refine cx_keep rfl rfl (cx_seq (cx_seq (cx_ops ?_)))
         refine ax_q (q_fadr_ptr rfl) ?_
         refine ax_q (q_load1_ptr rfl rfl rfl) ?_
         refine ax_q (q_fadr_ptr rfl) ?_
         refine ax_q (q_load1_ptr rfl rfl rfl) ?_
         refine ax_q (q_sbin rfl rfl rfl) ?_
         refine ax_nil (cx_keep rfl rfl ?_)
         refine cx_cond rfl (fun h8 => ?_) (fun h8 => ?_)
         ·
          have h8 := nT h8
          refine cx_seq (cx_ops ?_)
          refine ax_q (q_mov rfl) ?_
          refine ax_nil (cx_keep rfl rfl ?_)
          refine cx_ret (ret0 rfl rfl ?_)
          exact ⟨congrArg AM.bool (eqb_f (fun h => h8 (by rw [h]))).symm, rfl⟩
         ·
          have h8 := nF h8
          refine cx_skip ?_
          refine cx_keep rfl rfl (cx_seq (cx_seq (cx_ops ?_)))
          refine ax_q (q_fadr_ptr rfl) ?_
          refine ax_q (q_load1_ptr rfl rfl rfl) ?_
          refine ax_q (q_fadr_ptr rfl) ?_
          refine ax_q (q_load1_ptr rfl rfl rfl) ?_
          refine ax_q (q_sbin rfl rfl rfl) ?_
          refine ax_nil (cx_keep rfl rfl ?_)
          refine cx_cond rfl (fun h9 => ?_) (fun h9 => ?_)
          ·
           have h9 := nT h9
           refine cx_seq (cx_ops ?_)
           refine ax_q (q_mov rfl) ?_
           refine ax_nil (cx_keep rfl rfl ?_)
           refine cx_ret (ret0 rfl rfl ?_)
           exact ⟨congrArg AM.bool (eqb_f (fun h => h9 (by rw [h]))).symm, rfl⟩
          ·
           have h9 := nF h9
           refine cx_skip ?_
           refine cx_keep rfl rfl (cx_seq (cx_ops ?_))
           refine ax_q (q_mov rfl) ?_
           refine ax_nil (cx_keep rfl rfl ?_)
           refine cx_ret (ret0 rfl rfl ?_)
           exact ⟨congrArg AM.bool (eqb_t (GLogRecord.ext1 h0 h1 h2 h3 h4 h5 h6 h7 h8 h9)).symm, rfl⟩


/- loop.example/g00332/laws.eqLogRecordS -/
def k_c_eqLogRecordS : XCode :=
 .seq (.ops [.op (some 4) (.mov (.k (.bool false)))])
 (.keep [0, 1] (.seq (.seq (.ops [.op (some 6) (.mov (.t 0)),
   .op (some 7) (.lenS (.t 6)),
   .op (some 8) (.mov (.t 1)),
   .op (some 9) (.lenS (.t 8)),
   .op (some 10) (.bin .neq (.t 7) (.t 9))])
  (.keep [0, 1, 10] (.cond (.t 10)
  (.seq (.ops [.op (some 4) (.mov (.k (.bool false)))])
   (.keep [4] (.ret)))
  (.skip))))
 (.keep [0, 1] (.seq (.seq (.ops [.op (some 5) (.mov (.k (.int .i64 0)))])
  (.keep [0, 1, 5] (.block 0 (.loop (.seq (.seq (.ops [.op (some 11) (.mov (.t 5)),
     .op (some 12) (.mov (.t 0)),
     .op (some 13) (.lenS (.t 12)),
     .op (some 14) (.bin .lss (.t 11) (.t 13))])
   (.keep [0, 1, 5, 14] (.cond (.t 14)
    (.skip)
    (.exit 0))))
   (.keep [0, 1, 5] (.seq (.block 1 (.seq (.draw [.op (some 17) (.mov (.t 0)),
     .op (some 18) (.mov (.t 5)),
     .op (some 19) (.iadr 10 (.t 17) (.t 18)),
     .op (some 20) (.loadN 10 (.t 19)),
     .op (some 21) (.mov (.t 1)),
     .op (some 22) (.mov (.t 5)),
     .op (some 23) (.iadr 10 (.t 21) (.t 22)),
     .op (some 24) (.loadN 10 (.t 23)),
     .call (some 25) 118 [.t 20, .t 24],
     .op (some 26) (.not (.t 25))])
    (.keep [0, 1, 5, 26] (.cond (.t 26)
    (.seq (.ops [.op (some 4) (.mov (.k (.bool false)))])
     (.keep [4] (.ret)))
    (.skip)))))
   (.keep [0, 1, 5] (.ops [.op (some 15) (.mov (.t 5)),
    .op (some 16) (.bin .add (.t 15) (.k (.int .i64 1))),
    .op (some 5) (.mov (.t 16))])))))))))
 (.keep [] (.seq (.ops [.op (some 4) (.mov (.k (.bool true)))])
 (.keep [4] (.ret))))))))
theorem k_c_eqLogRecordS_fits : fitsF Tryz.prog 56 ⟨27, k_c_eqLogRecordS, [.t 4]⟩ = true := by kernel_rfl
theorem c_eqLogRecordS {xs ys : List GLogRecord} (hw : xs.length ≤ 9223372036854775807) : Con Tryz.prog noMv 56 [.d (.sl 10 (xs.map GLogRecord.row)), .d (.sl 10 (ys.map GLogRecord.row))] [] (fun r h => r = bool (eqb xs ys) ∧ h = []) := by
 refine con_of2 k_c_eqLogRecordS_fits rfl fun C hP hmv => ?_
 unfold k_c_eqLogRecordS
 refine cx_seq (cx_ops ?_)
 refine ax_q (q_mov rfl) ?_
 refine ax_nil (cx_keep rfl rfl (cx_seq (cx_seq (cx_ops ?_))))
 refine ax_q (q_mov rfl) ?_
 refine ax_q (q_lenS_map rfl) ?_
 refine ax_q (q_mov rfl) ?_
 refine ax_q (q_lenS_map rfl) ?_
 refine ax_q (q_ibin rfl rfl rfl) ?_
 refine ax_nil (cx_keep rfl rfl ?_)
 refine cx_cond rfl (fun h0 => ?_) (fun h0 => ?_)
 ·
  have h0 := nT h0
  refine cx_seq (cx_ops ?_)
  refine ax_q (q_mov rfl) ?_
  refine ax_nil (cx_keep rfl rfl ?_)
  refine cx_ret (ret0 rfl rfl ?_)
  exact ⟨congrArg AM.bool (eqb_f (fun h => h0 (by rw [h]))).symm, rfl⟩
 ·
  have h0 := nF h0
  refine cx_skip ?_
  refine cx_keep rfl rfl (cx_seq (cx_seq (cx_ops ?_)))
  refine ax_q (q_mov rfl) ?_
  refine ax_nil (cx_keep rfl rfl (cx_block ?_))
  have hl : xs.length = ys.length := by omega
  refine cx_loopU (fun n k => k ≤ xs.length ∧ n = xs.length - k ∧ xs.take k = ys.take k) (fun k : Nat => [(5, int k)]) (fun _ => []) ⟨_, 0, ⟨Nat.zero_le _, rfl, rfl⟩, by repeat constructor⟩ ?_
  rintro n k ⟨hk, rfl, ht⟩
  refine cx_seq (cx_seq (cx_ops ?_))
  refine ax_q (q_mov rfl) ?_
  refine ax_q (q_mov rfl) ?_
  refine ax_q (q_lenS_map rfl) ?_
  refine ax_q (q_ibin rfl rfl rfl) ?_
  refine ax_nil (cx_keep rfl rfl ?_)
  refine cx_cond rfl (fun h1 => ?_) (fun h1 => ?_)
  ·
   have h1 := dT h1
   have h1x : k < xs.length := by omega
   have h1y : k < ys.length := by omega
   refine cx_skip ?_
   refine cx_keep rfl rfl (cx_seq (cx_block (cx_seq (cx_draw ?_))))
   refine ax_q (q_mov rfl) ?_
   refine ax_q (q_mov rfl) ?_
   refine ax_q (q_ix rfl rfl (mapAt h1x)) ?_
   first | refine ax_q (q_ldN rfl rfl rfl) ?_ | refine ax_q (q_loadN_ip rfl (Nat.le_refl _)) ?_
   refine ax_q (q_mov rfl) ?_
   refine ax_q (q_mov rfl) ?_
   refine ax_q (q_ix rfl rfl (mapAt h1y)) ?_
   first | refine ax_q (q_ldN rfl rfl rfl) ?_ | refine ax_q (q_loadN_ip rfl (Nat.le_refl _)) ?_
   refine ax_callq rfl (c_eqLogRecord) hP (lal_id _ rfl) rfl ?_
   refine ax_q (q_not rfl) ?_
   refine ax_nil (cx_keep rfl rfl ?_)
   refine cx_cond rfl (fun h2 => ?_) (fun h2 => ?_)
   ·
    have h2 := bT h2
    refine cx_seq (cx_ops ?_)
    refine ax_q (q_mov rfl) ?_
    refine ax_nil (cx_keep rfl rfl ?_)
    refine cx_ret (ret0 rfl rfl ?_)
    exact ⟨congrArg AM.bool (eqbL_no h1x h1y h2).symm, rfl⟩
   ·
    have h2 := bF h2
    refine cx_skip ?_
    refine cx_keep rfl rfl (cx_ops ?_)
    refine ax_q (q_mov rfl) ?_
    refine ax_q (q_add rfl rfl (by omega)) ?_
    refine ax_q (q_mov rfl) ?_
    refine ax_nil ?_
    exact ⟨_, k + 1, by omega, ⟨by omega, rfl, eqbL_step h1x h1y ht h2⟩, by repeat constructor⟩
  ·
   have h1 := dF h1
   refine cx_exit rfl ?_
   refine cx_keep rfl rfl (cx_seq (cx_ops ?_))
   refine ax_q (q_mov rfl) ?_
   refine ax_nil (cx_keep rfl rfl ?_)
   refine cx_ret (ret0 rfl rfl ?_)
   exact ⟨congrArg AM.bool (eqb_t (eq_of_take hl (by rwa [show k = xs.length from by omega] at ht))).symm, rfl⟩


/- loop.example/g00332/laws.eqPage -/
def k_c_eqPage : XCode :=
 .seq (.ops [.op (some 2) (.box (.t 0)),
   .op (some 3) (.box (.t 1)),
   .op (some 4) (.mov (.k (.bool false)))])
 (.keep [2, 3] (.seq (.seq (.ops [.op (some 5) (.fadr (.t 2) 0),
   .op (some 6) (.load1 (.t 5)),
   .op (some 7) (.fadr (.t 3) 0),
   .op (some 8) (.load1 (.t 7)),
   .op (some 9) (.bin .neq (.t 6) (.t 8))])
  (.keep [2, 3, 9] (.cond (.t 9)
  (.seq (.ops [.op (some 4) (.mov (.k (.bool false)))])
   (.keep [4] (.ret)))
  (.skip))))
 (.keep [2, 3] (.seq (.seq (.ops [.op (some 10) (.fadr (.t 2) 1),
   .op (some 11) (.load1 (.t 10)),
   .op (some 12) (.fadr (.t 3) 1),
   .op (some 13) (.load1 (.t 12)),
   .call (some 14) 116 [.t 11, .t 13],
   .op (some 15) (.not (.t 14))])
  (.keep [15] (.cond (.t 15)
  (.seq (.ops [.op (some 4) (.mov (.k (.bool false)))])
   (.keep [4] (.ret)))
  (.skip))))
 (.keep [] (.seq (.ops [.op (some 4) (.mov (.k (.bool true)))])
 (.keep [4] (.ret))))))))
theorem k_c_eqPage_fits : fitsF Tryz.prog 195 ⟨16, k_c_eqPage, [.t 4]⟩ = true := by kernel_rfl
theorem c_eqPage {a b : Page} (hw0 : a.slots.length ≤ 9223372036854775807) : Con Tryz.prog noMv 195 [a.av, b.av] [] (fun r h => r = bool (eqb a b) ∧ h = []) := by
 refine con_of2 k_c_eqPage_fits rfl fun C hP hmv => ?_
 unfold k_c_eqPage
 refine cx_seq (cx_ops ?_)
 refine ax_e (e_box rfl rfl (by decide) rfl rfl rfl) ?_
 refine ax_e (e_box rfl rfl (by decide) rfl rfl rfl) ?_
 refine ax_q (q_mov rfl) ?_
 refine ax_nil (cx_keep rfl rfl (cx_seq (cx_seq (cx_ops ?_))))
 refine ax_q (q_fadr_ptr rfl) ?_
 refine ax_q (q_load1_ptr rfl rfl rfl) ?_
 refine ax_q (q_fadr_ptr rfl) ?_
 refine ax_q (q_load1_ptr rfl rfl rfl) ?_
 refine ax_q (q_ibin rfl rfl rfl) ?_
 refine ax_nil (cx_keep rfl rfl ?_)
 refine cx_cond rfl (fun h0 => ?_) (fun h0 => ?_)
 ·
  have h0 := nT h0
  refine cx_seq (cx_ops ?_)
  refine ax_q (q_mov rfl) ?_
  refine ax_nil (cx_keep rfl rfl ?_)
  refine cx_ret (ret0 rfl rfl ?_)
  exact ⟨congrArg AM.bool (eqb_f (fun h => h0 (by rw [h]))).symm, rfl⟩
 ·
  have h0 := nF h0
  refine cx_skip ?_
  refine cx_keep rfl rfl (cx_seq (cx_seq (cx_ops ?_)))
  refine ax_q (q_fadr_ptr rfl) ?_
  refine ax_q (q_load1_ptr rfl rfl rfl) ?_
  refine ax_q (q_fadr_ptr rfl) ?_
  refine ax_q (q_load1_ptr rfl rfl rfl) ?_
  refine ax_call rfl (vc_pure0 (c_eqStringS  ?_) hP rfl rfl ?_)
  ·
   assumption
  refine ax_q (q_not rfl) ?_
  refine ax_nil (cx_keep rfl rfl ?_)
  refine cx_cond rfl (fun h1 => ?_) (fun h1 => ?_)
  ·
   have h1 := bT h1
   refine cx_seq (cx_ops ?_)
   refine ax_q (q_mov rfl) ?_
   refine ax_nil (cx_keep rfl rfl ?_)
   refine cx_ret (ret0 rfl rfl ?_)
   exact ⟨congrArg AM.bool (eqb_f (fun h => by rw [h, eqb_rfl] at h1; cases h1)).symm, rfl⟩
  ·
   have h1 := bF h1
   refine cx_skip ?_
   refine cx_keep rfl rfl (cx_seq (cx_ops ?_))
   refine ax_q (q_mov rfl) ?_
   refine ax_nil (cx_keep rfl rfl ?_)
   refine cx_ret (ret0 rfl rfl ?_)
   exact ⟨congrArg AM.bool (eqb_t (page_ext h0 (eqb_iff.1 h1))).symm, rfl⟩


/- loop.example/g00332/laws.eqFrame -/
def k_c_eqFrame : XCode :=
 .seq (.ops [.op (some 2) (.box (.t 0)),
   .op (some 3) (.box (.t 1)),
   .op (some 4) (.mov (.k (.bool false)))])
 (.keep [2, 3] (.seq (.seq (.ops [.op (some 5) (.fadr (.t 2) 0),
   .op (some 6) (.load1 (.t 5)),
   .op (some 7) (.fadr (.t 3) 0),
   .op (some 8) (.load1 (.t 7)),
   .op (some 9) (.bin .neq (.t 6) (.t 8))])
  (.keep [2, 3, 9] (.cond (.t 9)
  (.seq (.ops [.op (some 4) (.mov (.k (.bool false)))])
   (.keep [4] (.ret)))
  (.skip))))
 (.keep [2, 3] (.seq (.seq (.ops [.op (some 10) (.fadr (.t 2) 1),
   .op (some 11) (.loadN 2 (.t 10)),
   .op (some 12) (.fadr (.t 3) 1),
   .op (some 13) (.loadN 2 (.t 12)),
   .call (some 14) 195 [.t 11, .t 13],
   .op (some 15) (.not (.t 14))])
  (.keep [2, 3, 15] (.cond (.t 15)
  (.seq (.ops [.op (some 4) (.mov (.k (.bool false)))])
   (.keep [4] (.ret)))
  (.skip))))
 (.keep [2, 3] (.seq (.seq (.ops [.op (some 16) (.fadr (.t 2) 3),
   .op (some 17) (.load1 (.t 16)),
   .op (some 18) (.fadr (.t 3) 3),
   .op (some 19) (.load1 (.t 18)),
   .op (some 20) (.eqb true (.t 17) (.t 19))])
  (.keep [2, 3, 20] (.cond (.t 20)
  (.seq (.ops [.op (some 4) (.mov (.k (.bool false)))])
   (.keep [4] (.ret)))
  (.skip))))
 (.keep [2, 3] (.seq (.seq (.ops [.op (some 21) (.fadr (.t 2) 4),
   .op (some 22) (.load1 (.t 21)),
   .op (some 23) (.fadr (.t 3) 4),
   .op (some 24) (.load1 (.t 23)),
   .op (some 25) (.bin .neq (.t 22) (.t 24))])
  (.keep [25] (.cond (.t 25)
  (.seq (.ops [.op (some 4) (.mov (.k (.bool false)))])
   (.keep [4] (.ret)))
  (.skip))))
 (.keep [] (.seq (.ops [.op (some 4) (.mov (.k (.bool true)))])
 (.keep [4] (.ret))))))))))))
theorem k_c_eqFrame_fits : fitsF Tryz.prog 119 ⟨26, k_c_eqFrame, [.t 4]⟩ = true := by kernel_rfl
theorem c_eqFrame {a b : GFrame} (hw0 : a.Page.slots.length ≤ 9223372036854775807) : Con Tryz.prog noMv 119 [a.av, b.av] [] (fun r h => r = bool (eqb a b) ∧ h = []) := by
 refine con_of2 k_c_eqFrame_fits rfl fun C hP hmv => ?_
 unfold k_c_eqFrame
 refine cx_seq (cx_ops ?_)
 refine ax_e (e_box rfl rfl (by decide) rfl rfl rfl) ?_
 refine ax_e (e_box rfl rfl (by decide) rfl rfl rfl) ?_
 refine ax_q (q_mov rfl) ?_
 refine ax_nil (cx_keep rfl rfl (cx_seq (cx_seq (cx_ops ?_))))
 refine ax_q (q_fadr_ptr rfl) ?_
 refine ax_q (q_load1_ptr rfl rfl rfl) ?_
 refine ax_q (q_fadr_ptr rfl) ?_
 refine ax_q (q_load1_ptr rfl rfl rfl) ?_
 refine ax_q (q_ibin rfl rfl rfl) ?_
 refine ax_nil (cx_keep rfl rfl ?_)
 refine cx_cond rfl (fun h0 => ?_) (fun h0 => ?_)
 ·
  have h0 := nT h0
  refine cx_seq (cx_ops ?_)
  refine ax_q (q_mov rfl) ?_
  refine ax_nil (cx_keep rfl rfl ?_)
  refine cx_ret (ret0 rfl rfl ?_)
  exact ⟨congrArg AM.bool (eqb_f (fun h => h0 (by rw [h]))).symm, rfl⟩
 ·
  have h0 := nF h0
  refine cx_skip ?_
  refine cx_keep rfl rfl (cx_seq (cx_seq (cx_ops ?_)))
  refine ax_q (q_fadr_ptr rfl) ?_
  refine ax_q (q_ldN rfl rfl rfl) ?_
  refine ax_q (q_fadr_ptr rfl) ?_
  refine ax_q (q_ldN rfl rfl rfl) ?_
  refine ax_call rfl (vc_pure0 (c_eqPage  ?_) hP rfl rfl ?_)
  ·
   assumption
  refine ax_q (q_not rfl) ?_
  refine ax_nil (cx_keep rfl rfl ?_)
  refine cx_cond rfl (fun h1 => ?_) (fun h1 => ?_)
  ·
   have h1 := bT h1
   refine cx_seq (cx_ops ?_)
   refine ax_q (q_mov rfl) ?_
   refine ax_nil (cx_keep rfl rfl ?_)
   refine cx_ret (ret0 rfl rfl ?_)
   exact ⟨congrArg AM.bool (eqb_f (fun h => by rw [h, eqb_rfl] at h1; cases h1)).symm, rfl⟩
  ·
   have h1 := bF h1
   refine cx_skip ?_
   refine cx_keep rfl rfl (cx_seq (cx_seq (cx_ops ?_)))
   refine ax_q (q_fadr_ptr rfl) ?_
   refine ax_q (q_load1_ptr rfl rfl rfl) ?_
   refine ax_q (q_fadr_ptr rfl) ?_
   refine ax_q (q_load1_ptr rfl rfl rfl) ?_
   refine ax_q (q_eqb rfl rfl) ?_
   refine ax_nil (cx_keep rfl rfl ?_)
   refine cx_cond rfl (fun h2 => ?_) (fun h2 => ?_)
   ·
    have h2 := bneT h2
    refine cx_seq (cx_ops ?_)
    refine ax_q (q_mov rfl) ?_
    refine ax_nil (cx_keep rfl rfl ?_)
    refine cx_ret (ret0 rfl rfl ?_)
    exact ⟨congrArg AM.bool (eqb_f (fun h => h2 (by rw [h]))).symm, rfl⟩
   ·
    have h2 := bneF h2
    refine cx_skip ?_
    refine cx_keep rfl rfl (cx_seq (cx_seq (cx_ops ?_)))
    refine ax_q (q_fadr_ptr rfl) ?_
    refine ax_q (q_load1_ptr rfl rfl rfl) ?_
    refine ax_q (q_fadr_ptr rfl) ?_
    refine ax_q (q_load1_ptr rfl rfl rfl) ?_
    refine ax_q (q_ibin rfl rfl rfl) ?_
    refine ax_nil (cx_keep rfl rfl ?_)
    refine cx_cond rfl (fun h3 => ?_) (fun h3 => ?_)
    ·
     have h3 := nT h3
     refine cx_seq (cx_ops ?_)
     refine ax_q (q_mov rfl) ?_
     refine ax_nil (cx_keep rfl rfl ?_)
     refine cx_ret (ret0 rfl rfl ?_)
     exact ⟨congrArg AM.bool (eqb_f (fun h => h3 (by rw [h]))).symm, rfl⟩
    ·
     have h3 := nF h3
     refine cx_skip ?_
     refine cx_keep rfl rfl (cx_seq (cx_ops ?_))
     refine ax_q (q_mov rfl) ?_
     refine ax_nil (cx_keep rfl rfl ?_)
     refine cx_ret (ret0 rfl rfl ?_)
     exact ⟨congrArg AM.bool (eqb_t (GFrame.ext1 h0 (eqb_iff.1 h1) h2 h3)).symm, rfl⟩


/- loop.example/g00332/laws.eqFrameS -/
def k_c_eqFrameS : XCode :=
 .seq (.ops [.op (some 4) (.mov (.k (.bool false)))])
 (.keep [0, 1] (.seq (.seq (.ops [.op (some 6) (.mov (.t 0)),
   .op (some 7) (.lenS (.t 6)),
   .op (some 8) (.mov (.t 1)),
   .op (some 9) (.lenS (.t 8)),
   .op (some 10) (.bin .neq (.t 7) (.t 9))])
  (.keep [0, 1, 10] (.cond (.t 10)
  (.seq (.ops [.op (some 4) (.mov (.k (.bool false)))])
   (.keep [4] (.ret)))
  (.skip))))
 (.keep [0, 1] (.seq (.seq (.ops [.op (some 5) (.mov (.k (.int .i64 0)))])
  (.keep [0, 1, 5] (.block 0 (.loop (.seq (.seq (.ops [.op (some 11) (.mov (.t 5)),
     .op (some 12) (.mov (.t 0)),
     .op (some 13) (.lenS (.t 12)),
     .op (some 14) (.bin .lss (.t 11) (.t 13))])
   (.keep [0, 1, 5, 14] (.cond (.t 14)
    (.skip)
    (.exit 0))))
   (.keep [0, 1, 5] (.seq (.block 1 (.seq (.draw [.op (some 17) (.mov (.t 0)),
     .op (some 18) (.mov (.t 5)),
     .op (some 19) (.iadr 5 (.t 17) (.t 18)),
     .op (some 20) (.loadN 5 (.t 19)),
     .op (some 21) (.mov (.t 1)),
     .op (some 22) (.mov (.t 5)),
     .op (some 23) (.iadr 5 (.t 21) (.t 22)),
     .op (some 24) (.loadN 5 (.t 23)),
     .call (some 25) 119 [.t 20, .t 24],
     .op (some 26) (.not (.t 25))])
    (.keep [0, 1, 5, 26] (.cond (.t 26)
    (.seq (.ops [.op (some 4) (.mov (.k (.bool false)))])
     (.keep [4] (.ret)))
    (.skip)))))
   (.keep [0, 1, 5] (.ops [.op (some 15) (.mov (.t 5)),
    .op (some 16) (.bin .add (.t 15) (.k (.int .i64 1))),
    .op (some 5) (.mov (.t 16))])))))))))
 (.keep [] (.seq (.ops [.op (some 4) (.mov (.k (.bool true)))])
 (.keep [4] (.ret))))))))
theorem k_c_eqFrameS_fits : fitsF Tryz.prog 57 ⟨27, k_c_eqFrameS, [.t 4]⟩ = true := by kernel_rfl
theorem c_eqFrameS {xs ys : List GFrame} (hw : xs.length ≤ 9223372036854775807) (hs : ∀ f ∈ xs, f.Page.slots.length ≤ 1048576) : Con Tryz.prog noMv 57 [.d (.sl 5 (xs.map GFrame.row)), .d (.sl 5 (ys.map GFrame.row))] [] (fun r h => r = bool (eqb xs ys) ∧ h = []) := by
 refine con_of2 k_c_eqFrameS_fits rfl fun C hP hmv => ?_
 unfold k_c_eqFrameS
 refine cx_seq (cx_ops ?_)
 refine ax_q (q_mov rfl) ?_
 refine ax_nil (cx_keep rfl rfl (cx_seq (cx_seq (cx_ops ?_))))
 refine ax_q (q_mov rfl) ?_
 refine ax_q (q_lenS_map rfl) ?_
 refine ax_q (q_mov rfl) ?_
 refine ax_q (q_lenS_map rfl) ?_
 refine ax_q (q_ibin rfl rfl rfl) ?_
 refine ax_nil (cx_keep rfl rfl ?_)
 refine cx_cond rfl (fun h0 => ?_) (fun h0 => ?_)
 ·
  have h0 := nT h0
  refine cx_seq (cx_ops ?_)
  refine ax_q (q_mov rfl) ?_
  refine ax_nil (cx_keep rfl rfl ?_)
  refine cx_ret (ret0 rfl rfl ?_)
  exact ⟨congrArg AM.bool (eqb_f (fun h => h0 (by rw [h]))).symm, rfl⟩
 ·
  have h0 := nF h0
  refine cx_skip ?_
  refine cx_keep rfl rfl (cx_seq (cx_seq (cx_ops ?_)))
  refine ax_q (q_mov rfl) ?_
  refine ax_nil (cx_keep rfl rfl (cx_block ?_))
  have hl : xs.length = ys.length := by omega
  refine cx_loopU (fun n k => k ≤ xs.length ∧ n = xs.length - k ∧ xs.take k = ys.take k) (fun k : Nat => [(5, int k)]) (fun _ => []) ⟨_, 0, ⟨Nat.zero_le _, rfl, rfl⟩, by repeat constructor⟩ ?_
  rintro n k ⟨hk, rfl, ht⟩
  refine cx_seq (cx_seq (cx_ops ?_))
  refine ax_q (q_mov rfl) ?_
  refine ax_q (q_mov rfl) ?_
  refine ax_q (q_lenS_map rfl) ?_
  refine ax_q (q_ibin rfl rfl rfl) ?_
  refine ax_nil (cx_keep rfl rfl ?_)
  refine cx_cond rfl (fun h1 => ?_) (fun h1 => ?_)
  ·
   have h1 := dT h1
   have h1x : k < xs.length := by omega
   have h1y : k < ys.length := by omega
   have hsk := hs _ (List.getElem_mem h1x)
   refine cx_skip ?_
   refine cx_keep rfl rfl (cx_seq (cx_block (cx_seq (cx_draw ?_))))
   refine ax_q (q_mov rfl) ?_
   refine ax_q (q_mov rfl) ?_
   refine ax_q (q_ix rfl rfl (mapAt h1x)) ?_
   first | refine ax_q (q_ldN rfl rfl rfl) ?_ | refine ax_q (q_loadN_ip rfl (Nat.le_refl _)) ?_
   refine ax_q (q_mov rfl) ?_
   refine ax_q (q_mov rfl) ?_
   refine ax_q (q_ix rfl rfl (mapAt h1y)) ?_
   first | refine ax_q (q_ldN rfl rfl rfl) ?_ | refine ax_q (q_loadN_ip rfl (Nat.le_refl _)) ?_
   refine ax_callq rfl (c_eqFrame (a := xs[k]) (b := ys[k]) ?_) hP (lal_id _ rfl) rfl ?_
   ·
    first | assumption | omega
   refine ax_q (q_not rfl) ?_
   refine ax_nil (cx_keep rfl rfl ?_)
   refine cx_cond rfl (fun h2 => ?_) (fun h2 => ?_)
   ·
    have h2 := bT h2
    refine cx_seq (cx_ops ?_)
    refine ax_q (q_mov rfl) ?_
    refine ax_nil (cx_keep rfl rfl ?_)
    refine cx_ret (ret0 rfl rfl ?_)
    exact ⟨congrArg AM.bool (eqbL_no h1x h1y h2).symm, rfl⟩
   ·
    have h2 := bF h2
    refine cx_skip ?_
    refine cx_keep rfl rfl (cx_ops ?_)
    refine ax_q (q_mov rfl) ?_
    refine ax_q (q_add rfl rfl (by omega)) ?_
    refine ax_q (q_mov rfl) ?_
    refine ax_nil ?_
    exact ⟨_, k + 1, by omega, ⟨by omega, rfl, eqbL_step h1x h1y ht h2⟩, by repeat constructor⟩
  ·
   have h1 := dF h1
   refine cx_exit rfl ?_
   refine cx_keep rfl rfl (cx_seq (cx_ops ?_))
   refine ax_q (q_mov rfl) ?_
   refine ax_nil (cx_keep rfl rfl ?_)
   refine cx_ret (ret0 rfl rfl ?_)
   exact ⟨congrArg AM.bool (eqb_t (eq_of_take hl (by rwa [show k = xs.length from by omega] at ht))).symm, rfl⟩


/- loop.example/g00332/laws.eqStore -/
def k_c_eqStore : XCode :=
 .seq (.ops [.op (some 2) (.box (.t 0)),
   .op (some 3) (.box (.t 1)),
   .op (some 4) (.mov (.k (.bool false)))])
 (.keep [2, 3] (.seq (.seq (.ops [.op (some 5) (.fadr (.t 2) 0),
   .op (some 6) (.loadN 4 (.t 5)),
   .op (some 7) (.fadr (.t 3) 0),
   .op (some 8) (.loadN 4 (.t 7)),
   .call (some 9) 55 [.t 6, .t 8],
   .op (some 10) (.not (.t 9))])
  (.keep [2, 3, 10] (.cond (.t 10)
  (.seq (.ops [.op (some 4) (.mov (.k (.bool false)))])
   (.keep [4] (.ret)))
  (.skip))))
 (.keep [2, 3] (.seq (.seq (.ops [.op (some 11) (.fadr (.t 2) 4),
   .op (some 12) (.load1 (.t 11)),
   .op (some 13) (.fadr (.t 3) 4),
   .op (some 14) (.load1 (.t 13)),
   .op (some 15) (.bin .neq (.t 12) (.t 14))])
  (.keep [2, 3, 15] (.cond (.t 15)
  (.seq (.ops [.op (some 4) (.mov (.k (.bool false)))])
   (.keep [4] (.ret)))
  (.skip))))
 (.keep [2, 3] (.seq (.seq (.ops [.op (some 16) (.fadr (.t 2) 5),
   .op (some 17) (.load1 (.t 16)),
   .op (some 18) (.fadr (.t 3) 5),
   .op (some 19) (.load1 (.t 18)),
   .call (some 20) 56 [.t 17, .t 19],
   .op (some 21) (.not (.t 20))])
  (.keep [2, 3, 21] (.cond (.t 21)
  (.seq (.ops [.op (some 4) (.mov (.k (.bool false)))])
   (.keep [4] (.ret)))
  (.skip))))
 (.keep [2, 3] (.seq (.seq (.ops [.op (some 22) (.fadr (.t 2) 6),
   .op (some 23) (.load1 (.t 22)),
   .op (some 24) (.fadr (.t 3) 6),
   .op (some 25) (.load1 (.t 24)),
   .op (some 26) (.bin .neq (.t 23) (.t 25))])
  (.keep [2, 3, 26] (.cond (.t 26)
  (.seq (.ops [.op (some 4) (.mov (.k (.bool false)))])
   (.keep [4] (.ret)))
  (.skip))))
 (.keep [2, 3] (.seq (.seq (.ops [.op (some 27) (.fadr (.t 2) 7),
   .op (some 28) (.load1 (.t 27)),
   .op (some 29) (.fadr (.t 3) 7),
   .op (some 30) (.load1 (.t 29)),
   .call (some 31) 57 [.t 28, .t 30],
   .op (some 32) (.not (.t 31))])
  (.keep [2, 3, 32] (.cond (.t 32)
  (.seq (.ops [.op (some 4) (.mov (.k (.bool false)))])
   (.keep [4] (.ret)))
  (.skip))))
 (.keep [2, 3] (.seq (.seq (.ops [.op (some 33) (.fadr (.t 2) 8),
   .op (some 34) (.load1 (.t 33)),
   .op (some 35) (.fadr (.t 3) 8),
   .op (some 36) (.load1 (.t 35)),
   .op (some 37) (.bin .neq (.t 34) (.t 36))])
  (.keep [37] (.cond (.t 37)
  (.seq (.ops [.op (some 4) (.mov (.k (.bool false)))])
   (.keep [4] (.ret)))
  (.skip))))
 (.keep [] (.seq (.ops [.op (some 4) (.mov (.k (.bool true)))])
 (.keep [4] (.ret))))))))))))))))
theorem k_c_eqStore_fits : fitsF Tryz.prog 19 ⟨38, k_c_eqStore, [.t 4]⟩ = true := by kernel_rfl
theorem c_eqStore {a b : GStore} (hb : StB a) : Con Tryz.prog noMv 19 [a.av, b.av] [] (fun r h => r = bool (eqb a b) ∧ h = []) := by
 refine con_of2 k_c_eqStore_fits rfl fun C hP hmv => ?_
 unfold k_c_eqStore
 obtain ⟨hw0, hw1, hw2, hw3, hwa, hw4, hw5, hw6⟩ := hb
 refine cx_seq (cx_ops ?_)
 refine ax_e (e_box rfl rfl (by decide) rfl rfl rfl) ?_
 refine ax_e (e_box rfl rfl (by decide) rfl rfl rfl) ?_
 refine ax_q (q_mov rfl) ?_
 refine ax_nil (cx_keep rfl rfl (cx_seq (cx_seq (cx_ops ?_))))
 refine ax_q (q_fadr_ptr rfl) ?_
 refine ax_q (q_ldN rfl rfl rfl) ?_
 refine ax_q (q_fadr_ptr rfl) ?_
 refine ax_q (q_ldN rfl rfl rfl) ?_
 refine ax_call rfl (vc_pure0 (c_eqDisk  ?_ ?_ ?_) hP rfl rfl ?_)
 ·
  first | assumption | omega
 ·
  first | assumption | omega
 ·
  first | assumption | omega
 refine ax_q (q_not rfl) ?_
 refine ax_nil (cx_keep rfl rfl ?_)
 refine cx_cond rfl (fun h0 => ?_) (fun h0 => ?_)
 ·
  have h0 := bT h0
  refine cx_seq (cx_ops ?_)
  refine ax_q (q_mov rfl) ?_
  refine ax_nil (cx_keep rfl rfl ?_)
  refine cx_ret (ret0 rfl rfl ?_)
  exact ⟨congrArg AM.bool (eqb_f (fun h => by rw [h, eqb_rfl] at h0; cases h0)).symm, rfl⟩
 ·
  have h0 := bF h0
  refine cx_skip ?_
  refine cx_keep rfl rfl (cx_seq (cx_seq (cx_ops ?_)))
  refine ax_q (q_fadr_ptr rfl) ?_
  refine ax_q (q_load1_ptr rfl rfl rfl) ?_
  refine ax_q (q_fadr_ptr rfl) ?_
  refine ax_q (q_load1_ptr rfl rfl rfl) ?_
  refine ax_q (q_ibin rfl rfl rfl) ?_
  refine ax_nil (cx_keep rfl rfl ?_)
  refine cx_cond rfl (fun h1 => ?_) (fun h1 => ?_)
  ·
   have h1 := nT h1
   refine cx_seq (cx_ops ?_)
   refine ax_q (q_mov rfl) ?_
   refine ax_nil (cx_keep rfl rfl ?_)
   refine cx_ret (ret0 rfl rfl ?_)
   exact ⟨congrArg AM.bool (eqb_f (fun h => h1 (by rw [h]))).symm, rfl⟩
  ·
   have h1 := nF h1
   refine cx_skip ?_
   refine cx_keep rfl rfl (cx_seq (cx_seq (cx_ops ?_)))
   refine ax_q (q_fadr_ptr rfl) ?_
   refine ax_q (q_load1_ptr rfl rfl rfl) ?_
   refine ax_q (q_fadr_ptr rfl) ?_
   refine ax_q (q_load1_ptr rfl rfl rfl) ?_
   refine ax_call rfl (vc_pure0 (c_eqLogRecordS  ?_) hP rfl rfl ?_)
   ·
    first | assumption | omega
   refine ax_q (q_not rfl) ?_
   refine ax_nil (cx_keep rfl rfl ?_)
   refine cx_cond rfl (fun h2 => ?_) (fun h2 => ?_)
   ·
    have h2 := bT h2
    refine cx_seq (cx_ops ?_)
    refine ax_q (q_mov rfl) ?_
    refine ax_nil (cx_keep rfl rfl ?_)
    refine cx_ret (ret0 rfl rfl ?_)
    exact ⟨congrArg AM.bool (eqb_f (fun h => by rw [h, eqb_rfl] at h2; cases h2)).symm, rfl⟩
   ·
    have h2 := bF h2
    refine cx_skip ?_
    refine cx_keep rfl rfl (cx_seq (cx_seq (cx_ops ?_)))
    refine ax_q (q_fadr_ptr rfl) ?_
    refine ax_q (q_load1_ptr rfl rfl rfl) ?_
    refine ax_q (q_fadr_ptr rfl) ?_
    refine ax_q (q_load1_ptr rfl rfl rfl) ?_
    refine ax_q (q_ibin rfl rfl rfl) ?_
    refine ax_nil (cx_keep rfl rfl ?_)
    refine cx_cond rfl (fun h3 => ?_) (fun h3 => ?_)
    ·
     have h3 := nT h3
     refine cx_seq (cx_ops ?_)
     refine ax_q (q_mov rfl) ?_
     refine ax_nil (cx_keep rfl rfl ?_)
     refine cx_ret (ret0 rfl rfl ?_)
     exact ⟨congrArg AM.bool (eqb_f (fun h => h3 (by rw [h]))).symm, rfl⟩
    ·
     have h3 := nF h3
     refine cx_skip ?_
     refine cx_keep rfl rfl (cx_seq (cx_seq (cx_ops ?_)))
     refine ax_q (q_fadr_ptr rfl) ?_
     refine ax_q (q_load1_ptr rfl rfl rfl) ?_
     refine ax_q (q_fadr_ptr rfl) ?_
     refine ax_q (q_load1_ptr rfl rfl rfl) ?_
     refine ax_call rfl (vc_pure0 (c_eqFrameS  ?_ ?_) hP rfl rfl ?_)
     ·
      first | assumption | omega
     ·
      assumption
     refine ax_q (q_not rfl) ?_
     refine ax_nil (cx_keep rfl rfl ?_)
     refine cx_cond rfl (fun h4 => ?_) (fun h4 => ?_)
     ·
      have h4 := bT h4
      refine cx_seq (cx_ops ?_)
      refine ax_q (q_mov rfl) ?_
      refine ax_nil (cx_keep rfl rfl ?_)
      refine cx_ret (ret0 rfl rfl ?_)
      exact ⟨congrArg AM.bool (eqb_f (fun h => by rw [h, eqb_rfl] at h4; cases h4)).symm, rfl⟩
     ·
      have h4 := bF h4
      refine cx_skip ?_
      refine cx_keep rfl rfl (cx_seq (cx_seq (cx_ops ?_)))
      refine ax_q (q_fadr_ptr rfl) ?_
      refine ax_q (q_load1_ptr rfl rfl rfl) ?_
      refine ax_q (q_fadr_ptr rfl) ?_
      refine ax_q (q_load1_ptr rfl rfl rfl) ?_
      refine ax_q (q_ibin rfl rfl rfl) ?_
      refine ax_nil (cx_keep rfl rfl ?_)
      refine cx_cond rfl (fun h5 => ?_) (fun h5 => ?_)
      ·
       have h5 := nT h5
       refine cx_seq (cx_ops ?_)
       refine ax_q (q_mov rfl) ?_
       refine ax_nil (cx_keep rfl rfl ?_)
       refine cx_ret (ret0 rfl rfl ?_)
       exact ⟨congrArg AM.bool (eqb_f (fun h => h5 (by rw [h]))).symm, rfl⟩
      ·
       have h5 := nF h5
       refine cx_skip ?_
       refine cx_keep rfl rfl (cx_seq (cx_ops ?_))
       refine ax_q (q_mov rfl) ?_
       refine ax_nil (cx_keep rfl rfl ?_)
       refine cx_ret (ret0 rfl rfl ?_)
       exact ⟨congrArg AM.bool (eqb_t (GStore.ext1 (eqb_iff.1 h0) h1 (eqb_iff.1 h2) h3 (eqb_iff.1 h4) h5)).symm, rfl⟩


/- loop.example/g00332/laws.eqTx -/
def k_c_eqTx : XCode :=
 .seq (.ops [.op (some 2) (.box (.t 0)),
   .op (some 3) (.box (.t 1)),
   .op (some 4) (.mov (.k (.bool false)))])
 (.keep [2, 3] (.seq (.seq (.ops [.op (some 5) (.fadr (.t 2) 0),
   .op (some 6) (.load1 (.t 5)),
   .op (some 7) (.fadr (.t 3) 0),
   .op (some 8) (.load1 (.t 7)),
   .op (some 9) (.bin .neq (.t 6) (.t 8))])
  (.keep [2, 3, 9] (.cond (.t 9)
  (.seq (.ops [.op (some 4) (.mov (.k (.bool false)))])
   (.keep [4] (.ret)))
  (.skip))))
 (.keep [2, 3] (.seq (.seq (.ops [.op (some 10) (.fadr (.t 2) 1),
   .op (some 11) (.load1 (.t 10)),
   .op (some 12) (.fadr (.t 3) 1),
   .op (some 13) (.load1 (.t 12)),
   .op (some 14) (.bin .neq (.t 11) (.t 13))])
  (.keep [14] (.cond (.t 14)
  (.seq (.ops [.op (some 4) (.mov (.k (.bool false)))])
   (.keep [4] (.ret)))
  (.skip))))
 (.keep [] (.seq (.ops [.op (some 4) (.mov (.k (.bool true)))])
 (.keep [4] (.ret))))))))
theorem k_c_eqTx_fits : fitsF Tryz.prog 100 ⟨15, k_c_eqTx, [.t 4]⟩ = true := by kernel_rfl
theorem c_eqTx {a b : GTx}  : Con Tryz.prog noMv 100 [a.av, b.av] [] (fun r h => r = bool (eqb a b) ∧ h = []) := by
 refine con_of2 k_c_eqTx_fits rfl fun C hP hmv => ?_
 unfold k_c_eqTx
 refine cx_seq (cx_ops ?_)
 refine ax_e (e_box rfl rfl (by decide) rfl rfl rfl) ?_
 refine ax_e (e_box rfl rfl (by decide) rfl rfl rfl) ?_
 refine ax_q (q_mov rfl) ?_
 refine ax_nil (cx_keep rfl rfl (cx_seq (cx_seq (cx_ops ?_))))
 refine ax_q (q_fadr_ptr rfl) ?_
 refine ax_q (q_load1_ptr rfl rfl rfl) ?_
 refine ax_q (q_fadr_ptr rfl) ?_
 refine ax_q (q_load1_ptr rfl rfl rfl) ?_
 refine ax_q (q_ibin rfl rfl rfl) ?_
 refine ax_nil (cx_keep rfl rfl ?_)
 refine cx_cond rfl (fun h0 => ?_) (fun h0 => ?_)
 ·
  have h0 := nT h0
  refine cx_seq (cx_ops ?_)
  refine ax_q (q_mov rfl) ?_
  refine ax_nil (cx_keep rfl rfl ?_)
  refine cx_ret (ret0 rfl rfl ?_)
  exact ⟨congrArg AM.bool (eqb_f (fun h => h0 (by rw [h]))).symm, rfl⟩
 ·
  have h0 := nF h0
  refine cx_skip ?_
  refine cx_keep rfl rfl (cx_seq (cx_seq (cx_ops ?_)))
  refine ax_q (q_fadr_ptr rfl) ?_
  refine ax_q (q_load1_ptr rfl rfl rfl) ?_
  refine ax_q (q_fadr_ptr rfl) ?_
  refine ax_q (q_load1_ptr rfl rfl rfl) ?_
  refine ax_q (q_ibin rfl rfl rfl) ?_
  refine ax_nil (cx_keep rfl rfl ?_)
  refine cx_cond rfl (fun h1 => ?_) (fun h1 => ?_)
  ·
   have h1 := nT h1
   refine cx_seq (cx_ops ?_)
   refine ax_q (q_mov rfl) ?_
   refine ax_nil (cx_keep rfl rfl ?_)
   refine cx_ret (ret0 rfl rfl ?_)
   exact ⟨congrArg AM.bool (eqb_f (fun h => h1 (by rw [h]))).symm, rfl⟩
  ·
   have h1 := nF h1
   refine cx_skip ?_
   refine cx_keep rfl rfl (cx_seq (cx_ops ?_))
   refine ax_q (q_mov rfl) ?_
   refine ax_nil (cx_keep rfl rfl ?_)
   refine cx_ret (ret0 rfl rfl ?_)
   exact ⟨congrArg AM.bool (eqb_t (GTx.ext1 h0 h1)).symm, rfl⟩


/- loop.example/g00332/laws.eqTxS -/
def k_c_eqTxS : XCode :=
 .seq (.ops [.op (some 4) (.mov (.k (.bool false)))])
 (.keep [0, 1] (.seq (.seq (.ops [.op (some 6) (.mov (.t 0)),
   .op (some 7) (.lenS (.t 6)),
   .op (some 8) (.mov (.t 1)),
   .op (some 9) (.lenS (.t 8)),
   .op (some 10) (.bin .neq (.t 7) (.t 9))])
  (.keep [0, 1, 10] (.cond (.t 10)
  (.seq (.ops [.op (some 4) (.mov (.k (.bool false)))])
   (.keep [4] (.ret)))
  (.skip))))
 (.keep [0, 1] (.seq (.seq (.ops [.op (some 5) (.mov (.k (.int .i64 0)))])
  (.keep [0, 1, 5] (.block 0 (.loop (.seq (.seq (.ops [.op (some 11) (.mov (.t 5)),
     .op (some 12) (.mov (.t 0)),
     .op (some 13) (.lenS (.t 12)),
     .op (some 14) (.bin .lss (.t 11) (.t 13))])
   (.keep [0, 1, 5, 14] (.cond (.t 14)
    (.skip)
    (.exit 0))))
   (.keep [0, 1, 5] (.seq (.block 1 (.seq (.draw [.op (some 17) (.mov (.t 0)),
     .op (some 18) (.mov (.t 5)),
     .op (some 19) (.iadr 2 (.t 17) (.t 18)),
     .op (some 20) (.loadN 2 (.t 19)),
     .op (some 21) (.mov (.t 1)),
     .op (some 22) (.mov (.t 5)),
     .op (some 23) (.iadr 2 (.t 21) (.t 22)),
     .op (some 24) (.loadN 2 (.t 23)),
     .call (some 25) 100 [.t 20, .t 24],
     .op (some 26) (.not (.t 25))])
    (.keep [0, 1, 5, 26] (.cond (.t 26)
    (.seq (.ops [.op (some 4) (.mov (.k (.bool false)))])
     (.keep [4] (.ret)))
    (.skip)))))
   (.keep [0, 1, 5] (.ops [.op (some 15) (.mov (.t 5)),
    .op (some 16) (.bin .add (.t 15) (.k (.int .i64 1))),
    .op (some 5) (.mov (.t 16))])))))))))
 (.keep [] (.seq (.ops [.op (some 4) (.mov (.k (.bool true)))])
 (.keep [4] (.ret))))))))
theorem k_c_eqTxS_fits : fitsF Tryz.prog 44 ⟨27, k_c_eqTxS, [.t 4]⟩ = true := by kernel_rfl
theorem c_eqTxS {xs ys : List GTx} (hw : xs.length ≤ 9223372036854775807) : Con Tryz.prog noMv 44 [.d (.sl 2 (xs.map GTx.row)), .d (.sl 2 (ys.map GTx.row))] [] (fun r h => r = bool (eqb xs ys) ∧ h = []) := by
 refine con_of2 k_c_eqTxS_fits rfl fun C hP hmv => ?_
 unfold k_c_eqTxS
 refine cx_seq (cx_ops ?_)
 refine ax_q (q_mov rfl) ?_
 refine ax_nil (cx_keep rfl rfl (cx_seq (cx_seq (cx_ops ?_))))
 refine ax_q (q_mov rfl) ?_
 refine ax_q (q_lenS_map rfl) ?_
 refine ax_q (q_mov rfl) ?_
 refine ax_q (q_lenS_map rfl) ?_
 refine ax_q (q_ibin rfl rfl rfl) ?_
 refine ax_nil (cx_keep rfl rfl ?_)
 refine cx_cond rfl (fun h0 => ?_) (fun h0 => ?_)
 ·
  have h0 := nT h0
  refine cx_seq (cx_ops ?_)
  refine ax_q (q_mov rfl) ?_
  refine ax_nil (cx_keep rfl rfl ?_)
  refine cx_ret (ret0 rfl rfl ?_)
  exact ⟨congrArg AM.bool (eqb_f (fun h => h0 (by rw [h]))).symm, rfl⟩
 ·
  have h0 := nF h0
  refine cx_skip ?_
  refine cx_keep rfl rfl (cx_seq (cx_seq (cx_ops ?_)))
  refine ax_q (q_mov rfl) ?_
  refine ax_nil (cx_keep rfl rfl (cx_block ?_))
  have hl : xs.length = ys.length := by omega
  refine cx_loopU (fun n k => k ≤ xs.length ∧ n = xs.length - k ∧ xs.take k = ys.take k) (fun k : Nat => [(5, int k)]) (fun _ => []) ⟨_, 0, ⟨Nat.zero_le _, rfl, rfl⟩, by repeat constructor⟩ ?_
  rintro n k ⟨hk, rfl, ht⟩
  refine cx_seq (cx_seq (cx_ops ?_))
  refine ax_q (q_mov rfl) ?_
  refine ax_q (q_mov rfl) ?_
  refine ax_q (q_lenS_map rfl) ?_
  refine ax_q (q_ibin rfl rfl rfl) ?_
  refine ax_nil (cx_keep rfl rfl ?_)
  refine cx_cond rfl (fun h1 => ?_) (fun h1 => ?_)
  ·
   have h1 := dT h1
   have h1x : k < xs.length := by omega
   have h1y : k < ys.length := by omega
   refine cx_skip ?_
   refine cx_keep rfl rfl (cx_seq (cx_block (cx_seq (cx_draw ?_))))
   refine ax_q (q_mov rfl) ?_
   refine ax_q (q_mov rfl) ?_
   refine ax_q (q_ix rfl rfl (mapAt h1x)) ?_
   first | refine ax_q (q_ldN rfl rfl rfl) ?_ | refine ax_q (q_loadN_ip rfl (Nat.le_refl _)) ?_
   refine ax_q (q_mov rfl) ?_
   refine ax_q (q_mov rfl) ?_
   refine ax_q (q_ix rfl rfl (mapAt h1y)) ?_
   first | refine ax_q (q_ldN rfl rfl rfl) ?_ | refine ax_q (q_loadN_ip rfl (Nat.le_refl _)) ?_
   refine ax_callq rfl (c_eqTx) hP (lal_id _ rfl) rfl ?_
   refine ax_q (q_not rfl) ?_
   refine ax_nil (cx_keep rfl rfl ?_)
   refine cx_cond rfl (fun h2 => ?_) (fun h2 => ?_)
   ·
    have h2 := bT h2
    refine cx_seq (cx_ops ?_)
    refine ax_q (q_mov rfl) ?_
    refine ax_nil (cx_keep rfl rfl ?_)
    refine cx_ret (ret0 rfl rfl ?_)
    exact ⟨congrArg AM.bool (eqbL_no h1x h1y h2).symm, rfl⟩
   ·
    have h2 := bF h2
    refine cx_skip ?_
    refine cx_keep rfl rfl (cx_ops ?_)
    refine ax_q (q_mov rfl) ?_
    refine ax_q (q_add rfl rfl (by omega)) ?_
    refine ax_q (q_mov rfl) ?_
    refine ax_nil ?_
    exact ⟨_, k + 1, by omega, ⟨by omega, rfl, eqbL_step h1x h1y ht h2⟩, by repeat constructor⟩
  ·
   have h1 := dF h1
   refine cx_exit rfl ?_
   refine cx_keep rfl rfl (cx_seq (cx_ops ?_))
   refine ax_q (q_mov rfl) ?_
   refine ax_nil (cx_keep rfl rfl ?_)
   refine cx_ret (ret0 rfl rfl ?_)
   exact ⟨congrArg AM.bool (eqb_t (eq_of_take hl (by rwa [show k = xs.length from by omega] at ht))).symm, rfl⟩


/- loop.example/g00332/laws.eqLock -/
def k_c_eqLock : XCode :=
 .seq (.ops [.op (some 2) (.box (.t 0)),
   .op (some 3) (.box (.t 1)),
   .op (some 4) (.mov (.k (.bool false)))])
 (.keep [2, 3] (.seq (.seq (.ops [.op (some 5) (.fadr (.t 2) 0),
   .op (some 6) (.load1 (.t 5)),
   .op (some 7) (.fadr (.t 3) 0),
   .op (some 8) (.load1 (.t 7)),
   .op (some 9) (.bin .neq (.t 6) (.t 8))])
  (.keep [2, 3, 9] (.cond (.t 9)
  (.seq (.ops [.op (some 4) (.mov (.k (.bool false)))])
   (.keep [4] (.ret)))
  (.skip))))
 (.keep [2, 3] (.seq (.seq (.ops [.op (some 10) (.fadr (.t 2) 1),
   .op (some 11) (.load1 (.t 10)),
   .op (some 12) (.fadr (.t 3) 1),
   .op (some 13) (.load1 (.t 12)),
   .op (some 14) (.bin .neq (.t 11) (.t 13))])
  (.keep [2, 3, 14] (.cond (.t 14)
  (.seq (.ops [.op (some 4) (.mov (.k (.bool false)))])
   (.keep [4] (.ret)))
  (.skip))))
 (.keep [2, 3] (.seq (.seq (.ops [.op (some 15) (.fadr (.t 2) 2),
   .op (some 16) (.load1 (.t 15)),
   .op (some 17) (.fadr (.t 3) 2),
   .op (some 18) (.load1 (.t 17)),
   .op (some 19) (.bin .neq (.t 16) (.t 18))])
  (.keep [2, 3, 19] (.cond (.t 19)
  (.seq (.ops [.op (some 4) (.mov (.k (.bool false)))])
   (.keep [4] (.ret)))
  (.skip))))
 (.keep [2, 3] (.seq (.seq (.ops [.op (some 20) (.fadr (.t 2) 3),
   .op (some 21) (.load1 (.t 20)),
   .op (some 22) (.fadr (.t 3) 3),
   .op (some 23) (.load1 (.t 22)),
   .op (some 24) (.bin .neq (.t 21) (.t 23))])
  (.keep [24] (.cond (.t 24)
  (.seq (.ops [.op (some 4) (.mov (.k (.bool false)))])
   (.keep [4] (.ret)))
  (.skip))))
 (.keep [] (.seq (.ops [.op (some 4) (.mov (.k (.bool true)))])
 (.keep [4] (.ret))))))))))))
theorem k_c_eqLock_fits : fitsF Tryz.prog 175 ⟨25, k_c_eqLock, [.t 4]⟩ = true := by kernel_rfl
theorem c_eqLock {a b : GLock}  : Con Tryz.prog noMv 175 [a.av, b.av] [] (fun r h => r = bool (eqb a b) ∧ h = []) := by
 refine con_of2 k_c_eqLock_fits rfl fun C hP hmv => ?_
 unfold k_c_eqLock
 refine cx_seq (cx_ops ?_)
 refine ax_e (e_box rfl rfl (by decide) rfl rfl rfl) ?_
 refine ax_e (e_box rfl rfl (by decide) rfl rfl rfl) ?_
 refine ax_q (q_mov rfl) ?_
 refine ax_nil (cx_keep rfl rfl (cx_seq (cx_seq (cx_ops ?_))))
 refine ax_q (q_fadr_ptr rfl) ?_
 refine ax_q (q_load1_ptr rfl rfl rfl) ?_
 refine ax_q (q_fadr_ptr rfl) ?_
 refine ax_q (q_load1_ptr rfl rfl rfl) ?_
 refine ax_q (q_ibin rfl rfl rfl) ?_
 refine ax_nil (cx_keep rfl rfl ?_)
 refine cx_cond rfl (fun h0 => ?_) (fun h0 => ?_)
 ·
  have h0 := nT h0
  refine cx_seq (cx_ops ?_)
  refine ax_q (q_mov rfl) ?_
  refine ax_nil (cx_keep rfl rfl ?_)
  refine cx_ret (ret0 rfl rfl ?_)
  exact ⟨congrArg AM.bool (eqb_f (fun h => h0 (by rw [h]))).symm, rfl⟩
 ·
  have h0 := nF h0
  refine cx_skip ?_
  refine cx_keep rfl rfl (cx_seq (cx_seq (cx_ops ?_)))
  refine ax_q (q_fadr_ptr rfl) ?_
  refine ax_q (q_load1_ptr rfl rfl rfl) ?_
  refine ax_q (q_fadr_ptr rfl) ?_
  refine ax_q (q_load1_ptr rfl rfl rfl) ?_
  refine ax_q (q_ibin rfl rfl rfl) ?_
  refine ax_nil (cx_keep rfl rfl ?_)
  refine cx_cond rfl (fun h1 => ?_) (fun h1 => ?_)
  ·
   have h1 := nT h1
   refine cx_seq (cx_ops ?_)
   refine ax_q (q_mov rfl) ?_
   refine ax_nil (cx_keep rfl rfl ?_)
   refine cx_ret (ret0 rfl rfl ?_)
   exact ⟨congrArg AM.bool (eqb_f (fun h => h1 (by rw [h]))).symm, rfl⟩
  ·
   have h1 := nF h1
   refine cx_skip ?_
   refine cx_keep rfl rfl (cx_seq (cx_seq (cx_ops ?_)))
   refine ax_q (q_fadr_ptr rfl) ?_
   refine ax_q (q_load1_ptr rfl rfl rfl) ?_
   refine ax_q (q_fadr_ptr rfl) ?_
   refine ax_q (q_load1_ptr rfl rfl rfl) ?_
   refine ax_q (q_ibin rfl rfl rfl) ?_
   refine ax_nil (cx_keep rfl rfl ?_)
   refine cx_cond rfl (fun h2 => ?_) (fun h2 => ?_)
   ·
    have h2 := nT h2
    refine cx_seq (cx_ops ?_)
    refine ax_q (q_mov rfl) ?_
    refine ax_nil (cx_keep rfl rfl ?_)
    refine cx_ret (ret0 rfl rfl ?_)
    exact ⟨congrArg AM.bool (eqb_f (fun h => h2 (by rw [h]))).symm, rfl⟩
   ·
    have h2 := nF h2
    refine cx_skip ?_
    refine cx_keep rfl rfl (cx_seq (cx_seq (cx_ops ?_)))
    refine ax_q (q_fadr_ptr rfl) ?_
    refine ax_q (q_load1_ptr rfl rfl rfl) ?_
    refine ax_q (q_fadr_ptr rfl) ?_
    refine ax_q (q_load1_ptr rfl rfl rfl) ?_
    refine ax_q (q_ibin rfl rfl rfl) ?_
    refine ax_nil (cx_keep rfl rfl ?_)
    refine cx_cond rfl (fun h3 => ?_) (fun h3 => ?_)
    ·
     have h3 := nT h3
     refine cx_seq (cx_ops ?_)
     refine ax_q (q_mov rfl) ?_
     refine ax_nil (cx_keep rfl rfl ?_)
     refine cx_ret (ret0 rfl rfl ?_)
     exact ⟨congrArg AM.bool (eqb_f (fun h => h3 (by rw [h]))).symm, rfl⟩
    ·
     have h3 := nF h3
     refine cx_skip ?_
     refine cx_keep rfl rfl (cx_seq (cx_ops ?_))
     refine ax_q (q_mov rfl) ?_
     refine ax_nil (cx_keep rfl rfl ?_)
     refine cx_ret (ret0 rfl rfl ?_)
     exact ⟨congrArg AM.bool (eqb_t (GLock.ext1 h0 h1 h2 h3)).symm, rfl⟩


/- loop.example/g00332/laws.eqLockS -/
def k_c_eqLockS : XCode :=
 .seq (.ops [.op (some 4) (.mov (.k (.bool false)))])
 (.keep [0, 1] (.seq (.seq (.ops [.op (some 6) (.mov (.t 0)),
   .op (some 7) (.lenS (.t 6)),
   .op (some 8) (.mov (.t 1)),
   .op (some 9) (.lenS (.t 8)),
   .op (some 10) (.bin .neq (.t 7) (.t 9))])
  (.keep [0, 1, 10] (.cond (.t 10)
  (.seq (.ops [.op (some 4) (.mov (.k (.bool false)))])
   (.keep [4] (.ret)))
  (.skip))))
 (.keep [0, 1] (.seq (.seq (.ops [.op (some 5) (.mov (.k (.int .i64 0)))])
  (.keep [0, 1, 5] (.block 0 (.loop (.seq (.seq (.ops [.op (some 11) (.mov (.t 5)),
     .op (some 12) (.mov (.t 0)),
     .op (some 13) (.lenS (.t 12)),
     .op (some 14) (.bin .lss (.t 11) (.t 13))])
   (.keep [0, 1, 5, 14] (.cond (.t 14)
    (.skip)
    (.exit 0))))
   (.keep [0, 1, 5] (.seq (.block 1 (.seq (.draw [.op (some 17) (.mov (.t 0)),
     .op (some 18) (.mov (.t 5)),
     .op (some 19) (.iadr 4 (.t 17) (.t 18)),
     .op (some 20) (.loadN 4 (.t 19)),
     .op (some 21) (.mov (.t 1)),
     .op (some 22) (.mov (.t 5)),
     .op (some 23) (.iadr 4 (.t 21) (.t 22)),
     .op (some 24) (.loadN 4 (.t 23)),
     .call (some 25) 175 [.t 20, .t 24],
     .op (some 26) (.not (.t 25))])
    (.keep [0, 1, 5, 26] (.cond (.t 26)
    (.seq (.ops [.op (some 4) (.mov (.k (.bool false)))])
     (.keep [4] (.ret)))
    (.skip)))))
   (.keep [0, 1, 5] (.ops [.op (some 15) (.mov (.t 5)),
    .op (some 16) (.bin .add (.t 15) (.k (.int .i64 1))),
    .op (some 5) (.mov (.t 16))])))))))))
 (.keep [] (.seq (.ops [.op (some 4) (.mov (.k (.bool true)))])
 (.keep [4] (.ret))))))))
theorem k_c_eqLockS_fits : fitsF Tryz.prog 101 ⟨27, k_c_eqLockS, [.t 4]⟩ = true := by kernel_rfl
theorem c_eqLockS {xs ys : List GLock} (hw : xs.length ≤ 9223372036854775807) : Con Tryz.prog noMv 101 [.d (.sl 4 (xs.map GLock.row)), .d (.sl 4 (ys.map GLock.row))] [] (fun r h => r = bool (eqb xs ys) ∧ h = []) := by
 refine con_of2 k_c_eqLockS_fits rfl fun C hP hmv => ?_
 unfold k_c_eqLockS
 refine cx_seq (cx_ops ?_)
 refine ax_q (q_mov rfl) ?_
 refine ax_nil (cx_keep rfl rfl (cx_seq (cx_seq (cx_ops ?_))))
 refine ax_q (q_mov rfl) ?_
 refine ax_q (q_lenS_map rfl) ?_
 refine ax_q (q_mov rfl) ?_
 refine ax_q (q_lenS_map rfl) ?_
 refine ax_q (q_ibin rfl rfl rfl) ?_
 refine ax_nil (cx_keep rfl rfl ?_)
 refine cx_cond rfl (fun h0 => ?_) (fun h0 => ?_)
 ·
  have h0 := nT h0
  refine cx_seq (cx_ops ?_)
  refine ax_q (q_mov rfl) ?_
  refine ax_nil (cx_keep rfl rfl ?_)
  refine cx_ret (ret0 rfl rfl ?_)
  exact ⟨congrArg AM.bool (eqb_f (fun h => h0 (by rw [h]))).symm, rfl⟩
 ·
  have h0 := nF h0
  refine cx_skip ?_
  refine cx_keep rfl rfl (cx_seq (cx_seq (cx_ops ?_)))
  refine ax_q (q_mov rfl) ?_
  refine ax_nil (cx_keep rfl rfl (cx_block ?_))
  have hl : xs.length = ys.length := by omega
  refine cx_loopU (fun n k => k ≤ xs.length ∧ n = xs.length - k ∧ xs.take k = ys.take k) (fun k : Nat => [(5, int k)]) (fun _ => []) ⟨_, 0, ⟨Nat.zero_le _, rfl, rfl⟩, by repeat constructor⟩ ?_
  rintro n k ⟨hk, rfl, ht⟩
  refine cx_seq (cx_seq (cx_ops ?_))
  refine ax_q (q_mov rfl) ?_
  refine ax_q (q_mov rfl) ?_
  refine ax_q (q_lenS_map rfl) ?_
  refine ax_q (q_ibin rfl rfl rfl) ?_
  refine ax_nil (cx_keep rfl rfl ?_)
  refine cx_cond rfl (fun h1 => ?_) (fun h1 => ?_)
  ·
   have h1 := dT h1
   have h1x : k < xs.length := by omega
   have h1y : k < ys.length := by omega
   refine cx_skip ?_
   refine cx_keep rfl rfl (cx_seq (cx_block (cx_seq (cx_draw ?_))))
   refine ax_q (q_mov rfl) ?_
   refine ax_q (q_mov rfl) ?_
   refine ax_q (q_ix rfl rfl (mapAt h1x)) ?_
   first | refine ax_q (q_ldN rfl rfl rfl) ?_ | refine ax_q (q_loadN_ip rfl (Nat.le_refl _)) ?_
   refine ax_q (q_mov rfl) ?_
   refine ax_q (q_mov rfl) ?_
   refine ax_q (q_ix rfl rfl (mapAt h1y)) ?_
   first | refine ax_q (q_ldN rfl rfl rfl) ?_ | refine ax_q (q_loadN_ip rfl (Nat.le_refl _)) ?_
   refine ax_callq rfl (c_eqLock) hP (lal_id _ rfl) rfl ?_
   refine ax_q (q_not rfl) ?_
   refine ax_nil (cx_keep rfl rfl ?_)
   refine cx_cond rfl (fun h2 => ?_) (fun h2 => ?_)
   ·
    have h2 := bT h2
    refine cx_seq (cx_ops ?_)
    refine ax_q (q_mov rfl) ?_
    refine ax_nil (cx_keep rfl rfl ?_)
    refine cx_ret (ret0 rfl rfl ?_)
    exact ⟨congrArg AM.bool (eqbL_no h1x h1y h2).symm, rfl⟩
   ·
    have h2 := bF h2
    refine cx_skip ?_
    refine cx_keep rfl rfl (cx_ops ?_)
    refine ax_q (q_mov rfl) ?_
    refine ax_q (q_add rfl rfl (by omega)) ?_
    refine ax_q (q_mov rfl) ?_
    refine ax_nil ?_
    exact ⟨_, k + 1, by omega, ⟨by omega, rfl, eqbL_step h1x h1y ht h2⟩, by repeat constructor⟩
  ·
   have h1 := dF h1
   refine cx_exit rfl ?_
   refine cx_keep rfl rfl (cx_seq (cx_ops ?_))
   refine ax_q (q_mov rfl) ?_
   refine ax_nil (cx_keep rfl rfl ?_)
   refine cx_ret (ret0 rfl rfl ?_)
   exact ⟨congrArg AM.bool (eqb_t (eq_of_take hl (by rwa [show k = xs.length from by omega] at ht))).symm, rfl⟩


/- loop.example/g00332/laws.eqWait -/
def k_c_eqWait : XCode :=
 .seq (.ops [.op (some 2) (.box (.t 0)),
   .op (some 3) (.box (.t 1)),
   .op (some 4) (.mov (.k (.bool false)))])
 (.keep [2, 3] (.seq (.seq (.ops [.op (some 5) (.fadr (.t 2) 0),
   .op (some 6) (.load1 (.t 5)),
   .op (some 7) (.fadr (.t 3) 0),
   .op (some 8) (.load1 (.t 7)),
   .op (some 9) (.bin .neq (.t 6) (.t 8))])
  (.keep [2, 3, 9] (.cond (.t 9)
  (.seq (.ops [.op (some 4) (.mov (.k (.bool false)))])
   (.keep [4] (.ret)))
  (.skip))))
 (.keep [2, 3] (.seq (.seq (.ops [.op (some 10) (.fadr (.t 2) 1),
   .op (some 11) (.load1 (.t 10)),
   .op (some 12) (.fadr (.t 3) 1),
   .op (some 13) (.load1 (.t 12)),
   .op (some 14) (.bin .neq (.t 11) (.t 13))])
  (.keep [14] (.cond (.t 14)
  (.seq (.ops [.op (some 4) (.mov (.k (.bool false)))])
   (.keep [4] (.ret)))
  (.skip))))
 (.keep [] (.seq (.ops [.op (some 4) (.mov (.k (.bool true)))])
 (.keep [4] (.ret))))))))
theorem k_c_eqWait_fits : fitsF Tryz.prog 176 ⟨15, k_c_eqWait, [.t 4]⟩ = true := by kernel_rfl
theorem c_eqWait {a b : GWait}  : Con Tryz.prog noMv 176 [a.av, b.av] [] (fun r h => r = bool (eqb a b) ∧ h = []) := by
 refine con_of2 k_c_eqWait_fits rfl fun C hP hmv => ?_
 unfold k_c_eqWait
 refine cx_seq (cx_ops ?_)
 refine ax_e (e_box rfl rfl (by decide) rfl rfl rfl) ?_
 refine ax_e (e_box rfl rfl (by decide) rfl rfl rfl) ?_
 refine ax_q (q_mov rfl) ?_
 refine ax_nil (cx_keep rfl rfl (cx_seq (cx_seq (cx_ops ?_))))
 refine ax_q (q_fadr_ptr rfl) ?_
 refine ax_q (q_load1_ptr rfl rfl rfl) ?_
 refine ax_q (q_fadr_ptr rfl) ?_
 refine ax_q (q_load1_ptr rfl rfl rfl) ?_
 refine ax_q (q_ibin rfl rfl rfl) ?_
 refine ax_nil (cx_keep rfl rfl ?_)
 refine cx_cond rfl (fun h0 => ?_) (fun h0 => ?_)
 ·
  have h0 := nT h0
  refine cx_seq (cx_ops ?_)
  refine ax_q (q_mov rfl) ?_
  refine ax_nil (cx_keep rfl rfl ?_)
  refine cx_ret (ret0 rfl rfl ?_)
  exact ⟨congrArg AM.bool (eqb_f (fun h => h0 (by rw [h]))).symm, rfl⟩
 ·
  have h0 := nF h0
  refine cx_skip ?_
  refine cx_keep rfl rfl (cx_seq (cx_seq (cx_ops ?_)))
  refine ax_q (q_fadr_ptr rfl) ?_
  refine ax_q (q_load1_ptr rfl rfl rfl) ?_
  refine ax_q (q_fadr_ptr rfl) ?_
  refine ax_q (q_load1_ptr rfl rfl rfl) ?_
  refine ax_q (q_ibin rfl rfl rfl) ?_
  refine ax_nil (cx_keep rfl rfl ?_)
  refine cx_cond rfl (fun h1 => ?_) (fun h1 => ?_)
  ·
   have h1 := nT h1
   refine cx_seq (cx_ops ?_)
   refine ax_q (q_mov rfl) ?_
   refine ax_nil (cx_keep rfl rfl ?_)
   refine cx_ret (ret0 rfl rfl ?_)
   exact ⟨congrArg AM.bool (eqb_f (fun h => h1 (by rw [h]))).symm, rfl⟩
  ·
   have h1 := nF h1
   refine cx_skip ?_
   refine cx_keep rfl rfl (cx_seq (cx_ops ?_))
   refine ax_q (q_mov rfl) ?_
   refine ax_nil (cx_keep rfl rfl ?_)
   refine cx_ret (ret0 rfl rfl ?_)
   exact ⟨congrArg AM.bool (eqb_t (GWait.ext1 h0 h1)).symm, rfl⟩


/- loop.example/g00332/laws.eqWaitS -/
def k_c_eqWaitS : XCode :=
 .seq (.ops [.op (some 4) (.mov (.k (.bool false)))])
 (.keep [0, 1] (.seq (.seq (.ops [.op (some 6) (.mov (.t 0)),
   .op (some 7) (.lenS (.t 6)),
   .op (some 8) (.mov (.t 1)),
   .op (some 9) (.lenS (.t 8)),
   .op (some 10) (.bin .neq (.t 7) (.t 9))])
  (.keep [0, 1, 10] (.cond (.t 10)
  (.seq (.ops [.op (some 4) (.mov (.k (.bool false)))])
   (.keep [4] (.ret)))
  (.skip))))
 (.keep [0, 1] (.seq (.seq (.ops [.op (some 5) (.mov (.k (.int .i64 0)))])
  (.keep [0, 1, 5] (.block 0 (.loop (.seq (.seq (.ops [.op (some 11) (.mov (.t 5)),
     .op (some 12) (.mov (.t 0)),
     .op (some 13) (.lenS (.t 12)),
     .op (some 14) (.bin .lss (.t 11) (.t 13))])
   (.keep [0, 1, 5, 14] (.cond (.t 14)
    (.skip)
    (.exit 0))))
   (.keep [0, 1, 5] (.seq (.block 1 (.seq (.draw [.op (some 17) (.mov (.t 0)),
     .op (some 18) (.mov (.t 5)),
     .op (some 19) (.iadr 2 (.t 17) (.t 18)),
     .op (some 20) (.loadN 2 (.t 19)),
     .op (some 21) (.mov (.t 1)),
     .op (some 22) (.mov (.t 5)),
     .op (some 23) (.iadr 2 (.t 21) (.t 22)),
     .op (some 24) (.loadN 2 (.t 23)),
     .call (some 25) 176 [.t 20, .t 24],
     .op (some 26) (.not (.t 25))])
    (.keep [0, 1, 5, 26] (.cond (.t 26)
    (.seq (.ops [.op (some 4) (.mov (.k (.bool false)))])
     (.keep [4] (.ret)))
    (.skip)))))
   (.keep [0, 1, 5] (.ops [.op (some 15) (.mov (.t 5)),
    .op (some 16) (.bin .add (.t 15) (.k (.int .i64 1))),
    .op (some 5) (.mov (.t 16))])))))))))
 (.keep [] (.seq (.ops [.op (some 4) (.mov (.k (.bool true)))])
 (.keep [4] (.ret))))))))
theorem k_c_eqWaitS_fits : fitsF Tryz.prog 102 ⟨27, k_c_eqWaitS, [.t 4]⟩ = true := by kernel_rfl
theorem c_eqWaitS {xs ys : List GWait} (hw : xs.length ≤ 9223372036854775807) : Con Tryz.prog noMv 102 [.d (.sl 2 (xs.map GWait.row)), .d (.sl 2 (ys.map GWait.row))] [] (fun r h => r = bool (eqb xs ys) ∧ h = []) := by
 refine con_of2 k_c_eqWaitS_fits rfl fun C hP hmv => ?_
 unfold k_c_eqWaitS
 refine cx_seq (cx_ops ?_)
 refine ax_q (q_mov rfl) ?_
 refine ax_nil (cx_keep rfl rfl (cx_seq (cx_seq (cx_ops ?_))))
 refine ax_q (q_mov rfl) ?_
 refine ax_q (q_lenS_map rfl) ?_
 refine ax_q (q_mov rfl) ?_
 refine ax_q (q_lenS_map rfl) ?_
 refine ax_q (q_ibin rfl rfl rfl) ?_
 refine ax_nil (cx_keep rfl rfl ?_)
 refine cx_cond rfl (fun h0 => ?_) (fun h0 => ?_)
 ·
  have h0 := nT h0
  refine cx_seq (cx_ops ?_)
  refine ax_q (q_mov rfl) ?_
  refine ax_nil (cx_keep rfl rfl ?_)
  refine cx_ret (ret0 rfl rfl ?_)
  exact ⟨congrArg AM.bool (eqb_f (fun h => h0 (by rw [h]))).symm, rfl⟩
 ·
  have h0 := nF h0
  refine cx_skip ?_
  refine cx_keep rfl rfl (cx_seq (cx_seq (cx_ops ?_)))
  refine ax_q (q_mov rfl) ?_
  refine ax_nil (cx_keep rfl rfl (cx_block ?_))
  have hl : xs.length = ys.length := by omega
  refine cx_loopU (fun n k => k ≤ xs.length ∧ n = xs.length - k ∧ xs.take k = ys.take k) (fun k : Nat => [(5, int k)]) (fun _ => []) ⟨_, 0, ⟨Nat.zero_le _, rfl, rfl⟩, by repeat constructor⟩ ?_
  rintro n k ⟨hk, rfl, ht⟩
  refine cx_seq (cx_seq (cx_ops ?_))
  refine ax_q (q_mov rfl) ?_
  refine ax_q (q_mov rfl) ?_
  refine ax_q (q_lenS_map rfl) ?_
  refine ax_q (q_ibin rfl rfl rfl) ?_
  refine ax_nil (cx_keep rfl rfl ?_)
  refine cx_cond rfl (fun h1 => ?_) (fun h1 => ?_)
  ·
   have h1 := dT h1
   have h1x : k < xs.length := by omega
   have h1y : k < ys.length := by omega
   refine cx_skip ?_
   refine cx_keep rfl rfl (cx_seq (cx_block (cx_seq (cx_draw ?_))))
   refine ax_q (q_mov rfl) ?_
   refine ax_q (q_mov rfl) ?_
   refine ax_q (q_ix rfl rfl (mapAt h1x)) ?_
   first | refine ax_q (q_ldN rfl rfl rfl) ?_ | refine ax_q (q_loadN_ip rfl (Nat.le_refl _)) ?_
   refine ax_q (q_mov rfl) ?_
   refine ax_q (q_mov rfl) ?_
   refine ax_q (q_ix rfl rfl (mapAt h1y)) ?_
   first | refine ax_q (q_ldN rfl rfl rfl) ?_ | refine ax_q (q_loadN_ip rfl (Nat.le_refl _)) ?_
   refine ax_callq rfl (c_eqWait) hP (lal_id _ rfl) rfl ?_
   refine ax_q (q_not rfl) ?_
   refine ax_nil (cx_keep rfl rfl ?_)
   refine cx_cond rfl (fun h2 => ?_) (fun h2 => ?_)
   ·
    have h2 := bT h2
    refine cx_seq (cx_ops ?_)
    refine ax_q (q_mov rfl) ?_
    refine ax_nil (cx_keep rfl rfl ?_)
    refine cx_ret (ret0 rfl rfl ?_)
    exact ⟨congrArg AM.bool (eqbL_no h1x h1y h2).symm, rfl⟩
   ·
    have h2 := bF h2
    refine cx_skip ?_
    refine cx_keep rfl rfl (cx_ops ?_)
    refine ax_q (q_mov rfl) ?_
    refine ax_q (q_add rfl rfl (by omega)) ?_
    refine ax_q (q_mov rfl) ?_
    refine ax_nil ?_
    exact ⟨_, k + 1, by omega, ⟨by omega, rfl, eqbL_step h1x h1y ht h2⟩, by repeat constructor⟩
  ·
   have h1 := dF h1
   refine cx_exit rfl ?_
   refine cx_keep rfl rfl (cx_seq (cx_ops ?_))
   refine ax_q (q_mov rfl) ?_
   refine ax_nil (cx_keep rfl rfl ?_)
   refine cx_ret (ret0 rfl rfl ?_)
   exact ⟨congrArg AM.bool (eqb_t (eq_of_take hl (by rwa [show k = xs.length from by omega] at ht))).symm, rfl⟩


/- loop.example/g00332/laws.eqLocks -/
def k_c_eqLocks : XCode :=
 .seq (.ops [.op (some 2) (.box (.t 0)),
   .op (some 3) (.box (.t 1)),
   .op (some 4) (.mov (.k (.bool false)))])
 (.keep [2, 3] (.seq (.seq (.ops [.op (some 5) (.fadr (.t 2) 0),
   .op (some 6) (.load1 (.t 5)),
   .op (some 7) (.fadr (.t 3) 0),
   .op (some 8) (.load1 (.t 7)),
   .call (some 9) 101 [.t 6, .t 8],
   .op (some 10) (.not (.t 9))])
  (.keep [2, 3, 10] (.cond (.t 10)
  (.seq (.ops [.op (some 4) (.mov (.k (.bool false)))])
   (.keep [4] (.ret)))
  (.skip))))
 (.keep [2, 3] (.seq (.seq (.ops [.op (some 11) (.fadr (.t 2) 1),
   .op (some 12) (.load1 (.t 11)),
   .op (some 13) (.fadr (.t 3) 1),
   .op (some 14) (.load1 (.t 13)),
   .call (some 15) 102 [.t 12, .t 14],
   .op (some 16) (.not (.t 15))])
  (.keep [16] (.cond (.t 16)
  (.seq (.ops [.op (some 4) (.mov (.k (.bool false)))])
   (.keep [4] (.ret)))
  (.skip))))
 (.keep [] (.seq (.ops [.op (some 4) (.mov (.k (.bool true)))])
 (.keep [4] (.ret))))))))
theorem k_c_eqLocks_fits : fitsF Tryz.prog 45 ⟨17, k_c_eqLocks, [.t 4]⟩ = true := by kernel_rfl
theorem c_eqLocks {a b : GLocks} (hw0 : a.Held.length ≤ 9223372036854775807) (hw1 : a.Waits.length ≤ 9223372036854775807) : Con Tryz.prog noMv 45 [a.av, b.av] [] (fun r h => r = bool (eqb a b) ∧ h = []) := by
 refine con_of2 k_c_eqLocks_fits rfl fun C hP hmv => ?_
 unfold k_c_eqLocks
 refine cx_seq (cx_ops ?_)
 refine ax_e (e_box rfl rfl (by decide) rfl rfl rfl) ?_
 refine ax_e (e_box rfl rfl (by decide) rfl rfl rfl) ?_
 refine ax_q (q_mov rfl) ?_
 refine ax_nil (cx_keep rfl rfl (cx_seq (cx_seq (cx_ops ?_))))
 refine ax_q (q_fadr_ptr rfl) ?_
 refine ax_q (q_load1_ptr rfl rfl rfl) ?_
 refine ax_q (q_fadr_ptr rfl) ?_
 refine ax_q (q_load1_ptr rfl rfl rfl) ?_
 refine ax_call rfl (vc_pure0 (c_eqLockS  ?_) hP rfl rfl ?_)
 ·
  assumption
 refine ax_q (q_not rfl) ?_
 refine ax_nil (cx_keep rfl rfl ?_)
 refine cx_cond rfl (fun h0 => ?_) (fun h0 => ?_)
 ·
  have h0 := bT h0
  refine cx_seq (cx_ops ?_)
  refine ax_q (q_mov rfl) ?_
  refine ax_nil (cx_keep rfl rfl ?_)
  refine cx_ret (ret0 rfl rfl ?_)
  exact ⟨congrArg AM.bool (eqb_f (fun h => by rw [h, eqb_rfl] at h0; cases h0)).symm, rfl⟩
 ·
  have h0 := bF h0
  refine cx_skip ?_
  refine cx_keep rfl rfl (cx_seq (cx_seq (cx_ops ?_)))
  refine ax_q (q_fadr_ptr rfl) ?_
  refine ax_q (q_load1_ptr rfl rfl rfl) ?_
  refine ax_q (q_fadr_ptr rfl) ?_
  refine ax_q (q_load1_ptr rfl rfl rfl) ?_
  refine ax_call rfl (vc_pure0 (c_eqWaitS  ?_) hP rfl rfl ?_)
  ·
   assumption
  refine ax_q (q_not rfl) ?_
  refine ax_nil (cx_keep rfl rfl ?_)
  refine cx_cond rfl (fun h1 => ?_) (fun h1 => ?_)
  ·
   have h1 := bT h1
   refine cx_seq (cx_ops ?_)
   refine ax_q (q_mov rfl) ?_
   refine ax_nil (cx_keep rfl rfl ?_)
   refine cx_ret (ret0 rfl rfl ?_)
   exact ⟨congrArg AM.bool (eqb_f (fun h => by rw [h, eqb_rfl] at h1; cases h1)).symm, rfl⟩
  ·
   have h1 := bF h1
   refine cx_skip ?_
   refine cx_keep rfl rfl (cx_seq (cx_ops ?_))
   refine ax_q (q_mov rfl) ?_
   refine ax_nil (cx_keep rfl rfl ?_)
   refine cx_ret (ret0 rfl rfl ?_)
   exact ⟨congrArg AM.bool (eqb_t (GLocks.ext1 (eqb_iff.1 h0) (eqb_iff.1 h1))).symm, rfl⟩


/- loop.example/g00332/laws.eqEngine -/
def k_c_eqEngine : XCode :=
 .seq (.ops [.op (some 2) (.box (.t 0)),
   .op (some 3) (.box (.t 1)),
   .op (some 4) (.mov (.k (.bool false)))])
 (.keep [2, 3] (.seq (.seq (.ops [.op (some 5) (.fadr (.t 2) 0),
   .op (some 6) (.loadN 9 (.t 5)),
   .op (some 7) (.fadr (.t 3) 0),
   .op (some 8) (.loadN 9 (.t 7)),
   .call (some 9) 19 [.t 6, .t 8],
   .op (some 10) (.not (.t 9))])
  (.keep [2, 3, 10] (.cond (.t 10)
  (.seq (.ops [.op (some 4) (.mov (.k (.bool false)))])
   (.keep [4] (.ret)))
  (.skip))))
 (.keep [2, 3] (.seq (.seq (.ops [.op (some 11) (.fadr (.t 2) 9),
   .op (some 12) (.load1 (.t 11)),
   .op (some 13) (.fadr (.t 3) 9),
   .op (some 14) (.load1 (.t 13)),
   .op (some 15) (.eqb true (.t 12) (.t 14))])
  (.keep [2, 3, 15] (.cond (.t 15)
  (.seq (.ops [.op (some 4) (.mov (.k (.bool false)))])
   (.keep [4] (.ret)))
  (.skip))))
 (.keep [2, 3] (.seq (.seq (.ops [.op (some 16) (.fadr (.t 2) 10),
   .op (some 17) (.load1 (.t 16)),
   .op (some 18) (.fadr (.t 3) 10),
   .op (some 19) (.load1 (.t 18)),
   .call (some 20) 44 [.t 17, .t 19],
   .op (some 21) (.not (.t 20))])
  (.keep [2, 3, 21] (.cond (.t 21)
  (.seq (.ops [.op (some 4) (.mov (.k (.bool false)))])
   (.keep [4] (.ret)))
  (.skip))))
 (.keep [2, 3] (.seq (.seq (.ops [.op (some 22) (.fadr (.t 2) 11),
   .op (some 23) (.loadN 2 (.t 22)),
   .op (some 24) (.fadr (.t 3) 11),
   .op (some 25) (.loadN 2 (.t 24)),
   .call (some 26) 45 [.t 23, .t 25],
   .op (some 27) (.not (.t 26))])
  (.keep [2, 3, 27] (.cond (.t 27)
  (.seq (.ops [.op (some 4) (.mov (.k (.bool false)))])
   (.keep [4] (.ret)))
  (.skip))))
 (.keep [2, 3] (.seq (.seq (.ops [.op (some 28) (.fadr (.t 2) 13),
   .op (some 29) (.load1 (.t 28)),
   .op (some 30) (.fadr (.t 3) 13),
   .op (some 31) (.load1 (.t 30)),
   .op (some 32) (.bin .neq (.t 29) (.t 31))])
  (.keep [32] (.cond (.t 32)
  (.seq (.ops [.op (some 4) (.mov (.k (.bool false)))])
   (.keep [4] (.ret)))
  (.skip))))
 (.keep [] (.seq (.ops [.op (some 4) (.mov (.k (.bool true)))])
 (.keep [4] (.ret))))))))))))))
theorem k_c_eqEngine_fits : fitsF Tryz.prog 11 ⟨33, k_c_eqEngine, [.t 4]⟩ = true := by kernel_rfl
theorem c_eqEngine {a b : GEngine} (hb : EnB a) : Con Tryz.prog noMv 11 [a.av, b.av] [] (fun r h => r = bool (eqb a b) ∧ h = []) := by
 refine con_of2 k_c_eqEngine_fits rfl fun C hP hmv => ?_
 unfold k_c_eqEngine
 obtain ⟨hs, hw0, hw1, hw2, hw3⟩ := hb
 refine cx_seq (cx_ops ?_)
 refine ax_e (e_box rfl rfl (by decide) rfl rfl rfl) ?_
 refine ax_e (e_box rfl rfl (by decide) rfl rfl rfl) ?_
 refine ax_q (q_mov rfl) ?_
 refine ax_nil (cx_keep rfl rfl (cx_seq (cx_seq (cx_ops ?_))))
 refine ax_q (q_fadr_ptr rfl) ?_
 refine ax_q (q_ldN rfl rfl rfl) ?_
 refine ax_q (q_fadr_ptr rfl) ?_
 refine ax_q (q_ldN rfl rfl rfl) ?_
 refine ax_call rfl (vc_pure0 (c_eqStore  ?_) hP rfl rfl ?_)
 ·
  assumption
 refine ax_q (q_not rfl) ?_
 refine ax_nil (cx_keep rfl rfl ?_)
 refine cx_cond rfl (fun h0 => ?_) (fun h0 => ?_)
 ·
  have h0 := bT h0
  refine cx_seq (cx_ops ?_)
  refine ax_q (q_mov rfl) ?_
  refine ax_nil (cx_keep rfl rfl ?_)
  refine cx_ret (ret0 rfl rfl ?_)
  exact ⟨congrArg AM.bool (eqb_f (fun h => by rw [h, eqb_rfl] at h0; cases h0)).symm, rfl⟩
 ·
  have h0 := bF h0
  refine cx_skip ?_
  refine cx_keep rfl rfl (cx_seq (cx_seq (cx_ops ?_)))
  refine ax_q (q_fadr_ptr rfl) ?_
  refine ax_q (q_load1_ptr rfl rfl rfl) ?_
  refine ax_q (q_fadr_ptr rfl) ?_
  refine ax_q (q_load1_ptr rfl rfl rfl) ?_
  refine ax_q (q_eqb rfl rfl) ?_
  refine ax_nil (cx_keep rfl rfl ?_)
  refine cx_cond rfl (fun h1 => ?_) (fun h1 => ?_)
  ·
   have h1 := bneT h1
   refine cx_seq (cx_ops ?_)
   refine ax_q (q_mov rfl) ?_
   refine ax_nil (cx_keep rfl rfl ?_)
   refine cx_ret (ret0 rfl rfl ?_)
   exact ⟨congrArg AM.bool (eqb_f (fun h => h1 (by rw [h]))).symm, rfl⟩
  ·
   have h1 := bneF h1
   refine cx_skip ?_
   refine cx_keep rfl rfl (cx_seq (cx_seq (cx_ops ?_)))
   refine ax_q (q_fadr_ptr rfl) ?_
   refine ax_q (q_load1_ptr rfl rfl rfl) ?_
   refine ax_q (q_fadr_ptr rfl) ?_
   refine ax_q (q_load1_ptr rfl rfl rfl) ?_
   refine ax_call rfl (vc_pure0 (c_eqTxS  ?_) hP rfl rfl ?_)
   ·
    first | assumption | omega
   refine ax_q (q_not rfl) ?_
   refine ax_nil (cx_keep rfl rfl ?_)
   refine cx_cond rfl (fun h2 => ?_) (fun h2 => ?_)
   ·
    have h2 := bT h2
    refine cx_seq (cx_ops ?_)
    refine ax_q (q_mov rfl) ?_
    refine ax_nil (cx_keep rfl rfl ?_)
    refine cx_ret (ret0 rfl rfl ?_)
    exact ⟨congrArg AM.bool (eqb_f (fun h => by rw [h, eqb_rfl] at h2; cases h2)).symm, rfl⟩
   ·
    have h2 := bF h2
    refine cx_skip ?_
    refine cx_keep rfl rfl (cx_seq (cx_seq (cx_ops ?_)))
    refine ax_q (q_fadr_ptr rfl) ?_
    refine ax_q (q_ldN rfl rfl rfl) ?_
    refine ax_q (q_fadr_ptr rfl) ?_
    refine ax_q (q_ldN rfl rfl rfl) ?_
    refine ax_call rfl (vc_pure0 (c_eqLocks  ?_ ?_) hP rfl rfl ?_)
    ·
     first | assumption | omega
    ·
     first | assumption | omega
    refine ax_q (q_not rfl) ?_
    refine ax_nil (cx_keep rfl rfl ?_)
    refine cx_cond rfl (fun h3 => ?_) (fun h3 => ?_)
    ·
     have h3 := bT h3
     refine cx_seq (cx_ops ?_)
     refine ax_q (q_mov rfl) ?_
     refine ax_nil (cx_keep rfl rfl ?_)
     refine cx_ret (ret0 rfl rfl ?_)
     exact ⟨congrArg AM.bool (eqb_f (fun h => by rw [h, eqb_rfl] at h3; cases h3)).symm, rfl⟩
    ·
     have h3 := bF h3
     refine cx_skip ?_
     refine cx_keep rfl rfl (cx_seq (cx_seq (cx_ops ?_)))
     refine ax_q (q_fadr_ptr rfl) ?_
     refine ax_q (q_load1_ptr rfl rfl rfl) ?_
     refine ax_q (q_fadr_ptr rfl) ?_
     refine ax_q (q_load1_ptr rfl rfl rfl) ?_
     refine ax_q (q_ibin rfl rfl rfl) ?_
     refine ax_nil (cx_keep rfl rfl ?_)
     refine cx_cond rfl (fun h4 => ?_) (fun h4 => ?_)
     ·
      have h4 := nT h4
      refine cx_seq (cx_ops ?_)
      refine ax_q (q_mov rfl) ?_
      refine ax_nil (cx_keep rfl rfl ?_)
      refine cx_ret (ret0 rfl rfl ?_)
      exact ⟨congrArg AM.bool (eqb_f (fun h => h4 (by rw [h]))).symm, rfl⟩
     ·
      have h4 := nF h4
      refine cx_skip ?_
      refine cx_keep rfl rfl (cx_seq (cx_ops ?_))
      refine ax_q (q_mov rfl) ?_
      refine ax_nil (cx_keep rfl rfl ?_)
      refine cx_ret (ret0 rfl rfl ?_)
      exact ⟨congrArg AM.bool (eqb_t (GEngine.ext1 (eqb_iff.1 h0) h1 (eqb_iff.1 h2) (eqb_iff.1 h3) h4)).symm, rfl⟩


/- loop.example/g00332/spec.l01In -/
def k_c_l01In : XCode :=
 .seq (.ops [.op (some 6) (.mov (.k (.bool false)))])
 (.keep [0, 1, 2] (.seq (.ops [.op (some 7) (.mov (.t 1)),
   .op (some 8) (.mov (.t 0)),
   .op (some 9) (.bin .leq (.t 7) (.t 8)),
   .op (some 10) (.mov (.t 9)),
   .andor 14 true 3 10 [.op (some 11) (.mov (.t 0)), .op (some 12) (.mov (.t 2)), .op (some 13) (.bin .leq (.t 11) (.t 12))] (.t 13),
   .op (some 6) (.mov (.t 14))])
 (.keep [6] (.ret))))
theorem k_c_l01In_fits : fitsF Tryz.prog 37 ⟨15, k_c_l01In, [.t 6]⟩ = true := by kernel_rfl
theorem c_l01In {n lo hi : Int} : Con Tryz.prog noMv 37 [int n, int lo, int hi] [] (fun r h => r = bool (inR n lo hi) ∧ h = []) := by
 refine con_of2 k_c_l01In_fits rfl fun C hP hmv => ?_
 unfold k_c_l01In
 refine cx_seq (cx_ops ?_)
 refine ax_q (q_mov rfl) ?_
 refine ax_nil (cx_keep rfl rfl (cx_seq (cx_ops ?_)))
 refine ax_q (q_mov rfl) ?_
 refine ax_q (q_mov rfl) ?_
 refine ax_q (q_ibin rfl rfl rfl) ?_
 refine ax_q (q_mov rfl) ?_
 apply ax_and rfl rfl
 ·
  intro g
  have g := dT g
  refine ax_q (q_mov rfl) ?_
  refine ax_q (q_mov rfl) ?_
  refine ax_q (q_ibin rfl rfl rfl) ?_
  exact ax_nil ⟨rfl, by repeat constructor⟩
 refine ax_q (q_mov rfl) ?_
 refine ax_nil (cx_keep rfl rfl ?_)
 refine cx_ret (ret0 rfl rfl ?_)
 exact ⟨rfl, rfl⟩


/- loop.example/g00332/spec.l05Frame -/
def k_c_l05Frame : XCode :=
 .seq (.ops [.op (some 2) (.box (.t 0)),
   .op (some 4) (.mov (.k (.int .i64 0)))])
 (.keep [1, 2] (.seq (.seq (.ops [.op (some 5) (.mov (.k (.int .i64 0)))])
  (.keep [1, 2, 5] (.block 0 (.loop (.seq (.seq (.ops [.op (some 6) (.mov (.t 5)),
     .op (some 7) (.fadr (.t 2) 7),
     .op (some 8) (.load1 (.t 7)),
     .op (some 9) (.lenS (.t 8)),
     .op (some 10) (.bin .lss (.t 6) (.t 9))])
   (.keep [1, 2, 5, 10] (.cond (.t 10)
    (.skip)
    (.exit 0))))
   (.keep [1, 2, 5] (.seq (.block 1 (.seq (.ops [.op (some 13) (.fadr (.t 2) 7),
     .op (some 14) (.load1 (.t 13)),
     .op (some 15) (.mov (.t 5)),
     .op (some 16) (.iadr 5 (.t 14) (.t 15)),
     .op (some 17) (.fadr (.t 16) 0),
     .op (some 18) (.load1 (.t 17)),
     .op (some 19) (.mov (.t 1)),
     .op (some 20) (.bin .eql (.t 18) (.t 19))])
    (.keep [1, 2, 5, 20] (.cond (.t 20)
    (.seq (.ops [.op (some 21) (.mov (.t 5)),
      .op (some 4) (.mov (.t 21))])
     (.keep [4] (.ret)))
    (.skip)))))
   (.keep [1, 2, 5] (.ops [.op (some 11) (.mov (.t 5)),
    .op (some 12) (.bin .add (.t 11) (.k (.int .i64 1))),
    .op (some 5) (.mov (.t 12))])))))))))
 (.keep [] (.seq (.ops [.op (some 4) (.mov (.k (.int .i64 (-1))))])
 (.keep [4] (.ret))))))
theorem k_c_l05Frame_fits : fitsF Tryz.prog 50 ⟨22, k_c_l05Frame, [.t 4]⟩ = true := by kernel_rfl
theorem c_l05Frame {s : GStore} {no : Int} (hf : s.Frames.length ≤ 1048576) : Con Tryz.prog noMv 50 [s.av, int no] [] (fun r h => r = int (frameAt s no) ∧ h = []) := by
 refine con_of2 k_c_l05Frame_fits rfl fun C hP hmv => ?_
 unfold k_c_l05Frame
 refine cx_seq (cx_ops ?_)
 refine ax_e (e_box rfl rfl (by decide) rfl rfl rfl) ?_
 refine ax_q (q_mov rfl) ?_
 refine ax_nil (cx_keep rfl rfl (cx_seq (cx_seq (cx_ops ?_))))
 refine ax_q (q_mov rfl) ?_
 refine ax_nil (cx_keep rfl rfl (cx_block ?_))
 refine cx_loopU (fun n k => k ≤ s.Frames.length ∧ n = s.Frames.length - k ∧ ∀ j, j < k → ∀ x, s.Frames[j]? = some x → decide (x.No = no) = false) (fun k : Nat => [(5, int k)]) (fun _ => [(2, .box (s.row.map .d))]) ⟨_, 0, ⟨Nat.zero_le _, rfl, fun j hj => by omega⟩, by repeat constructor⟩ ?_
 rintro n k ⟨hk, rfl, hb⟩
 refine cx_seq (cx_seq (cx_ops ?_))
 refine ax_q (q_mov rfl) ?_
 refine ax_q (q_fadr_ptr rfl) ?_
 refine ax_q (q_load1_ptr rfl rfl rfl) ?_
 refine ax_q (q_lenS_map rfl) ?_
 refine ax_q (q_ibin rfl rfl rfl) ?_
 refine ax_nil (cx_keep rfl rfl ?_)
 refine cx_cond rfl (fun h0 => ?_) (fun h0 => ?_)
 ·
  have h0 := dT h0
  have h0x : k < s.Frames.length := by omega
  refine cx_skip ?_
  refine cx_keep rfl rfl (cx_seq (cx_block (cx_seq (cx_ops ?_))))
  refine ax_q (q_fadr_ptr rfl) ?_
  refine ax_q (q_load1_ptr rfl rfl rfl) ?_
  refine ax_q (q_mov rfl) ?_
  refine ax_q (q_ix rfl rfl (mapAt h0x)) ?_
  first | refine ax_q (q_fadr_ptr rfl) ?_ | refine ax_q (q_fadr_rptr rfl) ?_ | refine ax_q (q_fadr_ip rfl) ?_
  first | refine ax_q (q_load1_ptr rfl rfl rfl) ?_ | refine ax_q (q_load1_ip rfl) ?_
  refine ax_q (q_mov rfl) ?_
  refine ax_q (q_ibin rfl rfl rfl) ?_
  refine ax_nil (cx_keep rfl rfl ?_)
  refine cx_cond rfl (fun h1 => ?_) (fun h1 => ?_)
  ·
   have h1 := dT h1
   refine cx_seq (cx_ops ?_)
   refine ax_q (q_mov rfl) ?_
   refine ax_q (q_mov rfl) ?_
   refine ax_nil (cx_keep rfl rfl ?_)
   refine cx_ret (ret0 rfl rfl ?_)
   exact ⟨by unfold frameAt; rw [idxOf_hit h0x hb (decide_eq_true h1)]; rfl, rfl⟩
  ·
   have h1 := dF h1
   refine cx_skip ?_
   refine cx_keep rfl rfl (cx_ops ?_)
   refine ax_q (q_mov rfl) ?_
   refine ax_qe (r' := int ((k + 1 : Nat) : Int)) (q_ibin rfl rfl rfl) (by rw [wi (by omega) (by omega)]; rfl) ?_
   refine ax_q (q_mov rfl) ?_
   refine ax_nil ?_
   exact ⟨_, k + 1, by omega, ⟨by omega, rfl, before_step h0x hb (decide_eq_false h1)⟩, by repeat constructor⟩
 ·
  have h0 := dF h0
  have h0x : k = s.Frames.length := by omega
  refine cx_exit rfl ?_
  refine cx_keep rfl rfl (cx_seq (cx_ops ?_))
  refine ax_q (q_mov rfl) ?_
  refine ax_nil (cx_keep rfl rfl ?_)
  refine cx_ret (ret0 rfl rfl ?_)
  exact ⟨by unfold frameAt; rw [idxOf_none (fun i hi => hb i (by omega))]; rfl, rfl⟩


/- loop.example/g00332/spec.DiskOK -/
def k_c_sDiskOK : XCode :=
 .seq (.ops [.op (some 1) (.box (.t 0)),
   .op (some 2) (.mov (.k (.bool false)))])
 (.keep [1] (.seq (.ops [.op (some 7) (.fadr (.t 1) 0),
   .op (some 8) (.load1 (.t 7)),
   .op (some 9) (.lenS (.t 8)),
   .op (some 3) (.mov (.t 9))])
 (.keep [1, 3] (.seq (.seq (.ops [.op (some 10) (.mov (.t 3)),
   .call (some 11) 37 [.t 10, .k (.int .i64 1), .k (.int .i64 100)],
   .op (some 12) (.not (.t 11)),
   .op (some 13) (.mov (.t 12)),
   .andor 18 false 3 13 [.op (some 14) (.fadr (.t 1) 1), .op (some 15) (.load1 (.t 14)), .op (some 16) (.lenS (.t 15)), .op (some 17) (.bin .gtr (.t 16) (.k (.int .i64 500)))] (.t 17),
   .op (some 19) (.mov (.t 18)),
   .andor 24 false 9 19 [.op (some 20) (.fadr (.t 1) 3), .op (some 21) (.load1 (.t 20)), .op (some 22) (.lenS (.t 21)), .op (some 23) (.bin .gtr (.t 22) (.k (.int .i64 500)))] (.t 23),
   .op (some 25) (.mov (.t 24)),
   .andor 35 false 15 25 [.op (some 26) (.fadr (.t 1) 2), .op (some 27) (.load1 (.t 26)), .op (some 28) (.not (.t 27)), .op (some 29) (.mov (.t 28)), .andor 34 true 19 29 [.op (some 30) (.fadr (.t 1) 3), .op (some 31) (.load1 (.t 30)), .op (some 32) (.lenS (.t 31)), .op (some 33) (.bin .gtr (.t 32) (.k (.int .i64 0)))] (.t 33)] (.t 34)])
  (.keep [1, 3, 35] (.cond (.t 35)
  (.seq (.ops [.op (some 2) (.mov (.k (.bool false)))])
   (.keep [2] (.ret)))
  (.skip))))
 (.keep [1, 3] (.seq (.seq (.ops [.op (some 4) (.mov (.k (.int .i64 0)))])
  (.keep [1, 3, 4] (.block 0 (.loop (.seq (.seq (.ops [.op (some 36) (.mov (.t 4)),
     .op (some 37) (.mov (.t 3)),
     .op (some 38) (.bin .lss (.t 36) (.t 37))])
   (.keep [1, 3, 4, 38] (.cond (.t 38)
    (.skip)
    (.exit 0))))
   (.keep [1, 3, 4] (.seq (.block 1 (.seq (.ops [.op (some 41) (.fadr (.t 1) 0),
     .op (some 42) (.load1 (.t 41)),
     .op (some 43) (.mov (.t 4)),
     .op (some 44) (.iadr 1 (.t 42) (.t 43)),
     .op (some 45) (.load1 (.t 44)),
     .op (some 46) (.lenT (.t 45)),
     .op (some 47) (.bin .gtr (.t 46) (.k (.int .i64 160)))])
    (.keep [1, 3, 4, 47] (.cond (.t 47)
    (.seq (.ops [.op (some 2) (.mov (.k (.bool false)))])
     (.keep [2] (.ret)))
    (.skip)))))
   (.keep [1, 3, 4] (.ops [.op (some 39) (.mov (.t 4)),
    .op (some 40) (.bin .add (.t 39) (.k (.int .i64 1))),
    .op (some 4) (.mov (.t 40))])))))))))
 (.keep [1, 3] (.seq (.seq (.ops [.op (some 5) (.mov (.k (.int .i64 0)))])
  (.keep [1, 3, 5] (.block 2 (.loop (.seq (.seq (.ops [.op (some 48) (.mov (.t 5)),
     .op (some 49) (.fadr (.t 1) 1),
     .op (some 50) (.load1 (.t 49)),
     .op (some 51) (.lenS (.t 50)),
     .op (some 52) (.bin .lss (.t 48) (.t 51))])
   (.keep [1, 3, 5, 52] (.cond (.t 52)
    (.skip)
    (.exit 2))))
   (.keep [1, 3, 5] (.seq (.block 3 (.seq (.ops [.op (some 55) (.fadr (.t 1) 1),
     .op (some 56) (.load1 (.t 55)),
     .op (some 57) (.mov (.t 5)),
     .op (some 58) (.iadr 2 (.t 56) (.t 57)),
     .op (some 59) (.loadN 2 (.t 58)),
     .op (some 6) (.alloc [.int .i64 0, .str []]),
     .op none (.store 2 (.t 6) (.t 59))])
    (.keep [1, 3, 5, 6] (.seq (.ops [.op (some 60) (.fadr (.t 6) 0),
     .op (some 61) (.load1 (.t 60)),
     .op (some 62) (.mov (.t 3)),
     .op (some 63) (.bin .sub (.t 62) (.k (.int .i64 1))),
     .call (some 64) 37 [.t 61, .k (.int .i64 0), .t 63],
     .op (some 65) (.not (.t 64)),
     .op (some 66) (.mov (.t 65)),
     .andor 71 false 6 66 [.op (some 67) (.fadr (.t 6) 1), .op (some 68) (.load1 (.t 67)), .op (some 69) (.lenT (.t 68)), .op (some 70) (.bin .gtr (.t 69) (.k (.int .i64 160)))] (.t 70)])
    (.keep [1, 3, 5, 71] (.cond (.t 71)
    (.seq (.ops [.op (some 2) (.mov (.k (.bool false)))])
     (.keep [2] (.ret)))
    (.skip)))))))
   (.keep [1, 3, 5] (.ops [.op (some 53) (.mov (.t 5)),
    .op (some 54) (.bin .add (.t 53) (.k (.int .i64 1))),
    .op (some 5) (.mov (.t 54))])))))))))
 (.keep [] (.seq (.ops [.op (some 2) (.mov (.k (.bool true)))])
 (.keep [2] (.ret))))))))))))
theorem k_c_sDiskOK_fits : fitsF Tryz.prog 82 ⟨72, k_c_sDiskOK, [.t 2]⟩ = true := by kernel_rfl
theorem c_sDiskOK {d : GDisk} (hw0 : d.Sectors.length ≤ 1048576) (hw1 : d.Cache.length ≤ 1048576) (hw2 : d.Keep.length ≤ 1048576) : Con Tryz.prog noMv 82 [d.av] [] (fun r h => r = bool (diskOK d) ∧ h = []) := by
 refine con_of2 k_c_sDiskOK_fits rfl fun C hP hmv => ?_
 unfold k_c_sDiskOK
 refine cx_seq (cx_ops ?_)
 refine ax_e (e_box rfl rfl (by decide) rfl rfl rfl) ?_
 refine ax_q (q_mov rfl) ?_
 refine ax_nil (cx_keep rfl rfl (cx_seq (cx_ops ?_)))
 refine ax_q (q_fadr_ptr rfl) ?_
 refine ax_q (q_load1_ptr rfl rfl rfl) ?_
 refine ax_q (q_lenS_map rfl) ?_
 refine ax_q (q_mov rfl) ?_
 refine ax_nil (cx_keep rfl rfl (cx_seq (cx_seq (cx_ops ?_))))
 refine ax_q (q_mov rfl) ?_
 refine ax_call rfl (vc_pure0 (c_l01In  ) hP rfl rfl ?_)
 refine ax_q (q_not rfl) ?_
 refine ax_q (q_mov rfl) ?_
 apply ax_or rfl rfl
 ·
  intro g
  have g := bF g
  refine ax_q (q_fadr_ptr rfl) ?_
  refine ax_q (q_load1_ptr rfl rfl rfl) ?_
  refine ax_q (q_lenS_map rfl) ?_
  refine ax_q (q_ibin rfl rfl rfl) ?_
  exact ax_nil ⟨rfl, by repeat constructor⟩
 refine ax_q (q_mov rfl) ?_
 apply ax_or rfl rfl
 ·
  intro g
  have g := (fun h => And.intro (bF (or_F h).1) (dF (or_F h).2)) g
  refine ax_q (q_fadr_ptr rfl) ?_
  refine ax_q (q_load1_ptr rfl rfl rfl) ?_
  refine ax_q (q_lenS_map rfl) ?_
  refine ax_q (q_ibin rfl rfl rfl) ?_
  exact ax_nil ⟨rfl, by repeat constructor⟩
 refine ax_q (q_mov rfl) ?_
 apply ax_or rfl rfl
 ·
  intro g
  have g := (fun h => And.intro ((fun h => And.intro (bF (or_F h).1) (dF (or_F h).2)) (or_F h).1) (dF (or_F h).2)) g
  refine ax_q (q_fadr_ptr rfl) ?_
  refine ax_q (q_load1_ptr rfl rfl rfl) ?_
  refine ax_q (q_not rfl) ?_
  refine ax_q (q_mov rfl) ?_
  apply ax_and rfl rfl
  ·
   intro g
   have g := bT g
   refine ax_q (q_fadr_ptr rfl) ?_
   refine ax_q (q_load1_ptr rfl rfl rfl) ?_
   refine ax_q (q_lenS_map rfl) ?_
   refine ax_q (q_ibin rfl rfl rfl) ?_
   exact ax_nil ⟨rfl, by repeat constructor⟩
  exact ax_nil ⟨rfl, by repeat constructor⟩
 refine ax_nil (cx_keep rfl rfl ?_)
 refine cx_cond rfl (fun h0 => ?_) (fun h0 => ?_)
 ·
  have h0 : badHead d = true := h0
  refine cx_seq (cx_ops ?_)
  refine ax_q (q_mov rfl) ?_
  refine ax_nil (cx_keep rfl rfl ?_)
  refine cx_ret (ret0 rfl rfl ?_)
  exact ⟨by unfold diskOK; rw [h0]; rfl, rfl⟩
 ·
  have h0 : badHead d = false := h0
  refine cx_skip ?_
  refine cx_keep rfl rfl (cx_seq (cx_seq (cx_ops ?_)))
  refine ax_q (q_mov rfl) ?_
  refine ax_nil (cx_keep rfl rfl (cx_block ?_))
  refine cx_loopU (fun n k => k ≤ d.Sectors.length ∧ n = d.Sectors.length - k ∧ ∀ j, j < k → ∀ x, d.Sectors[j]? = some x → long160 x = false) (fun k : Nat => [(4, int k)]) (fun _ => [(1, .box [.d (.sl 1 (d.Sectors.map strRow)), .d (.sl 2 (d.Cache.map GPending.row)), .d (.bool d.Armed), .d (.sl 1 (d.Keep.map intRow))])]) ⟨_, 0, ⟨Nat.zero_le _, rfl, fun j hj => by omega⟩, by repeat constructor⟩ ?_
  rintro n k ⟨hk, rfl, hb⟩
  refine cx_seq (cx_seq (cx_ops ?_))
  refine ax_q (q_mov rfl) ?_
  refine ax_q (q_mov rfl) ?_
  refine ax_q (q_ibin rfl rfl rfl) ?_
  refine ax_nil (cx_keep rfl rfl ?_)
  refine cx_cond rfl (fun h1 => ?_) (fun h1 => ?_)
  ·
   have h1 := dT h1
   have h1x : k < d.Sectors.length := by omega
   refine cx_skip ?_
   refine cx_keep rfl rfl (cx_seq (cx_block (cx_seq (cx_ops ?_))))
   refine ax_q (q_fadr_ptr rfl) ?_
   refine ax_q (q_load1_ptr rfl rfl rfl) ?_
   refine ax_q (q_mov rfl) ?_
   refine ax_q (q_ix rfl rfl (mapAt h1x)) ?_
   first | refine ax_q (q_load1_ptr rfl rfl rfl) ?_ | refine ax_q (q_load1_ip rfl) ?_
   refine ax_q (q_lenT rfl) ?_
   refine ax_q (q_ibin rfl rfl rfl) ?_
   refine ax_nil (cx_keep rfl rfl ?_)
   refine cx_cond rfl (fun h2 => ?_) (fun h2 => ?_)
   ·
    have h2 : long160 d.Sectors[k] = true := h2
    refine cx_seq (cx_ops ?_)
    refine ax_q (q_mov rfl) ?_
    refine ax_nil (cx_keep rfl rfl ?_)
    refine cx_ret (ret0 rfl rfl ?_)
    exact ⟨by unfold diskOK; rw [h0, any_hit h1x h2]; rfl, rfl⟩
   ·
    have h2 : long160 d.Sectors[k] = false := h2
    refine cx_skip ?_
    refine cx_keep rfl rfl (cx_ops ?_)
    refine ax_q (q_mov rfl) ?_
    refine ax_qe (r' := int ((k + 1 : Nat) : Int)) (q_ibin rfl rfl rfl) (by rw [wi (by omega) (by omega)]; rfl) ?_
    refine ax_q (q_mov rfl) ?_
    refine ax_nil ?_
    exact ⟨_, k + 1, by omega, ⟨by omega, rfl, before_step h1x hb h2⟩, by repeat constructor⟩
  ·
   have h1 := dF h1
   have h1x : k = d.Sectors.length := by omega
   subst h1x
   refine cx_exit rfl ?_
   refine cx_keep rfl rfl (cx_seq (cx_seq (cx_ops ?_)))
   refine ax_q (q_mov rfl) ?_
   refine ax_nil (cx_keep rfl rfl (cx_block ?_))
   refine cx_loopU (fun n k => k ≤ d.Cache.length ∧ n = d.Cache.length - k ∧ ∀ j, j < k → ∀ x, d.Cache[j]? = some x → badAt d.Sectors.length x = false) (fun k : Nat => [(5, int k)]) (fun _ => [(1, .box [.d (.sl 1 (d.Sectors.map strRow)), .d (.sl 2 (d.Cache.map GPending.row)), .d (.bool d.Armed), .d (.sl 1 (d.Keep.map intRow))])]) ⟨_, 0, ⟨Nat.zero_le _, rfl, fun j hj => by omega⟩, by repeat constructor⟩ ?_
   rintro n k ⟨hk, rfl, hc⟩
   refine cx_seq (cx_seq (cx_ops ?_))
   refine ax_q (q_mov rfl) ?_
   refine ax_q (q_fadr_ptr rfl) ?_
   refine ax_q (q_load1_ptr rfl rfl rfl) ?_
   refine ax_q (q_lenS_map rfl) ?_
   refine ax_q (q_ibin rfl rfl rfl) ?_
   refine ax_nil (cx_keep rfl rfl ?_)
   refine cx_cond rfl (fun h3 => ?_) (fun h3 => ?_)
   ·
    have h3 := dT h3
    have h3x : k < d.Cache.length := by omega
    refine cx_skip ?_
    refine cx_keep rfl rfl (cx_seq (cx_block (cx_seq (cx_ops ?_))))
    refine ax_q (q_fadr_ptr rfl) ?_
    refine ax_q (q_load1_ptr rfl rfl rfl) ?_
    refine ax_q (q_mov rfl) ?_
    refine ax_q (q_ix rfl rfl (mapAt h3x)) ?_
    first | refine ax_q (q_ldN rfl rfl rfl) ?_ | refine ax_q (q_loadN_ip rfl (Nat.le_refl _)) ?_
    refine ax_e (e_alloc (by decide) rfl rfl) ?_
    refine ax_e (e_st rfl rfl rfl rfl rfl rfl rfl) ?_
    refine ax_nil (cx_keep rfl rfl (cx_seq (cx_ops ?_)))
    refine ax_q (q_fadr_ptr rfl) ?_
    refine ax_q (q_load1_ptr rfl rfl rfl) ?_
    refine ax_q (q_mov rfl) ?_
    refine ax_q (q_sub rfl rfl (by omega)) ?_
    refine ax_call rfl (vc_pure0 (c_l01In  ) hP rfl rfl ?_)
    refine ax_q (q_not rfl) ?_
    refine ax_q (q_mov rfl) ?_
    apply ax_or rfl rfl
    ·
     intro g
     have g := bF g
     refine ax_q (q_fadr_ptr rfl) ?_
     refine ax_q (q_load1_ptr rfl rfl rfl) ?_
     refine ax_q (q_lenT rfl) ?_
     refine ax_q (q_ibin rfl rfl rfl) ?_
     exact ax_nil ⟨rfl, by repeat constructor⟩
    refine ax_nil (cx_keep rfl rfl ?_)
    refine cx_cond rfl (fun h4 => ?_) (fun h4 => ?_)
    ·
     have h4 : badAt d.Sectors.length d.Cache[k] = true := h4
     refine cx_seq (cx_ops ?_)
     refine ax_q (q_mov rfl) ?_
     refine ax_nil (cx_keep rfl rfl ?_)
     refine cx_ret (ret0 rfl rfl ?_)
     exact ⟨by unfold diskOK; rw [h0, any_hit h3x h4, Bool.not_true, Bool.and_false, Bool.and_false]; rfl, rfl⟩
    ·
     have h4 : badAt d.Sectors.length d.Cache[k] = false := h4
     refine cx_skip ?_
     refine cx_keep rfl rfl (cx_ops ?_)
     refine ax_q (q_mov rfl) ?_
     refine ax_qe (r' := int ((k + 1 : Nat) : Int)) (q_ibin rfl rfl rfl) (by rw [wi (by omega) (by omega)]; rfl) ?_
     refine ax_q (q_mov rfl) ?_
     refine ax_nil ?_
     exact ⟨_, k + 1, by omega, ⟨by omega, rfl, before_step h3x hc h4⟩, by repeat constructor⟩
   ·
    have h3 := dF h3
    have h3x : k = d.Cache.length := by omega
    subst h3x
    refine cx_exit rfl ?_
    refine cx_keep rfl rfl (cx_seq (cx_ops ?_))
    refine ax_q (q_mov rfl) ?_
    refine ax_nil (cx_keep rfl rfl ?_)
    refine cx_ret (ret0 rfl rfl ?_)
    exact ⟨by unfold diskOK; rw [h0, any_all (fun i hi => hb i (by omega)), any_all (fun i hi => hc i (by omega))]; rfl, rfl⟩


/- loop.example/g00332/spec.l04ReadCheck -/
def k_c_l04ReadCheck : XCode :=
 .seq (.ops [.op (some 2) (.mov (.k (.nils 2))),
   .op (some 3) (.mov (.k (.nils 2))),
   .op (some 4) (.mov (.k (.bool false)))])
 (.keep [0] (.seq (.ops [.op (some 10) (.bslice 2 []),
   .op (some 11) (.bslice 2 []),
   .op (some 12) (.bslice 1 [.t 10, .t 11]),
   .op (some 5) (.mov (.t 12))])
 (.keep [0, 5] (.seq (.ops [.op (some 6) (.mov (.k (.int .i64 0)))])
 (.keep [0, 5, 6] (.seq (.seq (.ops [.op (some 7) (.mov (.k (.int .i64 0)))])
  (.keep [0, 5, 6, 7] (.block 0 (.loop (.seq (.seq (.ops [.op (some 13) (.mov (.t 7)),
     .op (some 14) (.bin .lss (.t 13) (.k (.int .i64 2)))])
   (.keep [0, 5, 6, 7, 14] (.cond (.t 14)
    (.skip)
    (.exit 0))))
   (.keep [0, 5, 6, 7] (.seq (.block 1 (.seq (.seq (.ops [.op (some 17) (.mov (.t 6)),
      .op (some 18) (.mov (.t 0)),
      .op (some 19) (.lenT (.t 18)),
      .op (some 20) (.bin .geq (.t 17) (.t 19))])
    (.keep [0, 5, 6, 7, 20] (.cond (.t 20)
     (.seq (.draw [.op (some 21) (.mov (.t 5)),
       .op (some 22) (.iadr 1 (.t 21) (.k (.int .i64 0))),
       .op (some 23) (.load1 (.t 22)),
       .op (some 24) (.mov (.t 5)),
       .op (some 25) (.iadr 1 (.t 24) (.k (.int .i64 1))),
       .op (some 26) (.load1 (.t 25)),
       .op (some 2) (.mov (.t 23)),
       .op (some 3) (.mov (.t 26)),
       .op (some 4) (.mov (.k (.bool false)))])
     (.keep [2, 3, 4] (.ret)))
     (.skip))))
    (.keep [0, 5, 6, 7] (.seq (.ops [.op (some 27) (.mov (.t 0)),
     .op (some 28) (.mov (.t 6)),
     .op (some 29) (.idxS (.t 27) (.t 28)),
     .op (some 30) (.conv .i64 (.t 29)),
     .op (some 8) (.mov (.t 30))])
    (.keep [0, 5, 6, 7, 8] (.seq (.ops [.op (some 31) (.mov (.t 6)),
     .op (some 32) (.bin .add (.t 31) (.k (.int .i64 1))),
     .op (some 6) (.mov (.t 32))])
    (.keep [0, 5, 6, 7, 8] (.seq (.seq (.ops [.op (some 33) (.mov (.t 6)),
      .op (some 34) (.mov (.t 8)),
      .op (some 35) (.bin .mul (.k (.int .i64 2)) (.t 34)),
      .op (some 36) (.bin .add (.t 33) (.t 35)),
      .op (some 37) (.mov (.t 0)),
      .op (some 38) (.lenT (.t 37)),
      .op (some 39) (.bin .gtr (.t 36) (.t 38))])
    (.keep [0, 5, 6, 7, 8, 39] (.cond (.t 39)
     (.seq (.draw [.op (some 40) (.mov (.t 5)),
       .op (some 41) (.iadr 1 (.t 40) (.k (.int .i64 0))),
       .op (some 42) (.load1 (.t 41)),
       .op (some 43) (.mov (.t 5)),
       .op (some 44) (.iadr 1 (.t 43) (.k (.int .i64 1))),
       .op (some 45) (.load1 (.t 44)),
       .op (some 2) (.mov (.t 42)),
       .op (some 3) (.mov (.t 45)),
       .op (some 4) (.mov (.k (.bool false)))])
     (.keep [2, 3, 4] (.ret)))
     (.skip))))
    (.keep [0, 5, 6, 7, 8] (.seq (.ops [.op (some 9) (.mov (.k (.int .i64 0)))])
    (.keep [0, 5, 6, 7, 8, 9] (.block 2 (.loop (.seq (.seq (.ops [.op (some 46) (.mov (.t 9)),
       .op (some 47) (.mov (.t 8)),
       .op (some 48) (.bin .lss (.t 46) (.t 47))])
     (.keep [0, 5, 6, 7, 8, 9, 48] (.cond (.t 48)
      (.skip)
      (.exit 2))))
     (.keep [0, 5, 6, 7, 8, 9] (.seq (.block 3 (.seq (.drawE [[], [], [], [], [2, 3], [2, 3, 4], [], [], [6, 7], [6, 7, 8], [], [], [11], [10, 11, 12], [10, 11, 12, 13], [6, 7, 8, 9, 10, 11, 12, 13, 14], [6, 7, 8, 9, 10, 11, 12, 13, 14, 15], [2, 3, 4, 5, 6, 7, 8, 9, 10, 11, 12, 13, 14, 15, 16], [0, 1, 2, 3, 4, 5, 6, 7, 8, 9, 10, 11, 12, 13, 14, 15, 16, 17], [0, 1, 2, 3, 4, 5, 6, 7, 8, 9, 10, 11, 12, 13, 14, 15, 16, 17, 18]] [.op (some 51) (.mov (.t 5)),
       .op (some 52) (.mov (.t 7)),
       .op (some 53) (.mov (.t 5)),
       .op (some 54) (.mov (.t 7)),
       .op (some 55) (.iadr 1 (.t 53) (.t 54)),
       .op (some 56) (.load1 (.t 55)),
       .op (some 57) (.mov (.t 0)),
       .op (some 58) (.mov (.t 6)),
       .op (some 59) (.idxS (.t 57) (.t 58)),
       .op (some 60) (.conv .i64 (.t 59)),
       .op (some 61) (.mov (.t 0)),
       .op (some 62) (.mov (.t 6)),
       .op (some 63) (.bin .add (.t 62) (.k (.int .i64 1))),
       .op (some 64) (.idxS (.t 61) (.t 63)),
       .op (some 65) (.conv .i64 (.t 64)),
       .op (some 66) (.build [.int .i64 0, .int .i64 0] [(0, 1, .t 60), (1, 1, .t 65)]),
       .op (some 67) (.bslice 2 [.t 66]),
       .op (some 68) (.app 2 16 [.int .i64 0, .int .i64 0] (.t 56) (.t 67))]
       [.op (some 69) (.iadr 1 (.t 51) (.t 52)),
       .op none (.store 1 (.t 69) (.t 68))])
      (.keep [0, 5, 6, 7, 8, 9] (.ops [.op (some 70) (.mov (.t 6)),
       .op (some 71) (.bin .add (.t 70) (.k (.int .i64 2))),
       .op (some 6) (.mov (.t 71))]))))
     (.keep [0, 5, 6, 7, 8, 9] (.ops [.op (some 49) (.mov (.t 9)),
      .op (some 50) (.bin .add (.t 49) (.k (.int .i64 1))),
      .op (some 9) (.mov (.t 50))]))))))))))))))))))
   (.keep [0, 5, 6, 7] (.ops [.op (some 15) (.mov (.t 7)),
    .op (some 16) (.bin .add (.t 15) (.k (.int .i64 1))),
    .op (some 7) (.mov (.t 16))])))))))))
 (.keep [0, 5, 6] (.seq (.draw [.op (some 72) (.mov (.t 5)),
   .op (some 73) (.iadr 1 (.t 72) (.k (.int .i64 0))),
   .op (some 74) (.load1 (.t 73)),
   .op (some 75) (.mov (.t 5)),
   .op (some 76) (.iadr 1 (.t 75) (.k (.int .i64 1))),
   .op (some 77) (.load1 (.t 76)),
   .op (some 78) (.mov (.t 6)),
   .op (some 79) (.mov (.t 0)),
   .op (some 80) (.lenT (.t 79)),
   .op (some 81) (.bin .eql (.t 78) (.t 80)),
   .op (some 2) (.mov (.t 74)),
   .op (some 3) (.mov (.t 77)),
   .op (some 4) (.mov (.t 81))])
 (.keep [2, 3, 4] (.ret))))))))))
theorem k_c_l04ReadCheck_fits : fitsF Tryz.prog 220 ⟨82, k_c_l04ReadCheck, [.t 2, .t 3, .t 4]⟩ = true := by kernel_rfl
set_option maxHeartbeats 4000000 in
theorem c_l04ReadCheck {t : Str} (hl : t.length ≤ 1048576) : Con Tryz.prog noMv 220 [str t] [] (fun r h => r = .tup [.d (.sl 2 ((readX t).1.map prRow)), .d (.sl 2 ((readX t).2.1.map prRow)), bool (readX t).2.2] ∧ h = []) := by
 refine con_of2 k_c_l04ReadCheck_fits rfl fun C hP hmv => ?_
 unfold k_c_l04ReadCheck
 refine cx_seq (cx_ops ?_)
 refine ax_q (q_mov rfl) ?_
 refine ax_q (q_mov rfl) ?_
 refine ax_q (q_mov rfl) ?_
 refine ax_nil (cx_keep rfl rfl (cx_seq (cx_ops ?_)))
 refine ax_e (e_bslice rfl (by decide) rfl rfl) ?_
 refine ax_e (e_bslice rfl (by decide) rfl rfl) ?_
 refine ax_e (e_bsliceB rfl rfl rfl (by decide) rfl rfl) ?_
 refine ax_q (q_mov rfl) ?_
 refine ax_nil (cx_keep rfl rfl (cx_seq (cx_ops ?_)))
 refine ax_q (q_mov rfl) ?_
 refine ax_nil (cx_keep rfl rfl (cx_seq (cx_seq (cx_ops ?_))))
 refine ax_q (q_mov rfl) ?_
 refine ax_nil (cx_keep rfl rfl (cx_block ?_))
 refine cx_loopU (fun m (s : Nat × List Pr × List Pr × Nat) => m = 2 - s.1 ∧ CkInv t s.1 s.2.1 s.2.2.1 s.2.2.2) (fun s => [(6, int (s.2.2.2 : Nat)), (7, int (s.1 : Nat))]) (fun s => [(12, .box [.osl 10 2 0 s.2.1.length, .osl 11 2 0 s.2.2.1.length]), (10, .rows 2 (s.2.1.map prRow)), (11, .rows 2 (s.2.2.1.map prRow))]) ⟨_, (0, [], [], 0), ⟨rfl, ck0⟩, by repeat constructor⟩ ?_
 rintro m ⟨k, l1, l2, p⟩ ⟨rfl, hk⟩
 simp only at hk ⊢
 obtain ⟨hp, hl1, hl2, hk⟩ := hk
 refine cx_seq (cx_seq (cx_ops ?_))
 refine ax_q (q_mov rfl) ?_
 refine ax_q (q_ibin rfl rfl rfl) ?_
 refine ax_nil (cx_keep rfl rfl ?_)
 refine cx_cond rfl (fun h0 => ?_) (fun h0 => ?_)
 ·
  have h0 := dT h0
  have hk : (k = 0 ∧ l1 = [] ∧ l2 = [] ∧ p = 0) ∨ (k = 1 ∧ l2 = [] ∧ readX t = stage2 l1 (t.drop p)) := by
   rcases hk with h | h | ⟨h, _⟩
   ·
    exact .inl h
   ·
    exact .inr h
   ·
    omega
  rcases hk with ⟨rfl, rfl, rfl, rfl⟩ | ⟨rfl, rfl, hkk⟩
  ·
   skip
   refine cx_skip ?_
   refine cx_keep rfl rfl (cx_seq (cx_block (cx_seq (cx_seq (cx_ops ?_)))))
   refine ax_q (q_mov rfl) ?_
   refine ax_q (q_mov rfl) ?_
   refine ax_q (q_lenT rfl) ?_
   refine ax_q (q_ibin rfl rfl rfl) ?_
   refine ax_nil (cx_keep rfl rfl ?_)
   refine cx_cond rfl (fun h1 => ?_) (fun h1 => ?_)
   ·
    have h1 := dT h1
    refine cx_seq (cx_draw ?_)
    refine ax_q (q_mov rfl) ?_
    refine ax_q (q_ixB rfl rfl (by decide)) ?_
    refine ax_q (q_load1_ptr rfl rfl rfl) ?_
    refine ax_q (q_mov rfl) ?_
    refine ax_q (q_ixB rfl rfl (by decide)) ?_
    refine ax_q (q_load1_ptr rfl rfl rfl) ?_
    refine ax_q (q_mov rfl) ?_
    refine ax_q (q_mov rfl) ?_
    refine ax_q (q_mov rfl) ?_
    refine ax_nil (cx_keep rfl rfl ?_)
    refine cx_wk (wk_frz 2 10 rfl rfl (.whole (by simp)) rfl) ?_
    refine cx_wk (wk_frz 3 11 rfl rfl (.whole (by simp)) rfl) ?_
    refine cx_ret (ret0 rfl rfl ?_)
    rw [ck_a0 (by omega)]; exact ⟨rfl, rfl⟩
   ·
    have h1 := dF h1
    have h1x : 0 < t.length := by omega
    have hb := t[0].toNat_lt
    refine cx_skip ?_
    refine cx_keep rfl rfl (cx_seq (cx_ops ?_))
    refine ax_q (q_mov rfl) ?_
    refine ax_q (q_mov rfl) ?_
    refine ax_q (q_idxN rfl rfl (by first | assumption | omega)) ?_
    refine ax_q (q_convB rfl) ?_
    refine ax_q (q_mov rfl) ?_
    refine ax_nil (cx_keep rfl rfl (cx_seq (cx_ops ?_)))
    refine ax_q (q_mov rfl) ?_
    refine ax_q (q_add rfl rfl (by omega)) ?_
    refine ax_q (q_mov rfl) ?_
    refine ax_nil (cx_keep rfl rfl (cx_seq (cx_seq (cx_ops ?_))))
    refine ax_q (q_mov rfl) ?_
    refine ax_q (q_mov rfl) ?_
    refine ax_q (q_mul rfl rfl (by omega)) ?_
    refine ax_q (q_add rfl rfl (by omega)) ?_
    refine ax_q (q_mov rfl) ?_
    refine ax_q (q_lenT rfl) ?_
    refine ax_q (q_ibin rfl rfl rfl) ?_
    refine ax_nil (cx_keep rfl rfl ?_)
    refine cx_cond rfl (fun h2 => ?_) (fun h2 => ?_)
    ·
     have h2 := dT h2
     refine cx_seq (cx_draw ?_)
     refine ax_q (q_mov rfl) ?_
     refine ax_q (q_ixB rfl rfl (by decide)) ?_
     refine ax_q (q_load1_ptr rfl rfl rfl) ?_
     refine ax_q (q_mov rfl) ?_
     refine ax_q (q_ixB rfl rfl (by decide)) ?_
     refine ax_q (q_load1_ptr rfl rfl rfl) ?_
     refine ax_q (q_mov rfl) ?_
     refine ax_q (q_mov rfl) ?_
     refine ax_q (q_mov rfl) ?_
     refine ax_nil (cx_keep rfl rfl ?_)
     refine cx_wk (wk_frz 2 10 rfl rfl (.whole (by simp)) rfl) ?_
     refine cx_wk (wk_frz 3 11 rfl rfl (.whole (by simp)) rfl) ?_
     refine cx_ret (ret0 rfl rfl ?_)
     rw [ck_a1 (h := h1x) (by omega)]; exact ⟨rfl, rfl⟩
    ·
     have h2 := dF h2
     refine cx_skip ?_
     refine cx_keep rfl rfl (cx_seq (cx_ops ?_))
     refine ax_q (q_mov rfl) ?_
     refine ax_nil (cx_keep rfl rfl (cx_block ?_))
     obtain ⟨l, q1, q2, q3⟩ := @ck_list t (0 + 1) t[0].toNat (by omega)
     refine cx_loopU (fun m i => i ≤ t[0].toNat ∧ m = t[0].toNat - i) (fun i : Nat => [(6, int (((0 + 1 + 2 * i : Nat)) : Int)), (9, int (i : Nat))]) (fun i => [(12, .box [.osl 10 2 0 (l.take i).length, .osl 11 2 0 0]), (10, .rows 2 ((l.take i).map prRow)), (11, .rows 2 [])]) ⟨_, 0, ⟨Nat.zero_le _, rfl⟩, by repeat constructor⟩ ?_
     rintro m i ⟨hi, rfl⟩
     refine cx_seq (cx_seq (cx_ops ?_))
     refine ax_q (q_mov rfl) ?_
     refine ax_q (q_mov rfl) ?_
     refine ax_q (q_ibin rfl rfl rfl) ?_
     refine ax_nil (cx_keep rfl rfl ?_)
     refine cx_cond rfl (fun h3 => ?_) (fun h3 => ?_)
     ·
      have h3 := dT h3
      have e3 := q3 i (by omega) (by omega)
      refine cx_skip ?_
      refine cx_keep rfl rfl (cx_seq (cx_block (cx_seq ?_)))
      refine cx_drawL 17 68 (Nat.beq 10) (nrA 10) [] ([(10, .rows 2 ((l.take (i + 1)).map prRow))]) [[5], [7], [5], [7], [53, 54], [55], [0], [6], [57, 58], [59], [0], [6], [62], [61, 63], [64], [60, 65], [66], [56, 67]] [[10, 12], [10, 12], [], [], [], [], [], [], [], [], [], [], [], [], [], [], [], [10, 12]] rfl ?_
      first | refine ⟨_, .inr ⟨rfl, _, rfl, .inr ⟨rfl, rfl, .inr rfl, rfl, rfl⟩, loc_q (q_mov rfl)⟩, ?_⟩
      first | refine ⟨_, .inr ⟨rfl, _, rfl, .inr ⟨rfl, rfl, .inr rfl, rfl, rfl⟩, loc_q (q_mov rfl)⟩, ?_⟩
      first | refine ⟨_, .inr ⟨rfl, _, rfl, .inl rfl, loc_q (q_mov rfl)⟩, ?_⟩
      first | refine ⟨_, .inr ⟨rfl, _, rfl, .inl rfl, loc_q (q_mov rfl)⟩, ?_⟩
      first | refine ⟨_, .inr ⟨rfl, _, rfl, .inl rfl, loc_q (q_ixB rfl rfl (by decide))⟩, ?_⟩
      first | refine ⟨_, .inr ⟨rfl, _, rfl, .inl rfl, loc_q (q_load1_ptr rfl rfl rfl)⟩, ?_⟩
      first | refine ⟨_, .inr ⟨rfl, _, rfl, .inl rfl, loc_q (q_mov rfl)⟩, ?_⟩
      first | refine ⟨_, .inr ⟨rfl, _, rfl, .inl rfl, loc_q (q_mov rfl)⟩, ?_⟩
      first | refine ⟨_, .inr ⟨rfl, _, rfl, .inl rfl, loc_q (q_idxN rfl rfl (by first | assumption | omega))⟩, ?_⟩
      refine ⟨_, .inr ⟨rfl, _, rfl, .inl rfl, loc_q (q_convB rfl)⟩, ?_⟩
      first | refine ⟨_, .inr ⟨rfl, _, rfl, .inl rfl, loc_q (q_mov rfl)⟩, ?_⟩
      first | refine ⟨_, .inr ⟨rfl, _, rfl, .inl rfl, loc_q (q_mov rfl)⟩, ?_⟩
      first | refine ⟨_, .inr ⟨rfl, _, rfl, .inl rfl, loc_qe (r' := int ((0 + 1 + 2 * i + 1 : Nat) : Int)) (q_ibin rfl rfl rfl) (by rw [wi (by omega) (by omega)]; rfl)⟩, ?_⟩
      first | refine ⟨_, .inr ⟨rfl, _, rfl, .inl rfl, loc_q (q_idxN rfl rfl (by first | assumption | omega))⟩, ?_⟩
      refine ⟨_, .inr ⟨rfl, _, rfl, .inl rfl, loc_q (q_convB rfl)⟩, ?_⟩
      first | refine ⟨_, .inr ⟨rfl, _, rfl, .inl rfl, loc_q (q_build rfl)⟩, ?_⟩
      first | refine ⟨_, .inr ⟨rfl, _, rfl, .inl rfl, loc_bslice rfl⟩, ?_⟩
      refine ⟨⟨68, _, []⟩, .inl ⟨rfl, rfl, rfl, locl_app (n' := (l.take (i + 1)).length) (rs' := (l.take (i + 1)).map prRow) rfl rfl (by simp) rfl (fun _ _ h => src_osl (h _ _ rfl) (by simp)) (.inl (by decide)) (hbnd (by simp only [List.length_take]; omega) (by simp) (by decide)) (by simp only [List.drop_zero, Nat.min_self, List.length_take, List.length_cons, List.length_nil, Nat.min_eq_left (show i ≤ l.length by omega), Nat.min_eq_left (show i + 1 ≤ l.length by omega)]) ((congrArg (· ++ _) (List.take_of_length_le (by simp))).trans (take_pr e3))⟩, ?_⟩
      refine ⟨rfl, ?_⟩
      refine ax_q (q_ixB rfl rfl (by decide)) ?_
      refine ax_e (e_st rfl rfl rfl rfl rfl rfl rfl) ?_
      refine ax_nil (cx_keep rfl rfl (cx_ops ?_))
      refine ax_q (q_mov rfl) ?_
      refine ax_q (q_add rfl rfl (by omega)) ?_
      refine ax_q (q_mov rfl) ?_
      refine ax_nil (cx_keep rfl rfl (cx_ops ?_))
      refine ax_q (q_mov rfl) ?_
      refine ax_q (q_add rfl rfl (by omega)) ?_
      refine ax_q (q_mov rfl) ?_
      refine ax_nil ?_
      exact ⟨_, i + 1, by omega, ⟨by omega, rfl⟩, by repeat constructor⟩
     ·
      have h3 := dF h3
      obtain rfl : i = t[0].toNat := by omega
      have e4 : l.take t[0].toNat = l := List.take_of_length_le (by omega)
      rw [e4]
      refine cx_exit rfl ?_
      refine cx_keep rfl rfl (cx_ops ?_)
      refine ax_q (q_mov rfl) ?_
      refine ax_q (q_add rfl rfl (by omega)) ?_
      refine ax_q (q_mov rfl) ?_
      refine ax_nil ?_
      exact ⟨_, (1, l, [], 0 + 1 + 2 * t[0].toNat), by omega, ⟨rfl, ck_a2 q1 q2 (by omega)⟩, by repeat constructor⟩
  ·
   skip
   refine cx_skip ?_
   refine cx_keep rfl rfl (cx_seq (cx_block (cx_seq (cx_seq (cx_ops ?_)))))
   refine ax_q (q_mov rfl) ?_
   refine ax_q (q_mov rfl) ?_
   refine ax_q (q_lenT rfl) ?_
   refine ax_q (q_ibin rfl rfl rfl) ?_
   refine ax_nil (cx_keep rfl rfl ?_)
   refine cx_cond rfl (fun h1 => ?_) (fun h1 => ?_)
   ·
    have h1 := dT h1
    refine cx_seq (cx_draw ?_)
    refine ax_q (q_mov rfl) ?_
    refine ax_q (q_ixB rfl rfl (by decide)) ?_
    refine ax_q (q_load1_ptr rfl rfl rfl) ?_
    refine ax_q (q_mov rfl) ?_
    refine ax_q (q_ixB rfl rfl (by decide)) ?_
    refine ax_q (q_load1_ptr rfl rfl rfl) ?_
    refine ax_q (q_mov rfl) ?_
    refine ax_q (q_mov rfl) ?_
    refine ax_q (q_mov rfl) ?_
    refine ax_nil (cx_keep rfl rfl ?_)
    refine cx_wk (wk_frz 2 10 rfl rfl (.whole (by simp)) rfl) ?_
    refine cx_wk (wk_frz 3 11 rfl rfl (.whole (by simp)) rfl) ?_
    refine cx_ret (ret0 rfl rfl ?_)
    rw [ck_b0 hkk (by omega)]; exact ⟨rfl, rfl⟩
   ·
    have h1 := dF h1
    have h1x : p < t.length := by omega
    have hb := t[p].toNat_lt
    refine cx_skip ?_
    refine cx_keep rfl rfl (cx_seq (cx_ops ?_))
    refine ax_q (q_mov rfl) ?_
    refine ax_q (q_mov rfl) ?_
    refine ax_q (q_idxN rfl rfl (by first | assumption | omega)) ?_
    refine ax_q (q_convB rfl) ?_
    refine ax_q (q_mov rfl) ?_
    refine ax_nil (cx_keep rfl rfl (cx_seq (cx_ops ?_)))
    refine ax_q (q_mov rfl) ?_
    refine ax_q (q_add rfl rfl (by omega)) ?_
    refine ax_q (q_mov rfl) ?_
    refine ax_nil (cx_keep rfl rfl (cx_seq (cx_seq (cx_ops ?_))))
    refine ax_q (q_mov rfl) ?_
    refine ax_q (q_mov rfl) ?_
    refine ax_q (q_mul rfl rfl (by omega)) ?_
    refine ax_q (q_add rfl rfl (by omega)) ?_
    refine ax_q (q_mov rfl) ?_
    refine ax_q (q_lenT rfl) ?_
    refine ax_q (q_ibin rfl rfl rfl) ?_
    refine ax_nil (cx_keep rfl rfl ?_)
    refine cx_cond rfl (fun h2 => ?_) (fun h2 => ?_)
    ·
     have h2 := dT h2
     refine cx_seq (cx_draw ?_)
     refine ax_q (q_mov rfl) ?_
     refine ax_q (q_ixB rfl rfl (by decide)) ?_
     refine ax_q (q_load1_ptr rfl rfl rfl) ?_
     refine ax_q (q_mov rfl) ?_
     refine ax_q (q_ixB rfl rfl (by decide)) ?_
     refine ax_q (q_load1_ptr rfl rfl rfl) ?_
     refine ax_q (q_mov rfl) ?_
     refine ax_q (q_mov rfl) ?_
     refine ax_q (q_mov rfl) ?_
     refine ax_nil (cx_keep rfl rfl ?_)
     refine cx_wk (wk_frz 2 10 rfl rfl (.whole (by simp)) rfl) ?_
     refine cx_wk (wk_frz 3 11 rfl rfl (.whole (by simp)) rfl) ?_
     refine cx_ret (ret0 rfl rfl ?_)
     rw [ck_b1 hkk (h := h1x) (by omega)]; exact ⟨rfl, rfl⟩
    ·
     have h2 := dF h2
     refine cx_skip ?_
     refine cx_keep rfl rfl (cx_seq (cx_ops ?_))
     refine ax_q (q_mov rfl) ?_
     refine ax_nil (cx_keep rfl rfl (cx_block ?_))
     obtain ⟨l, q1, q2, q3⟩ := @ck_list t (p + 1) t[p].toNat (by omega)
     refine cx_loopU (fun m i => i ≤ t[p].toNat ∧ m = t[p].toNat - i) (fun i : Nat => [(6, int (((p + 1 + 2 * i : Nat)) : Int)), (9, int (i : Nat))]) (fun i => [(12, .box [.osl 10 2 0 l1.length, .osl 11 2 0 (l.take i).length]), (10, .rows 2 (l1.map prRow)), (11, .rows 2 ((l.take i).map prRow))]) ⟨_, 0, ⟨Nat.zero_le _, rfl⟩, by repeat constructor⟩ ?_
     rintro m i ⟨hi, rfl⟩
     refine cx_seq (cx_seq (cx_ops ?_))
     refine ax_q (q_mov rfl) ?_
     refine ax_q (q_mov rfl) ?_
     refine ax_q (q_ibin rfl rfl rfl) ?_
     refine ax_nil (cx_keep rfl rfl ?_)
     refine cx_cond rfl (fun h3 => ?_) (fun h3 => ?_)
     ·
      have h3 := dT h3
      have e3 := q3 i (by omega) (by omega)
      refine cx_skip ?_
      refine cx_keep rfl rfl (cx_seq (cx_block (cx_seq ?_)))
      refine cx_drawL 17 68 (Nat.beq 11) (nrA 11) [] ([(11, .rows 2 ((l.take (i + 1)).map prRow))]) [[5], [7], [5], [7], [53, 54], [55], [0], [6], [57, 58], [59], [0], [6], [62], [61, 63], [64], [60, 65], [66], [56, 67]] [[11, 12], [11, 12], [], [], [], [], [], [], [], [], [], [], [], [], [], [], [], [11, 12]] rfl ?_
      first | refine ⟨_, .inr ⟨rfl, _, rfl, .inr ⟨rfl, rfl, .inr rfl, rfl, rfl⟩, loc_q (q_mov rfl)⟩, ?_⟩
      first | refine ⟨_, .inr ⟨rfl, _, rfl, .inr ⟨rfl, rfl, .inr rfl, rfl, rfl⟩, loc_q (q_mov rfl)⟩, ?_⟩
      first | refine ⟨_, .inr ⟨rfl, _, rfl, .inl rfl, loc_q (q_mov rfl)⟩, ?_⟩
      first | refine ⟨_, .inr ⟨rfl, _, rfl, .inl rfl, loc_q (q_mov rfl)⟩, ?_⟩
      first | refine ⟨_, .inr ⟨rfl, _, rfl, .inl rfl, loc_q (q_ixB rfl rfl (by decide))⟩, ?_⟩
      first | refine ⟨_, .inr ⟨rfl, _, rfl, .inl rfl, loc_q (q_load1_ptr rfl rfl rfl)⟩, ?_⟩
      first | refine ⟨_, .inr ⟨rfl, _, rfl, .inl rfl, loc_q (q_mov rfl)⟩, ?_⟩
      first | refine ⟨_, .inr ⟨rfl, _, rfl, .inl rfl, loc_q (q_mov rfl)⟩, ?_⟩
      first | refine ⟨_, .inr ⟨rfl, _, rfl, .inl rfl, loc_q (q_idxN rfl rfl (by first | assumption | omega))⟩, ?_⟩
      refine ⟨_, .inr ⟨rfl, _, rfl, .inl rfl, loc_q (q_convB rfl)⟩, ?_⟩
      first | refine ⟨_, .inr ⟨rfl, _, rfl, .inl rfl, loc_q (q_mov rfl)⟩, ?_⟩
      first | refine ⟨_, .inr ⟨rfl, _, rfl, .inl rfl, loc_q (q_mov rfl)⟩, ?_⟩
      first | refine ⟨_, .inr ⟨rfl, _, rfl, .inl rfl, loc_qe (r' := int ((p + 1 + 2 * i + 1 : Nat) : Int)) (q_ibin rfl rfl rfl) (by rw [wi (by omega) (by omega)]; rfl)⟩, ?_⟩
      first | refine ⟨_, .inr ⟨rfl, _, rfl, .inl rfl, loc_q (q_idxN rfl rfl (by first | assumption | omega))⟩, ?_⟩
      refine ⟨_, .inr ⟨rfl, _, rfl, .inl rfl, loc_q (q_convB rfl)⟩, ?_⟩
      first | refine ⟨_, .inr ⟨rfl, _, rfl, .inl rfl, loc_q (q_build rfl)⟩, ?_⟩
      first | refine ⟨_, .inr ⟨rfl, _, rfl, .inl rfl, loc_bslice rfl⟩, ?_⟩
      refine ⟨⟨68, _, []⟩, .inl ⟨rfl, rfl, rfl, locl_app (n' := (l.take (i + 1)).length) (rs' := (l.take (i + 1)).map prRow) rfl rfl (by simp) rfl (fun _ _ h => src_osl (h _ _ rfl) (by simp)) (.inl (by decide)) (hbnd (by simp only [List.length_take]; omega) (by simp) (by decide)) (by simp only [List.drop_zero, Nat.min_self, List.length_take, List.length_cons, List.length_nil, Nat.min_eq_left (show i ≤ l.length by omega), Nat.min_eq_left (show i + 1 ≤ l.length by omega)]) ((congrArg (· ++ _) (List.take_of_length_le (by simp))).trans (take_pr e3))⟩, ?_⟩
      refine ⟨rfl, ?_⟩
      refine ax_q (q_ixB rfl rfl (by decide)) ?_
      refine ax_e (e_st rfl rfl rfl rfl rfl rfl rfl) ?_
      refine ax_nil (cx_keep rfl rfl (cx_ops ?_))
      refine ax_q (q_mov rfl) ?_
      refine ax_q (q_add rfl rfl (by omega)) ?_
      refine ax_q (q_mov rfl) ?_
      refine ax_nil (cx_keep rfl rfl (cx_ops ?_))
      refine ax_q (q_mov rfl) ?_
      refine ax_q (q_add rfl rfl (by omega)) ?_
      refine ax_q (q_mov rfl) ?_
      refine ax_nil ?_
      exact ⟨_, i + 1, by omega, ⟨by omega, rfl⟩, by repeat constructor⟩
     ·
      have h3 := dF h3
      obtain rfl : i = t[p].toNat := by omega
      have e4 : l.take t[p].toNat = l := List.take_of_length_le (by omega)
      rw [e4]
      refine cx_exit rfl ?_
      refine cx_keep rfl rfl (cx_ops ?_)
      refine ax_q (q_mov rfl) ?_
      refine ax_q (q_add rfl rfl (by omega)) ?_
      refine ax_q (q_mov rfl) ?_
      refine ax_nil ?_
      exact ⟨_, (2, l1, l, p + 1 + 2 * t[p].toNat), by omega, ⟨rfl, ck_b2 hkk hl1 q1 q2 (by omega)⟩, by repeat constructor⟩
 ·
  have h0 := dF h0
  obtain ⟨rfl, hkk⟩ : k = 2 ∧ readX t = (l1, l2, decide (p = t.length)) := by
   rcases hk with ⟨h, _⟩ | ⟨h, _⟩ | h
   ·
    omega
   ·
    omega
   ·
    exact h
  refine cx_exit rfl ?_
  refine cx_keep rfl rfl (cx_seq (cx_draw ?_))
  refine ax_q (q_mov rfl) ?_
  refine ax_q (q_ixB rfl rfl (by decide)) ?_
  refine ax_q (q_load1_ptr rfl rfl rfl) ?_
  refine ax_q (q_mov rfl) ?_
  refine ax_q (q_ixB rfl rfl (by decide)) ?_
  refine ax_q (q_load1_ptr rfl rfl rfl) ?_
  refine ax_q (q_mov rfl) ?_
  refine ax_q (q_mov rfl) ?_
  refine ax_q (q_lenT rfl) ?_
  refine ax_q (q_ibin rfl rfl rfl) ?_
  refine ax_q (q_mov rfl) ?_
  refine ax_q (q_mov rfl) ?_
  refine ax_q (q_mov rfl) ?_
  refine ax_nil (cx_keep rfl rfl ?_)
  refine cx_wk (wk_frz 2 10 rfl rfl (.whole (by simp)) rfl) ?_
  refine cx_wk (wk_frz 3 11 rfl rfl (.whole (by simp)) rfl) ?_
  refine cx_ret (ret0 rfl rfl ?_)
  have e : decide ((p : Int) = (t.length : Int)) = decide (p = t.length) := by congr 1; exact propext (by omega)
  rw [hkk]; exact ⟨by rw [e]; rfl, rfl⟩

end Go.Proofs.YtbanegjijhmojaaGreat
