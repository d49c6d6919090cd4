/- The walks: what each function computes, as a contract without a world (part 0). -/
import Derived.Test.YtniiofjakmkdiaaProg
import Derived.Test.YtniiofjakmkdiaaR
namespace Go.Proofs.Ytniiofjakmkdiaa
open Go Go.AM
set_option maxRecDepth 10000
set_option linter.unusedVariables false
set_option linter.unusedSimpArgs false
/- loop.example/g00332/laws.szValue -/
def k_c_szValue : XCode :=
 .seq (.ops [.op (some 2) (.box (.t 0)),
   .op (some 4) (.mov (.k (.int .i64 0)))])
 (.keep [1, 2] (.seq (.ops [.op (some 5) (.mov (.t 1)),
   .op (some 6) (.fadr (.t 2) 2),
   .op (some 7) (.load1 (.t 6)),
   .op (some 8) (.lenT (.t 7)),
   .op (some 9) (.bin .sub (.t 5) (.t 8)),
   .op (some 1) (.mov (.t 9))])
 (.keep [1] (.seq (.seq (.ops [.op (some 10) (.mov (.t 1)),
   .op (some 11) (.bin .lss (.t 10) (.k (.int .i64 0)))])
  (.keep [1, 11] (.cond (.t 11)
  (.seq (.ops [.op (some 4) (.mov (.k (.int .i64 (-1))))])
   (.keep [4] (.ret)))
  (.skip))))
 (.keep [1] (.seq (.ops [.op (some 12) (.mov (.t 1)),
   .op (some 4) (.mov (.t 12))])
 (.keep [4] (.ret))))))))
theorem k_c_szValue_fits : fitsF Try.prog 21 ⟨13, k_c_szValue, [.t 4]⟩ = true := by kernel_rfl
theorem c_szValue {a : GValue} {left : Int} (h0 : 0 ≤ left) (hl : left ≤ 1048576) (hw : a.wf) : Con Try.prog noMv 21 [a.av, int left] [] (fun r h => r = int (szF left (GValue.sz a)) ∧ h = []) := by
 refine con_of2 k_c_szValue_fits rfl fun C hP hmv => ?_
 unfold k_c_szValue
 have sp := szF_spec left (GValue.sz a)
 have e0 : GValue.sz a = a.T.length := rfl
 rw [e0] at sp ⊢
 obtain ⟨w0, w1, w2⟩ := hw
 have w2x : a.T.length ≤ 9223372036854775807 := w2
 refine cx_seq ?_
 refine cx_ops ?_
 refine ax_e (e_box rfl rfl (by decide) rfl rfl rfl) ?_
 refine ax_q (q_mov rfl) ?_
 refine ax_nil ?_
 refine cx_keep rfl rfl ?_
 refine cx_seq ?_
 refine cx_ops ?_
 refine ax_q (q_mov rfl) ?_
 refine ax_q (q_fadr_ptr rfl) ?_
 refine ax_q (q_load1_ptr rfl rfl rfl) ?_
 refine ax_q (q_lenT rfl) ?_
 refine ax_q (q_sub rfl rfl (by omega)) ?_
 refine ax_q (q_mov rfl) ?_
 refine ax_nil ?_
 refine cx_keep rfl rfl ?_
 refine cx_seq ?_
 refine cx_seq ?_
 refine cx_ops ?_
 refine ax_q (q_mov rfl) ?_
 refine ax_q (q_ibin rfl rfl rfl) ?_
 refine ax_nil ?_
 refine cx_keep rfl rfl ?_
 refine cx_cond rfl (fun h0 => ?_) (fun h0 => ?_)
 ·
  have h0 := dT h0
  refine cx_seq ?_
  refine cx_ops ?_
  refine ax_q (q_mov rfl) ?_
  refine ax_nil ?_
  refine cx_keep rfl rfl ?_
  refine cx_ret (ret0 rfl rfl ?_)
  exact ⟨congrArg int (by omega), rfl⟩
 ·
  have h0 := dF h0
  refine cx_skip ?_
  refine cx_keep rfl rfl ?_
  refine cx_seq ?_
  refine cx_ops ?_
  refine ax_q (q_mov rfl) ?_
  refine ax_q (q_mov rfl) ?_
  refine ax_nil ?_
  refine cx_keep rfl rfl ?_
  refine cx_ret (ret0 rfl rfl ?_)
  exact ⟨congrArg int (by omega), rfl⟩


/- loop.example/g00332/laws.szRow -/
def k_c_szRow : XCode :=
 .seq (.ops [.op (some 2) (.box (.t 0)),
   .op (some 4) (.mov (.k (.int .i64 0)))])
 (.keep [1, 2] (.seq (.ops [.op (some 5) (.fadr (.t 2) 1),
   .op (some 6) (.loadN 3 (.t 5)),
   .op (some 7) (.mov (.t 1)),
   .call (some 8) 21 [.t 6, .t 7],
   .op (some 1) (.mov (.t 8))])
 (.keep [1, 2] (.seq (.seq (.ops [.op (some 9) (.mov (.t 1)),
   .op (some 10) (.bin .lss (.t 9) (.k (.int .i64 0)))])
  (.keep [1, 2, 10] (.cond (.t 10)
  (.seq (.ops [.op (some 4) (.mov (.k (.int .i64 (-1))))])
   (.keep [4] (.ret)))
  (.skip))))
 (.keep [1, 2] (.seq (.ops [.op (some 11) (.fadr (.t 2) 4),
   .op (some 12) (.loadN 3 (.t 11)),
   .op (some 13) (.mov (.t 1)),
   .call (some 14) 21 [.t 12, .t 13],
   .op (some 1) (.mov (.t 14))])
 (.keep [1] (.seq (.seq (.ops [.op (some 15) (.mov (.t 1)),
   .op (some 16) (.bin .lss (.t 15) (.k (.int .i64 0)))])
  (.keep [1, 16] (.cond (.t 16)
  (.seq (.ops [.op (some 4) (.mov (.k (.int .i64 (-1))))])
   (.keep [4] (.ret)))
  (.skip))))
 (.keep [1] (.seq (.ops [.op (some 17) (.mov (.t 1)),
   .op (some 4) (.mov (.t 17))])
 (.keep [4] (.ret))))))))))))
theorem k_c_szRow_fits : fitsF Try.prog 11 ⟨18, k_c_szRow, [.t 4]⟩ = true := by kernel_rfl
theorem c_szRow {a : GRow} {left : Int} (h0 : 0 ≤ left) (hl : left ≤ 1048576) (hw : a.wf) : Con Try.prog noMv 11 [a.av, int left] [] (fun r h => r = int (szF left (GRow.sz a)) ∧ h = []) := by
 refine con_of2 k_c_szRow_fits rfl fun C hP hmv => ?_
 unfold k_c_szRow
 have sp := szF_spec left (GRow.sz a)
 have e0 : GRow.sz a = GValue.sz a.N + GValue.sz a.Name := rfl
 rw [e0] at sp ⊢
 obtain ⟨w0, w1, w2⟩ := hw
 refine cx_seq ?_
 refine cx_ops ?_
 refine ax_e (e_box rfl rfl (by decide) rfl rfl rfl) ?_
 refine ax_q (q_mov rfl) ?_
 refine ax_nil ?_
 refine cx_keep rfl rfl ?_
 refine cx_seq ?_
 refine cx_ops ?_
 refine ax_q (q_fadr_ptr rfl) ?_
 refine ax_q (q_ldN rfl rfl rfl) ?_
 refine ax_q (q_mov rfl) ?_
 have q0 := szF_spec left (GValue.sz a.N)
 refine ax_call rfl (vc_pure0 (c_szValue  ?_ ?_ ?_) hP rfl rfl ?_)
 ·
  assumption
 ·
  assumption
 ·
  assumption
 refine ax_q (q_mov rfl) ?_
 refine ax_nil ?_
 refine cx_keep rfl rfl ?_
 refine cx_seq ?_
 refine cx_seq ?_
 refine cx_ops ?_
 refine ax_q (q_mov rfl) ?_
 refine ax_q (q_ibin rfl rfl rfl) ?_
 refine ax_nil ?_
 refine cx_keep rfl rfl ?_
 refine cx_cond rfl (fun h0 => ?_) (fun h0 => ?_)
 ·
  have h0 := dT h0
  refine cx_seq ?_
  refine cx_ops ?_
  refine ax_q (q_mov rfl) ?_
  refine ax_nil ?_
  refine cx_keep rfl rfl ?_
  refine cx_ret (ret0 rfl rfl ?_)
  exact ⟨congrArg int (by omega), rfl⟩
 ·
  have h0 := dF h0
  refine cx_skip ?_
  refine cx_keep rfl rfl ?_
  refine cx_seq ?_
  refine cx_ops ?_
  refine ax_q (q_fadr_ptr rfl) ?_
  refine ax_q (q_ldN rfl rfl rfl) ?_
  refine ax_q (q_mov rfl) ?_
  have q1 := szF_spec (szF left (GValue.sz a.N)) (GValue.sz a.Name)
  refine ax_call rfl (vc_pure0 (c_szValue  ?_ ?_ ?_) hP rfl rfl ?_)
  ·
   first | assumption | omega
  ·
   first | assumption | omega
  ·
   assumption
  refine ax_q (q_mov rfl) ?_
  refine ax_nil ?_
  refine cx_keep rfl rfl ?_
  refine cx_seq ?_
  refine cx_seq ?_
  refine cx_ops ?_
  refine ax_q (q_mov rfl) ?_
  refine ax_q (q_ibin rfl rfl rfl) ?_
  refine ax_nil ?_
  refine cx_keep rfl rfl ?_
  refine cx_cond rfl (fun h1 => ?_) (fun h1 => ?_)
  ·
   have h1 := dT h1
   refine cx_seq ?_
   refine cx_ops ?_
   refine ax_q (q_mov rfl) ?_
   refine ax_nil ?_
   refine cx_keep rfl rfl ?_
   refine cx_ret (ret0 rfl rfl ?_)
   exact ⟨congrArg int (by omega), rfl⟩
  ·
   have h1 := dF h1
   refine cx_skip ?_
   refine cx_keep rfl rfl ?_
   refine cx_seq ?_
   refine cx_ops ?_
   refine ax_q (q_mov rfl) ?_
   refine ax_q (q_mov rfl) ?_
   refine ax_nil ?_
   refine cx_keep rfl rfl ?_
   refine cx_ret (ret0 rfl rfl ?_)
   exact ⟨congrArg int (by omega), rfl⟩


/- loop.example/g00332/laws.szRowS -/
def k_c_szRowS : XCode :=
 .seq (.ops [.op (some 4) (.mov (.k (.int .i64 0)))])
 (.keep [0, 1] (.seq (.ops [.op (some 6) (.mov (.t 1)),
   .op (some 7) (.mov (.t 0)),
   .op (some 8) (.lenS (.t 7)),
   .op (some 9) (.bin .sub (.t 6) (.t 8)),
   .op (some 1) (.mov (.t 9))])
 (.keep [0, 1] (.seq (.seq (.ops [.op (some 10) (.mov (.t 1)),
   .op (some 11) (.bin .lss (.t 10) (.k (.int .i64 0)))])
  (.keep [0, 1, 11] (.cond (.t 11)
  (.seq (.ops [.op (some 4) (.mov (.k (.int .i64 (-1))))])
   (.keep [4] (.ret)))
  (.skip))))
 (.keep [0, 1] (.seq (.seq (.ops [.op (some 5) (.mov (.k (.int .i64 0)))])
  (.keep [0, 1, 5] (.block 0 (.loop (.seq (.seq (.ops [.op (some 12) (.mov (.t 5)),
     .op (some 13) (.mov (.t 0)),
     .op (some 14) (.lenS (.t 13)),
     .op (some 15) (.bin .lss (.t 12) (.t 14))])
   (.keep [0, 1, 5, 15] (.cond (.t 15)
    (.skip)
    (.exit 0))))
   (.keep [0, 1, 5] (.seq (.block 1 (.seq (.ops [.op (some 18) (.mov (.t 0)),
     .op (some 19) (.mov (.t 5)),
     .op (some 20) (.iadr 7 (.t 18) (.t 19)),
     .op (some 21) (.loadN 7 (.t 20)),
     .op (some 22) (.mov (.t 1)),
     .call (some 23) 11 [.t 21, .t 22],
     .op (some 1) (.mov (.t 23))])
    (.keep [0, 1, 5] (.seq (.ops [.op (some 24) (.mov (.t 1)),
     .op (some 25) (.bin .lss (.t 24) (.k (.int .i64 0)))])
    (.keep [0, 1, 5, 25] (.cond (.t 25)
    (.seq (.ops [.op (some 4) (.mov (.k (.int .i64 (-1))))])
     (.keep [4] (.ret)))
    (.skip)))))))
   (.keep [0, 1, 5] (.ops [.op (some 16) (.mov (.t 5)),
    .op (some 17) (.bin .add (.t 16) (.k (.int .i64 1))),
    .op (some 5) (.mov (.t 17))])))))))))
 (.keep [1] (.seq (.ops [.op (some 26) (.mov (.t 1)),
   .op (some 4) (.mov (.t 26))])
 (.keep [4] (.ret))))))))))
theorem k_c_szRowS_fits : fitsF Try.prog 4 ⟨27, k_c_szRowS, [.t 4]⟩ = true := by kernel_rfl
theorem c_szRowS {xs : List GRow} {left : Int} (h0 : 0 ≤ left) (hl : left ≤ 1048576) (hw : wfL GRow.wf xs) : Con Try.prog noMv 4 [.d (.sl 7 (xs.map GRow.row)), int left] [] (fun r h => r = int (szF left (szL GRow.sz xs)) ∧ h = []) := by
 refine con_of2 k_c_szRowS_fits rfl fun C hP hmv => ?_
 unfold k_c_szRowS
 have hw1 := hw.1; have hw2 := hw.2
 have sp := szF_spec left (szL GRow.sz xs)
 refine cx_seq ?_
 refine cx_ops ?_
 refine ax_q (q_mov rfl) ?_
 refine ax_nil ?_
 refine cx_keep rfl rfl ?_
 refine cx_seq ?_
 refine cx_ops ?_
 refine ax_q (q_mov rfl) ?_
 refine ax_q (q_mov rfl) ?_
 refine ax_q (q_lenS_map rfl) ?_
 refine ax_q (q_sub rfl rfl (by omega)) ?_
 refine ax_q (q_mov rfl) ?_
 refine ax_nil ?_
 refine cx_keep rfl rfl ?_
 refine cx_seq ?_
 refine cx_seq ?_
 refine cx_ops ?_
 refine ax_q (q_mov rfl) ?_
 refine ax_q (q_ibin rfl rfl rfl) ?_
 refine ax_nil ?_
 refine cx_keep rfl rfl ?_
 refine cx_cond rfl (fun h0 => ?_) (fun h0 => ?_)
 ·
  have h0 := dT h0
  refine cx_seq ?_
  refine cx_ops ?_
  refine ax_q (q_mov rfl) ?_
  refine ax_nil ?_
  refine cx_keep rfl rfl ?_
  refine cx_ret (ret0 rfl rfl ?_)
  exact ⟨congrArg int (by unfold szL at sp ⊢; omega), rfl⟩
 ·
  have h0 := dF h0
  refine cx_skip ?_
  refine cx_keep rfl rfl ?_
  refine cx_seq ?_
  refine cx_seq ?_
  refine cx_ops ?_
  refine ax_q (q_mov rfl) ?_
  refine ax_nil ?_
  refine cx_keep rfl rfl ?_
  refine cx_block ?_
  refine cx_loopU (fun n k => k ≤ xs.length ∧ n = xs.length - k ∧ 0 ≤ left - xs.length - sumBy GRow.sz (xs.take k)) (fun k : Nat => [(1, int (left - xs.length - sumBy GRow.sz (xs.take k))), (5, int k)]) (fun _ => [])
   ⟨_, 0, ⟨Nat.zero_le _, rfl, by simp [sumBy]; omega⟩, ⟨⟨rfl, congrArg (fun n => some (int n)) (by simp only [List.take_zero, sumBy]; omega), rfl, trivial⟩, trivial⟩⟩ ?_
  rintro n k ⟨hk, rfl, hs⟩
  refine cx_seq ?_
  refine cx_seq ?_
  refine cx_ops ?_
  refine ax_q (q_mov rfl) ?_
  refine ax_q (q_mov rfl) ?_
  refine ax_q (q_lenS_map rfl) ?_
  refine ax_q (q_ibin rfl rfl rfl) ?_
  refine ax_nil ?_
  refine cx_keep rfl rfl ?_
  refine cx_cond rfl (fun h1 => ?_) (fun h1 => ?_)
  ·
   have h1 := dT h1
   have h1x : k < xs.length := by omega
   have hst := sumBy_take (f := GRow.sz) h1x
   have hsl := sumBy_le (f := GRow.sz) xs (k + 1)
   have hwk := hw2 _ (List.getElem_mem h1x)
   refine cx_skip ?_
   refine cx_keep rfl rfl ?_
   refine cx_seq ?_
   refine cx_block ?_
   refine cx_seq ?_
   refine cx_ops ?_
   refine ax_q (q_mov rfl) ?_
   refine ax_q (q_mov rfl) ?_
   refine ax_q (q_ix rfl rfl (mapAt h1x)) ?_
   first | refine ax_q (q_ldN rfl rfl rfl) ?_ | refine ax_q (q_loadN_ip rfl (Nat.le_refl _)) ?_
   refine ax_q (q_mov rfl) ?_
   have spk := szF_spec (left - xs.length - sumBy GRow.sz (xs.take k)) (GRow.sz xs[k])
   refine ax_call rfl (vc_pure0 (c_szRow  ?_ ?_ ?_) hP rfl rfl ?_)
   ·
    assumption
   ·
    first | assumption | omega
   ·
    assumption
   refine ax_q (q_mov rfl) ?_
   refine ax_nil ?_
   refine cx_keep rfl rfl ?_
   refine cx_seq ?_
   refine cx_ops ?_
   refine ax_q (q_mov rfl) ?_
   refine ax_q (q_ibin rfl rfl rfl) ?_
   refine ax_nil ?_
   refine cx_keep rfl rfl ?_
   refine cx_cond rfl (fun h2 => ?_) (fun h2 => ?_)
   ·
    have h2 := dT h2
    refine cx_seq ?_
    refine cx_ops ?_
    refine ax_q (q_mov rfl) ?_
    refine ax_nil ?_
    refine cx_keep rfl rfl ?_
    refine cx_ret (ret0 rfl rfl ?_)
    exact ⟨congrArg int (by unfold szL at sp ⊢; omega), rfl⟩
   ·
    have h2 := dF h2
    have e9 : szF (left - xs.length - sumBy GRow.sz (xs.take k)) (GRow.sz xs[k]) = left - xs.length - sumBy GRow.sz (xs.take (k + 1)) := by omega
    refine cx_skip ?_
    refine cx_keep rfl rfl ?_
    refine cx_ops ?_
    refine ax_q (q_mov rfl) ?_
    refine ax_q (q_add rfl rfl (by omega)) ?_
    refine ax_q (q_mov rfl) ?_
    refine ax_nil ?_
    refine ⟨_, k + 1, by omega, ⟨by omega, rfl, by omega⟩, ?_⟩
    rw [e9]
    exact by repeat (first | exact trivial | refine ⟨rfl, ?_⟩ | refine ⟨?_, ?_⟩)
  ·
   have h1 := dF h1
   refine cx_exit rfl ?_
   refine cx_keep rfl rfl ?_
   refine cx_seq ?_
   refine cx_ops ?_
   refine ax_q (q_mov rfl) ?_
   refine ax_q (q_mov rfl) ?_
   refine ax_nil ?_
   refine cx_keep rfl rfl ?_
   refine cx_ret (ret0 rfl rfl ?_)
   have hk2 : k = xs.length := by omega
   subst hk2; rw [List.take_length] at hs ⊢
   exact ⟨congrArg int (by unfold szL at sp ⊢; omega), rfl⟩


/- loop.example/g00332/spec.l01In -/
def k_c_l01In : XCode :=
 .seq (.ops [.op (some 6) (.mov (.k (.bool false)))])
 (.keep [0, 1, 2] (.seq (.ops [.op (some 7) (.mov (.t 1)),
   .op (some 8) (.mov (.t 0)),
   .op (some 9) (.bin .leq (.t 7) (.t 8)),
   .op (some 10) (.mov (.t 9)),
   .andor 14 true 3 10 [.op (some 11) (.mov (.t 0)), .op (some 12) (.mov (.t 2)), .op (some 13) (.bin .leq (.t 11) (.t 12))] (.t 13),
   .op (some 6) (.mov (.t 14))])
 (.keep [6] (.ret))))
theorem k_c_l01In_fits : fitsF Try.prog 13 ⟨15, k_c_l01In, [.t 6]⟩ = true := by kernel_rfl
theorem c_l01In {n lo hi : Int} : Con Try.prog noMv 13 [int n, int lo, int hi] [] (fun r h => r = bool (inR n lo hi) ∧ h = []) := by
 refine con_of2 k_c_l01In_fits rfl fun C hP hmv => ?_
 unfold k_c_l01In
 refine cx_seq ?_
 refine cx_ops ?_
 refine ax_q (q_mov rfl) ?_
 refine ax_nil ?_
 refine cx_keep rfl rfl ?_
 refine cx_seq ?_
 refine cx_ops ?_
 refine ax_q (q_mov rfl) ?_
 refine ax_q (q_mov rfl) ?_
 refine ax_q (q_ibin rfl rfl rfl) ?_
 refine ax_q (q_mov rfl) ?_
 apply ax_and rfl rfl
 ·
  intro g
  have g := dT g
  refine ax_q (q_mov rfl) ?_
  refine ax_q (q_mov rfl) ?_
  refine ax_q (q_ibin rfl rfl rfl) ?_
  exact ax_nil ⟨rfl, by repeat (first | exact trivial | refine ⟨rfl, ?_⟩ | refine ⟨?_, ?_⟩)⟩
 refine ax_q (q_mov rfl) ?_
 refine ax_nil ?_
 refine cx_keep rfl rfl ?_
 refine cx_ret (ret0 rfl rfl ?_)
 exact ⟨rfl, rfl⟩


/- loop.example/g00332/spec.ValueOK -/
def k_c_sValueOK : XCode :=
 .seq (.ops [.op (some 1) (.box (.t 0)),
   .op (some 2) (.mov (.k (.bool false)))])
 (.keep [1] (.seq (.seq (.ops [.op (some 4) (.fadr (.t 1) 0),
   .op (some 5) (.load1 (.t 4))])
  (.keep [1, 5] (.block 0 (.seq (.ops [.op (some 7) (.bin .eql (.t 5) (.k (.int .i64 0))),
    .op (some 6) (.mov (.t 7))])
  (.keep [1, 5, 6] (.cond (.t 6)
   (.seq (.ops [.op (some 8) (.fadr (.t 1) 1),
     .op (some 9) (.load1 (.t 8)),
     .op (some 10) (.bin .eql (.t 9) (.k (.int .i64 0))),
     .op (some 11) (.mov (.t 10)),
     .andor 15 true 3 11 [.op (some 12) (.fadr (.t 1) 2), .op (some 13) (.load1 (.t 12)), .op (some 14) (.bin .eql (.t 13) (.k (.str [])))] (.t 14),
     .op (some 2) (.mov (.t 15))])
   (.keep [2] (.ret)))
   (.seq (.ops [.op (some 17) (.bin .eql (.t 5) (.k (.int .i64 1))),
     .op (some 16) (.mov (.t 17))])
   (.keep [1, 5, 16] (.cond (.t 16)
    (.seq (.ops [.op (some 18) (.fadr (.t 1) 1),
      .op (some 19) (.load1 (.t 18)),
      .call (some 20) 13 [.t 19, .k (.int .i64 (-1000000000)), .k (.int .i64 1000000000)],
      .op (some 21) (.mov (.t 20)),
      .andor 25 true 3 21 [.op (some 22) (.fadr (.t 1) 2), .op (some 23) (.load1 (.t 22)), .op (some 24) (.bin .eql (.t 23) (.k (.str [])))] (.t 24),
      .op (some 2) (.mov (.t 25))])
    (.keep [2] (.ret)))
    (.seq (.ops [.op (some 27) (.bin .eql (.t 5) (.k (.int .i64 2))),
      .op (some 26) (.mov (.t 27))])
    (.keep [1, 26] (.cond (.t 26)
     (.seq (.seq (.ops [.op (some 28) (.fadr (.t 1) 1),
       .op (some 29) (.load1 (.t 28)),
       .op (some 30) (.bin .neq (.t 29) (.k (.int .i64 0))),
       .op (some 31) (.mov (.t 30)),
       .andor 36 false 3 31 [.op (some 32) (.fadr (.t 1) 2), .op (some 33) (.load1 (.t 32)), .op (some 34) (.lenT (.t 33)), .op (some 35) (.bin .gtr (.t 34) (.k (.int .i64 10)))] (.t 35)])
      (.keep [1, 36] (.cond (.t 36)
      (.seq (.ops [.op (some 2) (.mov (.k (.bool false)))])
       (.keep [2] (.ret)))
      (.skip))))
     (.keep [1] (.seq (.seq (.ops [.op (some 3) (.mov (.k (.int .i64 0)))])
      (.keep [1, 3] (.block 1 (.loop (.seq (.seq (.ops [.op (some 37) (.mov (.t 3)),
         .op (some 38) (.fadr (.t 1) 2),
         .op (some 39) (.load1 (.t 38)),
         .op (some 40) (.lenT (.t 39)),
         .op (some 41) (.bin .lss (.t 37) (.t 40))])
       (.keep [1, 3, 41] (.cond (.t 41)
        (.skip)
        (.exit 1))))
       (.keep [1, 3] (.seq (.block 2 (.seq (.ops [.op (some 44) (.fadr (.t 1) 2),
         .op (some 45) (.load1 (.t 44)),
         .op (some 46) (.mov (.t 3)),
         .op (some 47) (.idxS (.t 45) (.t 46)),
         .op (some 48) (.conv .i64 (.t 47)),
         .call (some 49) 13 [.t 48, .k (.int .i64 97), .k (.int .i64 122)],
         .op (some 50) (.not (.t 49))])
        (.keep [1, 3, 50] (.cond (.t 50)
        (.seq (.ops [.op (some 2) (.mov (.k (.bool false)))])
         (.keep [2] (.ret)))
        (.skip)))))
       (.keep [1, 3] (.ops [.op (some 42) (.mov (.t 3)),
        .op (some 43) (.bin .add (.t 42) (.k (.int .i64 1))),
        .op (some 3) (.mov (.t 43))])))))))))
     (.keep [] (.seq (.ops [.op (some 2) (.mov (.k (.bool true)))])
     (.keep [2] (.ret)))))))
     (.skip)))))))))))))
 (.keep [] (.seq (.ops [.op (some 2) (.mov (.k (.bool false)))])
 (.keep [2] (.ret))))))
theorem k_c_sValueOK_fits : fitsF Try.prog 38 ⟨51, k_c_sValueOK, [.t 2]⟩ = true := by kernel_rfl
theorem c_sValueOK {v : GValue} (hv : v.T.length ≤ 1048576) : Con Try.prog noMv 38 [v.av] [] (fun r h => r = bool (valueOK v) ∧ h = []) := by
 refine con_of2 k_c_sValueOK_fits rfl fun C hP hmv => ?_
 unfold k_c_sValueOK
 refine cx_seq ?_
 refine cx_ops ?_
 refine ax_e (e_box rfl rfl (by decide) rfl rfl rfl) ?_
 refine ax_q (q_mov rfl) ?_
 refine ax_nil ?_
 refine cx_keep rfl rfl ?_
 refine cx_seq ?_
 refine cx_seq ?_
 refine cx_ops ?_
 refine ax_q (q_fadr_ptr rfl) ?_
 refine ax_q (q_load1_ptr rfl rfl rfl) ?_
 refine ax_nil ?_
 refine cx_keep rfl rfl ?_
 refine cx_block ?_
 refine cx_seq ?_
 refine cx_ops ?_
 refine ax_q (q_ibin rfl rfl rfl) ?_
 refine ax_q (q_mov rfl) ?_
 refine ax_nil ?_
 refine cx_keep rfl rfl ?_
 refine cx_cond rfl (fun h0 => ?_) (fun h0 => ?_)
 ·
  have h0 := dT h0
  refine cx_seq ?_
  refine cx_ops ?_
  refine ax_q (q_fadr_ptr rfl) ?_
  refine ax_q (q_load1_ptr rfl rfl rfl) ?_
  refine ax_q (q_ibin rfl rfl rfl) ?_
  refine ax_q (q_mov rfl) ?_
  apply ax_and rfl rfl
  ·
   intro g
   have g := dT g
   refine ax_q (q_fadr_ptr rfl) ?_
   refine ax_q (q_load1_ptr rfl rfl rfl) ?_
   refine ax_q (q_sbin rfl rfl rfl) ?_
   exact ax_nil ⟨rfl, by repeat (first | exact trivial | refine ⟨rfl, ?_⟩ | refine ⟨?_, ?_⟩)⟩
  refine ax_q (q_mov rfl) ?_
  refine ax_nil ?_
  refine cx_keep rfl rfl ?_
  refine cx_ret (ret0 rfl rfl ?_)
  exact ⟨by rw [valueOK_0 h0] <;> rfl, rfl⟩
 ·
  have h0 := dF h0
  refine cx_seq ?_
  refine cx_ops ?_
  refine ax_q (q_ibin rfl rfl rfl) ?_
  refine ax_q (q_mov rfl) ?_
  refine ax_nil ?_
  refine cx_keep rfl rfl ?_
  refine cx_cond rfl (fun h1 => ?_) (fun h1 => ?_)
  ·
   have h1 := dT h1
   refine cx_seq ?_
   refine cx_ops ?_
   refine ax_q (q_fadr_ptr rfl) ?_
   refine ax_q (q_load1_ptr rfl rfl rfl) ?_
   refine ax_call rfl (vc_pure0 (c_l01In  ) hP rfl rfl ?_)
   refine ax_q (q_mov rfl) ?_
   apply ax_and rfl rfl
   ·
    intro g
    refine ax_q (q_fadr_ptr rfl) ?_
    refine ax_q (q_load1_ptr rfl rfl rfl) ?_
    refine ax_q (q_sbin rfl rfl rfl) ?_
    exact ax_nil ⟨rfl, by repeat (first | exact trivial | refine ⟨rfl, ?_⟩ | refine ⟨?_, ?_⟩)⟩
   refine ax_q (q_mov rfl) ?_
   refine ax_nil ?_
   refine cx_keep rfl rfl ?_
   refine cx_ret (ret0 rfl rfl ?_)
   exact ⟨by rw [valueOK_1 h1] <;> rfl, rfl⟩
  ·
   have h1 := dF h1
   refine cx_seq ?_
   refine cx_ops ?_
   refine ax_q (q_ibin rfl rfl rfl) ?_
   refine ax_q (q_mov rfl) ?_
   refine ax_nil ?_
   refine cx_keep rfl rfl ?_
   refine cx_cond rfl (fun h2 => ?_) (fun h2 => ?_)
   ·
    have h2 := dT h2
    refine cx_seq ?_
    refine cx_seq ?_
    refine cx_ops ?_
    refine ax_q (q_fadr_ptr rfl) ?_
    refine ax_q (q_load1_ptr rfl rfl rfl) ?_
    refine ax_q (q_ibin rfl rfl rfl) ?_
    refine ax_q (q_mov rfl) ?_
    apply ax_or rfl rfl
    ·
     intro g
     have g := nF g
     refine ax_q (q_fadr_ptr rfl) ?_
     refine ax_q (q_load1_ptr rfl rfl rfl) ?_
     refine ax_q (q_lenT rfl) ?_
     refine ax_q (q_ibin rfl rfl rfl) ?_
     exact ax_nil ⟨rfl, by repeat (first | exact trivial | refine ⟨rfl, ?_⟩ | refine ⟨?_, ?_⟩)⟩
    refine ax_nil ?_
    refine cx_keep rfl rfl ?_
    refine cx_cond rfl (fun h3 => ?_) (fun h3 => ?_)
    ·
     have h3 := (fun h => (or_T h).imp nT dT) h3
     refine cx_seq ?_
     refine cx_ops ?_
     refine ax_q (q_mov rfl) ?_
     refine ax_nil ?_
     refine cx_keep rfl rfl ?_
     refine cx_ret (ret0 rfl rfl ?_)
     have e : valueOK v = false := by
      rw [valueOK_2 h0 h1]
      rcases h3 with h | h
      ·
       simp [h]
      ·
       unfold isWord; rw [decide_eq_false (show ¬ ((v.T.length : Int) ≤ 10) from by omega)]; simp
     exact ⟨by rw [e] <;> rfl, rfl⟩
    ·
     have h3 := (fun h => And.intro (nF (or_F h).1) (dF (or_F h).2)) h3
     refine cx_skip ?_
     refine cx_keep rfl rfl ?_
     refine cx_seq ?_
     refine cx_seq ?_
     refine cx_ops ?_
     refine ax_q (q_mov rfl) ?_
     refine ax_nil ?_
     refine cx_keep rfl rfl ?_
     refine cx_block ?_
     refine cx_loopU (fun n k => k ≤ v.T.length ∧ n = v.T.length - k ∧ ∀ j, j < k → ∀ x, v.T[j]? = some x → badCh x = false) (fun k : Nat => [(3, int k)]) (fun _ => [(1, .box [.d (.int .i64 v.Kind), .d (.int .i64 v.N), .d (.str v.T)])]) ⟨_, 0, ⟨Nat.zero_le _, rfl, fun j hj => by omega⟩, by repeat (first | exact trivial | refine ⟨rfl, ?_⟩ | refine ⟨?_, ?_⟩)⟩ ?_
     rintro n k ⟨hk, rfl, hb⟩
     refine cx_seq ?_
     refine cx_seq ?_
     refine cx_ops ?_
     refine ax_q (q_mov rfl) ?_
     refine ax_q (q_fadr_ptr rfl) ?_
     refine ax_q (q_load1_ptr rfl rfl rfl) ?_
     refine ax_q (q_lenT rfl) ?_
     refine ax_q (q_ibin rfl rfl rfl) ?_
     refine ax_nil ?_
     refine cx_keep rfl rfl ?_
     refine cx_cond rfl (fun h4 => ?_) (fun h4 => ?_)
     ·
      have h4 := dT h4
      have h4x : k < v.T.length := by omega
      refine cx_skip ?_
      refine cx_keep rfl rfl ?_
      refine cx_seq ?_
      refine cx_block ?_
      refine cx_seq ?_
      refine cx_ops ?_
      refine ax_q (q_fadr_ptr rfl) ?_
      refine ax_q (q_load1_ptr rfl rfl rfl) ?_
      refine ax_q (q_mov rfl) ?_
      refine ax_q (q_idxN rfl rfl (by first | assumption | omega)) ?_
      refine ax_q (q_convB rfl) ?_
      refine ax_call rfl (vc_pure0 (c_l01In  ) hP rfl rfl ?_)
      refine ax_q (q_not rfl) ?_
      refine ax_nil ?_
      refine cx_keep rfl rfl ?_
      refine cx_cond rfl (fun h5 => ?_) (fun h5 => ?_)
      ·
       have h5 : badCh v.T[k] = true := h5
       refine cx_seq ?_
       refine cx_ops ?_
       refine ax_q (q_mov rfl) ?_
       refine ax_nil ?_
       refine cx_keep rfl rfl ?_
       refine cx_ret (ret0 rfl rfl ?_)
       have e : valueOK v = false := by
        rw [valueOK_2 h0 h1]; unfold isWord; rw [any_hit h4x h5]; simp
       exact ⟨by rw [e]; rfl, rfl⟩
      ·
       have h5 : badCh v.T[k] = false := h5
       refine cx_skip ?_
       refine cx_keep rfl rfl ?_
       refine cx_ops ?_
       refine ax_q (q_mov rfl) ?_
       refine ax_qe (r' := int ((k + 1 : Nat) : Int)) (q_ibin rfl rfl rfl) (by rw [wi (by omega) (by omega)]; rfl) ?_
       refine ax_q (q_mov rfl) ?_
       refine ax_nil ?_
       exact ⟨_, k + 1, by omega, ⟨by omega, rfl, before_step h4x hb h5⟩, by repeat (first | exact trivial | refine ⟨rfl, ?_⟩ | refine ⟨?_, ?_⟩)⟩
     ·
      have h4 := dF h4
      have h4x : k = v.T.length := by omega
      refine cx_exit rfl ?_
      refine cx_keep rfl rfl ?_
      refine cx_seq ?_
      refine cx_ops ?_
      refine ax_q (q_mov rfl) ?_
      refine ax_nil ?_
      refine cx_keep rfl rfl ?_
      refine cx_ret (ret0 rfl rfl ?_)
      exact ⟨by rw [valueOK_2 h0 h1]; unfold isWord; rw [any_all (fun i hi => hb i (by omega)), decide_eq_true h2, decide_eq_true (show v.N = 0 from by omega), decide_eq_true (show (v.T.length : Int) ≤ 10 from by omega)] <;> rfl, rfl⟩
   ·
    have h2 := dF h2
    refine cx_skip ?_
    refine cx_keep rfl rfl ?_
    refine cx_seq ?_
    refine cx_ops ?_
    refine ax_q (q_mov rfl) ?_
    refine ax_nil ?_
    refine cx_keep rfl rfl ?_
    refine cx_ret (ret0 rfl rfl ?_)
    exact ⟨by rw [valueOK_2 h0 h1, decide_eq_false h2] <;> rfl, rfl⟩


/- loop.example/g00332/spec.l07Row -/
def k_c_l07Row : XCode :=
 .seq (.ops [.op (some 1) (.box (.t 0)),
   .op (some 2) (.mov (.k (.bool false)))])
 (.keep [1] (.seq (.ops [.op (some 3) (.fadr (.t 1) 0),
   .op (some 4) (.load1 (.t 3)),
   .call (some 5) 13 [.t 4, .k (.int .i64 0), .k (.int .i64 1000)],
   .op (some 6) (.mov (.t 5)),
   .andor 10 true 3 6 [.op (some 7) (.fadr (.t 1) 1), .op (some 8) (.loadN 3 (.t 7)), .call (some 9) 38 [.t 8]] (.t 9),
   .op (some 11) (.mov (.t 10)),
   .andor 15 true 8 11 [.op (some 12) (.fadr (.t 1) 4), .op (some 13) (.loadN 3 (.t 12)), .call (some 14) 38 [.t 13]] (.t 14),
   .op (some 16) (.mov (.t 15)),
   .andor 21 true 13 16 [.op (some 17) (.fadr (.t 1) 1), .op (some 18) (.fadr (.t 17) 0), .op (some 19) (.load1 (.t 18)), .op (some 20) (.bin .neq (.t 19) (.k (.int .i64 2)))] (.t 20),
   .op (some 22) (.mov (.t 21)),
   .andor 27 true 19 22 [.op (some 23) (.fadr (.t 1) 4), .op (some 24) (.fadr (.t 23) 0), .op (some 25) (.load1 (.t 24)), .op (some 26) (.bin .neq (.t 25) (.k (.int .i64 1)))] (.t 26),
   .op (some 2) (.mov (.t 27))])
 (.keep [2] (.ret))))
theorem k_c_l07Row_fits : fitsF Try.prog 22 ⟨28, k_c_l07Row, [.t 2]⟩ = true := by kernel_rfl
theorem c_l07Row {a : GRow} (hv : a.N.T.length ≤ 1048576) (hw : a.Name.T.length ≤ 1048576) : Con Try.prog noMv 22 [a.av] [] (fun r h => r = bool (rowOK a) ∧ h = []) := by
 refine con_of2 k_c_l07Row_fits rfl fun C hP hmv => ?_
 unfold k_c_l07Row
 refine cx_seq ?_
 refine cx_ops ?_
 refine ax_e (e_box rfl rfl (by decide) rfl rfl rfl) ?_
 refine ax_q (q_mov rfl) ?_
 refine ax_nil ?_
 refine cx_keep rfl rfl ?_
 refine cx_seq ?_
 refine cx_ops ?_
 refine ax_q (q_fadr_ptr rfl) ?_
 refine ax_q (q_load1_ptr rfl rfl rfl) ?_
 refine ax_call rfl (vc_pure0 (c_l01In  ) hP rfl rfl ?_)
 refine ax_q (q_mov rfl) ?_
 apply ax_and rfl rfl
 ·
  intro g
  refine ax_q (q_fadr_ptr rfl) ?_
  refine ax_q (q_ldN rfl rfl rfl) ?_
  refine ax_call rfl (vc_pure0 (c_sValueOK (v := a.N) ?_) hP rfl rfl ?_)
  ·
   assumption
  exact ax_nil ⟨rfl, by repeat (first | exact trivial | refine ⟨rfl, ?_⟩ | refine ⟨?_, ?_⟩)⟩
 refine ax_q (q_mov rfl) ?_
 apply ax_and rfl rfl
 ·
  intro g
  have g := (fun h => And.intro (id (and_T h).1) (id (and_T h).2)) g
  refine ax_q (q_fadr_ptr rfl) ?_
  refine ax_q (q_ldN rfl rfl rfl) ?_
  refine ax_call rfl (vc_pure0 (c_sValueOK (v := a.Name) ?_) hP rfl rfl ?_)
  ·
   assumption
  exact ax_nil ⟨rfl, by repeat (first | exact trivial | refine ⟨rfl, ?_⟩ | refine ⟨?_, ?_⟩)⟩
 refine ax_q (q_mov rfl) ?_
 apply ax_and rfl rfl
 ·
  intro g
  have g := (fun h => And.intro ((fun h => And.intro (id (and_T h).1) (id (and_T h).2)) (and_T h).1) (id (and_T h).2)) g
  refine ax_q (q_fadr_ptr rfl) ?_
  refine ax_q (q_fadr_ptr rfl) ?_
  refine ax_q (q_load1_ptr rfl rfl rfl) ?_
  refine ax_q (q_ibin rfl rfl rfl) ?_
  exact ax_nil ⟨rfl, by repeat (first | exact trivial | refine ⟨rfl, ?_⟩ | refine ⟨?_, ?_⟩)⟩
 refine ax_q (q_mov rfl) ?_
 apply ax_and rfl rfl
 ·
  intro g
  have g := (fun h => And.intro ((fun h => And.intro ((fun h => And.intro (id (and_T h).1) (id (and_T h).2)) (and_T h).1) (id (and_T h).2)) (and_T h).1) (nT (and_T h).2)) g
  refine ax_q (q_fadr_ptr rfl) ?_
  refine ax_q (q_fadr_ptr rfl) ?_
  refine ax_q (q_load1_ptr rfl rfl rfl) ?_
  refine ax_q (q_ibin rfl rfl rfl) ?_
  exact ax_nil ⟨rfl, by repeat (first | exact trivial | refine ⟨rfl, ?_⟩ | refine ⟨?_, ?_⟩)⟩
 refine ax_q (q_mov rfl) ?_
 refine ax_nil ?_
 refine cx_keep rfl rfl ?_
 refine cx_ret (ret0 rfl rfl ?_)
 exact ⟨rfl, rfl⟩


/- loop.example/g00332/spec.l12Rows -/
def k_c_l12Rows : XCode :=
 .seq (.ops [.op (some 2) (.mov (.k (.bool false)))])
 (.keep [0] (.seq (.seq (.ops [.op (some 3) (.mov (.k (.int .i64 0)))])
  (.keep [0, 3] (.block 0 (.loop (.seq (.seq (.ops [.op (some 4) (.mov (.t 3)),
     .op (some 5) (.mov (.t 0)),
     .op (some 6) (.lenS (.t 5)),
     .op (some 7) (.bin .lss (.t 4) (.t 6))])
   (.keep [0, 3, 7] (.cond (.t 7)
    (.skip)
    (.exit 0))))
   (.keep [0, 3] (.seq (.block 1 (.seq (.draw [.op (some 10) (.mov (.t 0)),
     .op (some 11) (.mov (.t 3)),
     .op (some 12) (.iadr 7 (.t 10) (.t 11)),
     .op (some 13) (.loadN 7 (.t 12)),
     .call (some 14) 22 [.t 13],
     .op (some 15) (.not (.t 14)),
     .op (some 16) (.mov (.t 15)),
     .andor 33 false 6 16 [.op (some 17) (.mov (.t 3)), .op (some 18) (.bin .gtr (.t 17) (.k (.int .i64 0))), .op (some 19) (.mov (.t 18)), .andor 32 true 9 19 [.op (some 20) (.mov (.t 0)), .op (some 21) (.mov (.t 3)), .op (some 22) (.bin .sub (.t 21) (.k (.int .i64 1))), .op (some 23) (.iadr 7 (.t 20) (.t 22)), .op (some 24) (.fadr (.t 23) 0), .op (some 25) (.load1 (.t 24)), .op (some 26) (.mov (.t 0)), .op (some 27) (.mov (.t 3)), .op (some 28) (.iadr 7 (.t 26) (.t 27)), .op (some 29) (.fadr (.t 28) 0), .op (some 30) (.load1 (.t 29)), .op (some 31) (.bin .geq (.t 25) (.t 30))] (.t 31)] (.t 32)])
    (.keep [0, 3, 33] (.cond (.t 33)
    (.seq (.ops [.op (some 2) (.mov (.k (.bool false)))])
     (.keep [2] (.ret)))
    (.skip)))))
   (.keep [0, 3] (.ops [.op (some 8) (.mov (.t 3)),
    .op (some 9) (.bin .add (.t 8) (.k (.int .i64 1))),
    .op (some 3) (.mov (.t 9))])))))))))
 (.keep [] (.seq (.ops [.op (some 2) (.mov (.k (.bool true)))])
 (.keep [2] (.ret))))))
theorem k_c_l12Rows_fits : fitsF Try.prog 12 ⟨34, k_c_l12Rows, [.t 2]⟩ = true := by kernel_rfl
theorem c_l12Rows {xs : List GRow} (hl : xs.length ≤ 100) (hsz : ∀ x ∈ xs, x.N.T.length ≤ 1048576 ∧ x.Name.T.length ≤ 1048576) : Con Try.prog noMv 12 [.d (.sl 7 (xs.map GRow.row))] [] (fun r h => r = bool (goodRows xs) ∧ h = []) := by
 refine con_of2 k_c_l12Rows_fits rfl fun C hP hmv => ?_
 unfold k_c_l12Rows
 refine cx_seq ?_
 refine cx_ops ?_
 refine ax_q (q_mov rfl) ?_
 refine ax_nil ?_
 refine cx_keep rfl rfl ?_
 refine cx_seq ?_
 refine cx_seq ?_
 refine cx_ops ?_
 refine ax_q (q_mov rfl) ?_
 refine ax_nil ?_
 refine cx_keep rfl rfl ?_
 refine cx_block ?_
 refine cx_loopU (fun n k => k ≤ xs.length ∧ n = xs.length - k ∧ goodK xs k) (fun k : Nat => [(3, int k)]) (fun _ => []) ⟨_, 0, ⟨Nat.zero_le _, rfl, goodK_0⟩, by repeat (first | exact trivial | refine ⟨rfl, ?_⟩ | refine ⟨?_, ?_⟩)⟩ ?_
 rintro n k ⟨hk, rfl, hg⟩
 refine cx_seq ?_
 refine cx_seq ?_
 refine cx_ops ?_
 refine ax_q (q_mov rfl) ?_
 refine ax_q (q_mov rfl) ?_
 refine ax_q (q_lenS_map rfl) ?_
 refine ax_q (q_ibin rfl rfl rfl) ?_
 refine ax_nil ?_
 refine cx_keep rfl rfl ?_
 refine cx_cond rfl (fun h0 => ?_) (fun h0 => ?_)
 ·
  have h0 := dT h0
  have h0x : k < xs.length := by omega
  obtain ⟨hz1, hz2⟩ := hsz _ (List.getElem_mem h0x)
  refine cx_skip ?_
  refine cx_keep rfl rfl ?_
  refine cx_seq ?_
  refine cx_block ?_
  refine cx_seq ?_
  refine cx_draw ?_
  refine ax_q (q_mov rfl) ?_
  refine ax_q (q_mov rfl) ?_
  refine ax_q (q_ix rfl rfl (mapAt h0x)) ?_
  first | refine ax_q (q_ldN rfl rfl rfl) ?_ | refine ax_q (q_loadN_ip rfl (Nat.le_refl _)) ?_
  refine ax_callq rfl (c_l07Row (a := xs[k]) ?_ ?_) hP (lal_id _ rfl) rfl ?_
  ·
   assumption
  ·
   assumption
  refine ax_q (q_not rfl) ?_
  refine ax_q (q_mov rfl) ?_
  apply ax_or rfl rfl
  ·
   intro g
   have g := bF g
   refine ax_q (q_mov rfl) ?_
   refine ax_q (q_ibin rfl rfl rfl) ?_
   refine ax_q (q_mov rfl) ?_
   apply ax_and rfl rfl
   ·
    intro g
    have g := dT g
    refine ax_q (q_mov rfl) ?_
    refine ax_q (q_mov rfl) ?_
    refine ax_qe (r' := int ((k - 1 : Nat) : Int)) (q_ibin rfl rfl rfl) (by rw [wi (by omega) (by omega)]; exact congrArg AM.int (by omega)) ?_
    refine ax_q (q_ix (row := GRow.row (xs.getD (k - 1) .zero)) rfl rfl (mapAtD (by omega))) ?_
    first | refine ax_q (q_fadr_ptr rfl) ?_ | refine ax_q (q_fadr_rptr rfl) ?_ | refine ax_q (q_fadr_ip rfl) ?_
    first | refine ax_q (q_load1_ptr rfl rfl rfl) ?_ | refine ax_q (q_load1_ip rfl) ?_
    refine ax_q (q_mov rfl) ?_
    refine ax_q (q_mov rfl) ?_
    refine ax_q (q_ix rfl rfl (mapAt h0x)) ?_
    first | refine ax_q (q_fadr_ptr rfl) ?_ | refine ax_q (q_fadr_rptr rfl) ?_ | refine ax_q (q_fadr_ip rfl) ?_
    first | refine ax_q (q_load1_ptr rfl rfl rfl) ?_ | refine ax_q (q_load1_ip rfl) ?_
    refine ax_q (q_ibin rfl rfl rfl) ?_
    exact ax_nil ⟨rfl, by repeat (first | exact trivial | refine ⟨rfl, ?_⟩ | refine ⟨?_, ?_⟩)⟩
   exact ax_nil ⟨rfl, by repeat (first | exact trivial | refine ⟨rfl, ?_⟩ | refine ⟨?_, ?_⟩)⟩
  refine ax_nil ?_
  refine cx_keep rfl rfl ?_
  refine cx_cond rfl (fun h1 => ?_) (fun h1 => ?_)
  ·
   have h1 := (fun h => (or_T h).imp bT (fun h => And.intro (dT (and_T h).1) (dT (and_T h).2))) h1
   have hgf : goodRows xs = false := good_f h0x (h1.imp id (fun ⟨p, q⟩ => ⟨by omega, by omega⟩))
   refine cx_seq ?_
   refine cx_ops ?_
   refine ax_q (q_mov rfl) ?_
   refine ax_nil ?_
   refine cx_keep rfl rfl ?_
   refine cx_ret (ret0 rfl rfl ?_)
   exact ⟨by rw [hgf]; rfl, rfl⟩
  ·
   have h1 := (fun h => And.intro (bF (or_F h).1) ((fun h => (and_F h).imp dF dF) (or_F h).2)) h1
   have hgs : goodK xs (k + 1) := goodK_succ h0x hg h1.1 (fun h => by have := h1.2; omega)
   refine cx_skip ?_
   refine cx_keep rfl rfl ?_
   refine cx_ops ?_
   refine ax_q (q_mov rfl) ?_
   refine ax_qe (r' := int ((k + 1 : Nat) : Int)) (q_ibin rfl rfl rfl) (by rw [wi (by omega) (by omega)]; rfl) ?_
   refine ax_q (q_mov rfl) ?_
   refine ax_nil ?_
   exact ⟨_, k + 1, by omega, ⟨by omega, rfl, hgs⟩, by repeat (first | exact trivial | refine ⟨rfl, ?_⟩ | refine ⟨?_, ?_⟩)⟩
 ·
  have h0 := dF h0
  obtain rfl : k = xs.length := by omega
  refine cx_exit rfl ?_
  refine cx_keep rfl rfl ?_
  refine cx_seq ?_
  refine cx_ops ?_
  refine ax_q (q_mov rfl) ?_
  refine ax_nil ?_
  refine cx_keep rfl rfl ?_
  refine cx_ret (ret0 rfl rfl ?_)
  exact ⟨by rw [good_t hg]; rfl, rfl⟩


/- loop.example/g00332/spec.l01Bit -/
def k_c_l01Bit : XCode :=
 .seq (.ops [.op (some 2) (.mov (.k (.int .i64 0)))])
 (.keep [0] (.seq (.seq (.ops [.op (some 3) (.mov (.t 0))])
  (.keep [3] (.cond (.t 3)
  (.seq (.ops [.op (some 2) (.mov (.k (.int .i64 1)))])
   (.keep [2] (.ret)))
  (.skip))))
 (.keep [] (.seq (.ops [.op (some 2) (.mov (.k (.int .i64 0)))])
 (.keep [2] (.ret))))))
theorem k_c_l01Bit_fits : fitsF Try.prog 39 ⟨4, k_c_l01Bit, [.t 2]⟩ = true := by kernel_rfl
theorem c_l01Bit {b : Bool} : Con Try.prog noMv 39 [bool b] [] (fun r h => r = int (bitI b) ∧ h = []) := by
 refine con_of2 k_c_l01Bit_fits rfl fun C hP hmv => ?_
 unfold k_c_l01Bit
 refine cx_seq ?_
 refine cx_ops ?_
 refine ax_q (q_mov rfl) ?_
 refine ax_nil ?_
 refine cx_keep rfl rfl ?_
 refine cx_seq ?_
 refine cx_seq ?_
 refine cx_ops ?_
 refine ax_q (q_mov rfl) ?_
 refine ax_nil ?_
 refine cx_keep rfl rfl ?_
 refine cx_cond rfl (fun h0 => ?_) (fun h0 => ?_)
 ·
  skip
  refine cx_seq ?_
  refine cx_ops ?_
  refine ax_q (q_mov rfl) ?_
  refine ax_nil ?_
  refine cx_keep rfl rfl ?_
  refine cx_ret (ret0 rfl rfl ?_)
  exact ⟨by rw [h0]; rfl, rfl⟩
 ·
  skip
  refine cx_skip ?_
  refine cx_keep rfl rfl ?_
  refine cx_seq ?_
  refine cx_ops ?_
  refine ax_q (q_mov rfl) ?_
  refine ax_nil ?_
  refine cx_keep rfl rfl ?_
  refine cx_ret (ret0 rfl rfl ?_)
  exact ⟨by rw [h0]; rfl, rfl⟩


/- loop.example/g00332/spec.l01Compare -/
def k_c_l01Compare : XCode :=
 .seq (.ops [.op (some 2) (.box (.t 0)),
   .op (some 3) (.box (.t 1)),
   .op (some 4) (.mov (.k (.int .i64 0)))])
 (.keep [2, 3] (.seq (.block 0 (.seq (.ops [.op (some 6) (.fadr (.t 2) 0),
    .op (some 7) (.load1 (.t 6)),
    .op (some 8) (.fadr (.t 3) 0),
    .op (some 9) (.load1 (.t 8)),
    .op (some 10) (.bin .neq (.t 7) (.t 9)),
    .op (some 5) (.mov (.t 10))])
  (.keep [2, 3, 5] (.cond (.t 5)
   (.seq (.ops [.op (some 11) (.fadr (.t 2) 0),
     .op (some 12) (.load1 (.t 11)),
     .op (some 13) (.fadr (.t 3) 0),
     .op (some 14) (.load1 (.t 13)),
     .op (some 15) (.bin .gtr (.t 12) (.t 14)),
     .call (some 16) 39 [.t 15],
     .op (some 17) (.bin .mul (.k (.int .i64 2)) (.t 16)),
     .op (some 18) (.bin .sub (.t 17) (.k (.int .i64 1))),
     .op (some 4) (.mov (.t 18))])
   (.keep [4] (.ret)))
   (.seq (.ops [.op (some 20) (.fadr (.t 2) 1),
     .op (some 21) (.load1 (.t 20)),
     .op (some 22) (.fadr (.t 3) 1),
     .op (some 23) (.load1 (.t 22)),
     .op (some 24) (.bin .neq (.t 21) (.t 23)),
     .op (some 19) (.mov (.t 24))])
   (.keep [2, 3, 19] (.cond (.t 19)
    (.seq (.ops [.op (some 25) (.fadr (.t 2) 1),
      .op (some 26) (.load1 (.t 25)),
      .op (some 27) (.fadr (.t 3) 1),
      .op (some 28) (.load1 (.t 27)),
      .op (some 29) (.bin .gtr (.t 26) (.t 28)),
      .call (some 30) 39 [.t 29],
      .op (some 31) (.bin .mul (.k (.int .i64 2)) (.t 30)),
      .op (some 32) (.bin .sub (.t 31) (.k (.int .i64 1))),
      .op (some 4) (.mov (.t 32))])
    (.keep [4] (.ret)))
    (.seq (.ops [.op (some 34) (.fadr (.t 2) 2),
      .op (some 35) (.load1 (.t 34)),
      .op (some 36) (.fadr (.t 3) 2),
      .op (some 37) (.load1 (.t 36)),
      .op (some 38) (.bin .neq (.t 35) (.t 37)),
      .op (some 33) (.mov (.t 38))])
    (.keep [2, 3, 33] (.cond (.t 33)
     (.seq (.ops [.op (some 39) (.fadr (.t 2) 2),
       .op (some 40) (.load1 (.t 39)),
       .op (some 41) (.fadr (.t 3) 2),
       .op (some 42) (.load1 (.t 41)),
       .op (some 43) (.bin .gtr (.t 40) (.t 42)),
       .call (some 44) 39 [.t 43],
       .op (some 45) (.bin .mul (.k (.int .i64 2)) (.t 44)),
       .op (some 46) (.bin .sub (.t 45) (.k (.int .i64 1))),
       .op (some 4) (.mov (.t 46))])
     (.keep [4] (.ret)))
     (.skip)))))))))))
 (.keep [] (.seq (.ops [.op (some 4) (.mov (.k (.int .i64 0)))])
 (.keep [4] (.ret))))))
theorem k_c_l01Compare_fits : fitsF Try.prog 23 ⟨47, k_c_l01Compare, [.t 4]⟩ = true := by kernel_rfl
theorem c_l01Compare {a b : GValue} : Con Try.prog noMv 23 [a.av, b.av] [] (fun r h => r = int (cmpV a b) ∧ h = []) := by
 refine con_of2 k_c_l01Compare_fits rfl fun C hP hmv => ?_
 unfold k_c_l01Compare
 refine cx_seq ?_
 refine cx_ops ?_
 refine ax_e (e_box rfl rfl (by decide) rfl rfl rfl) ?_
 refine ax_e (e_box rfl rfl (by decide) rfl rfl rfl) ?_
 refine ax_q (q_mov rfl) ?_
 refine ax_nil ?_
 refine cx_keep rfl rfl ?_
 refine cx_seq ?_
 refine cx_block ?_
 refine cx_seq ?_
 refine cx_ops ?_
 refine ax_q (q_fadr_ptr rfl) ?_
 refine ax_q (q_load1_ptr rfl rfl rfl) ?_
 refine ax_q (q_fadr_ptr rfl) ?_
 refine ax_q (q_load1_ptr rfl rfl rfl) ?_
 refine ax_q (q_ibin rfl rfl rfl) ?_
 refine ax_q (q_mov rfl) ?_
 refine ax_nil ?_
 refine cx_keep rfl rfl ?_
 refine cx_cond rfl (fun h0 => ?_) (fun h0 => ?_)
 ·
  have h0 := nT h0
  refine cx_seq ?_
  refine cx_ops ?_
  refine ax_q (q_fadr_ptr rfl) ?_
  refine ax_q (q_load1_ptr rfl rfl rfl) ?_
  refine ax_q (q_fadr_ptr rfl) ?_
  refine ax_q (q_load1_ptr rfl rfl rfl) ?_
  refine ax_q (q_ibin rfl rfl rfl) ?_
  refine ax_call rfl (vc_pure0 (c_l01Bit  ) hP rfl rfl ?_)
  have hbb := @bitI_b (decide (b.Kind < a.Kind))
  refine ax_q (q_mul rfl rfl (by omega)) ?_
  refine ax_q (q_sub rfl rfl (by omega)) ?_
  refine ax_q (q_mov rfl) ?_
  refine ax_nil ?_
  refine cx_keep rfl rfl ?_
  refine cx_ret (ret0 rfl rfl ?_)
  exact ⟨by rw [show cmpV a b = cmpI a.Kind b.Kind from by unfold cmpV; rw [if_pos h0], cmpI_ne h0]; rfl, rfl⟩
 ·
  have h0 := nF h0
  refine cx_seq ?_
  refine cx_ops ?_
  refine ax_q (q_fadr_ptr rfl) ?_
  refine ax_q (q_load1_ptr rfl rfl rfl) ?_
  refine ax_q (q_fadr_ptr rfl) ?_
  refine ax_q (q_load1_ptr rfl rfl rfl) ?_
  refine ax_q (q_ibin rfl rfl rfl) ?_
  refine ax_q (q_mov rfl) ?_
  refine ax_nil ?_
  refine cx_keep rfl rfl ?_
  refine cx_cond rfl (fun h1 => ?_) (fun h1 => ?_)
  ·
   have h1 := nT h1
   refine cx_seq ?_
   refine cx_ops ?_
   refine ax_q (q_fadr_ptr rfl) ?_
   refine ax_q (q_load1_ptr rfl rfl rfl) ?_
   refine ax_q (q_fadr_ptr rfl) ?_
   refine ax_q (q_load1_ptr rfl rfl rfl) ?_
   refine ax_q (q_ibin rfl rfl rfl) ?_
   refine ax_call rfl (vc_pure0 (c_l01Bit  ) hP rfl rfl ?_)
   have hbb := @bitI_b (decide (b.N < a.N))
   refine ax_q (q_mul rfl rfl (by omega)) ?_
   refine ax_q (q_sub rfl rfl (by omega)) ?_
   refine ax_q (q_mov rfl) ?_
   refine ax_nil ?_
   refine cx_keep rfl rfl ?_
   refine cx_ret (ret0 rfl rfl ?_)
   exact ⟨by rw [show cmpV a b = cmpI a.N b.N from by unfold cmpV; rw [if_neg (by omega), if_pos h1], cmpI_ne h1]; rfl, rfl⟩
  ·
   have h1 := nF h1
   refine cx_seq ?_
   refine cx_ops ?_
   refine ax_q (q_fadr_ptr rfl) ?_
   refine ax_q (q_load1_ptr rfl rfl rfl) ?_
   refine ax_q (q_fadr_ptr rfl) ?_
   refine ax_q (q_load1_ptr rfl rfl rfl) ?_
   refine ax_q (q_sbin rfl rfl rfl) ?_
   refine ax_q (q_mov rfl) ?_
   refine ax_nil ?_
   refine cx_keep rfl rfl ?_
   refine cx_cond rfl (fun h2 => ?_) (fun h2 => ?_)
   ·
    have h2 := nT h2
    refine cx_seq ?_
    refine cx_ops ?_
    refine ax_q (q_fadr_ptr rfl) ?_
    refine ax_q (q_load1_ptr rfl rfl rfl) ?_
    refine ax_q (q_fadr_ptr rfl) ?_
    refine ax_q (q_load1_ptr rfl rfl rfl) ?_
    refine ax_q (q_sbin rfl rfl rfl) ?_
    refine ax_call rfl (vc_pure0 (c_l01Bit  ) hP rfl rfl ?_)
    have hbb := @bitI_b (!(Op.bytesLess a.T b.T || decide (a.T = b.T)))
    refine ax_q (q_mul rfl rfl (by omega)) ?_
    refine ax_q (q_sub rfl rfl (by omega)) ?_
    refine ax_q (q_mov rfl) ?_
    refine ax_nil ?_
    refine cx_keep rfl rfl ?_
    refine cx_ret (ret0 rfl rfl ?_)
    exact ⟨by rw [show cmpV a b = cmpS a.T b.T from by unfold cmpV; rw [if_neg (by omega), if_neg (by omega)], cmpS_ne h2]; rfl, rfl⟩
   ·
    have h2 := nF h2
    refine cx_skip ?_
    refine cx_keep rfl rfl ?_
    refine cx_seq ?_
    refine cx_ops ?_
    refine ax_q (q_mov rfl) ?_
    refine ax_nil ?_
    refine cx_keep rfl rfl ?_
    refine cx_ret (ret0 rfl rfl ?_)
    exact ⟨by rw [show cmpV a b = cmpS a.T b.T from by unfold cmpV; rw [if_neg (by omega), if_neg (by omega)], show cmpS a.T b.T = 0 from by unfold cmpS; rw [if_pos h2]]; rfl, rfl⟩


/- loop.example/g00332/spec.l10Int -/
def k_c_sInt : XCode :=
 .seq (.ops [.op (some 2) (.alloc [.int .i64 0, .int .i64 0, .str []])])
 (.keep [0, 2] (.seq (.ops [.op (some 3) (.mov (.t 0)),
   .op (some 4) (.build [.int .i64 0, .int .i64 0, .str []] [(0, 1, .k (.int .i64 1)), (1, 1, .t 3)]),
   .op none (.store 3 (.t 2) (.t 4))])
 (.keep [2] (.ret))))
theorem k_c_sInt_fits : fitsF Try.prog 25 ⟨5, k_c_sInt, [.cN 2 3]⟩ = true := by kernel_rfl
theorem c_sInt {n : Int} : Con Try.prog noMv 25 [int n] [] (fun r h => r = (vI n).av ∧ h = []) := by
 refine con_of2 k_c_sInt_fits rfl fun C hP hmv => ?_
 unfold k_c_sInt
 refine cx_seq ?_
 refine cx_ops ?_
 refine ax_e (e_alloc (by decide) rfl rfl) ?_
 refine ax_nil ?_
 refine cx_keep rfl rfl ?_
 refine cx_seq ?_
 refine cx_ops ?_
 refine ax_q (q_mov rfl) ?_
 refine ax_q (q_build rfl) ?_
 refine ax_e (e_st rfl rfl rfl rfl rfl rfl rfl) ?_
 refine ax_nil ?_
 refine cx_keep rfl rfl ?_
 refine cx_ret (ret0 rfl rfl ?_)
 exact ⟨rfl, rfl⟩


/- loop.example/g00332/spec.l10Column -/
def k_c_sColumn : XCode :=
 .seq (.ops [.op (some 2) (.box (.t 0)),
   .op (some 4) (.alloc [.int .i64 0, .int .i64 0, .str []])])
 (.keep [1, 2, 4] (.seq (.seq (.ops [.op (some 5) (.mov (.t 1))])
  (.keep [2, 4, 5] (.block 0 (.seq (.ops [.op (some 7) (.bin .eql (.t 5) (.k (.int .i64 0))),
    .op (some 6) (.mov (.t 7))])
  (.keep [2, 4, 5, 6] (.cond (.t 6)
   (.seq (.ops [.op (some 8) (.fadr (.t 2) 0),
     .op (some 9) (.load1 (.t 8)),
     .call (some 10) 25 [.t 9],
     .op none (.store 3 (.t 4) (.t 10))])
   (.keep [4] (.ret)))
   (.seq (.ops [.op (some 12) (.bin .eql (.t 5) (.k (.int .i64 1))),
     .op (some 11) (.mov (.t 12))])
   (.keep [2, 4, 11] (.cond (.t 11)
    (.seq (.ops [.op (some 13) (.fadr (.t 2) 1),
      .op (some 14) (.loadN 3 (.t 13)),
      .op none (.store 3 (.t 4) (.t 14))])
    (.keep [4] (.ret)))
    (.skip))))))))))
 (.keep [2, 4] (.seq (.ops [.op (some 15) (.fadr (.t 2) 4),
   .op (some 16) (.loadN 3 (.t 15)),
   .op none (.store 3 (.t 4) (.t 16))])
 (.keep [4] (.ret))))))
theorem k_c_sColumn_fits : fitsF Try.prog 24 ⟨17, k_c_sColumn, [.cN 4 3]⟩ = true := by kernel_rfl
theorem c_sColumn {w : GRow} {k : Int} : Con Try.prog noMv 24 [w.av, int k] [] (fun r h => r = (colF w k).av ∧ h = []) := by
 refine con_of2 k_c_sColumn_fits rfl fun C hP hmv => ?_
 unfold k_c_sColumn
 refine cx_seq ?_
 refine cx_ops ?_
 refine ax_e (e_box rfl rfl (by decide) rfl rfl rfl) ?_
 refine ax_e (e_alloc (by decide) rfl rfl) ?_
 refine ax_nil ?_
 refine cx_keep rfl rfl ?_
 refine cx_seq ?_
 refine cx_seq ?_
 refine cx_ops ?_
 refine ax_q (q_mov rfl) ?_
 refine ax_nil ?_
 refine cx_keep rfl rfl ?_
 refine cx_block ?_
 refine cx_seq ?_
 refine cx_ops ?_
 refine ax_q (q_ibin rfl rfl rfl) ?_
 refine ax_q (q_mov rfl) ?_
 refine ax_nil ?_
 refine cx_keep rfl rfl ?_
 refine cx_cond rfl (fun h0 => ?_) (fun h0 => ?_)
 ·
  have h0 := dT h0
  refine cx_seq ?_
  refine cx_ops ?_
  refine ax_q (q_fadr_ptr rfl) ?_
  refine ax_q (q_load1_ptr rfl rfl rfl) ?_
  refine ax_call rfl (vc_pure0 (c_sInt  ) hP rfl rfl ?_)
  refine ax_e (e_st rfl rfl rfl rfl rfl rfl rfl) ?_
  refine ax_nil ?_
  refine cx_keep rfl rfl ?_
  refine cx_ret (ret0 rfl rfl ?_)
  exact ⟨by unfold colF; rw [if_pos h0]; rfl, rfl⟩
 ·
  have h0 := dF h0
  refine cx_seq ?_
  refine cx_ops ?_
  refine ax_q (q_ibin rfl rfl rfl) ?_
  refine ax_q (q_mov rfl) ?_
  refine ax_nil ?_
  refine cx_keep rfl rfl ?_
  refine cx_cond rfl (fun h1 => ?_) (fun h1 => ?_)
  ·
   have h1 := dT h1
   refine cx_seq ?_
   refine cx_ops ?_
   refine ax_q (q_fadr_ptr rfl) ?_
   refine ax_q (q_ldN rfl rfl rfl) ?_
   refine ax_e (e_st rfl rfl rfl rfl rfl rfl rfl) ?_
   refine ax_nil ?_
   refine cx_keep rfl rfl ?_
   refine cx_ret (ret0 rfl rfl ?_)
   exact ⟨by unfold colF; rw [if_neg h0, if_pos h1]; rfl, rfl⟩
  ·
   have h1 := dF h1
   refine cx_skip ?_
   refine cx_keep rfl rfl ?_
   refine cx_seq ?_
   refine cx_ops ?_
   refine ax_q (q_fadr_ptr rfl) ?_
   refine ax_q (q_ldN rfl rfl rfl) ?_
   refine ax_e (e_st rfl rfl rfl rfl rfl rfl rfl) ?_
   refine ax_nil ?_
   refine cx_keep rfl rfl ?_
   refine cx_ret (ret0 rfl rfl ?_)
   exact ⟨by unfold colF; rw [if_neg h0, if_neg h1]; rfl, rfl⟩


/- loop.example/g00332/spec.l12Sort -/
def k_c_l12Sort : XCode :=
 .seq (.ops [.op (some 6) (.mov (.k (.nils 7)))])
 (.keep [0, 1, 2] (.seq (.ops [.op (some 11) (.bslice 7 []),
   .op (some 7) (.mov (.t 11))])
 (.keep [0, 1, 2, 7] (.seq (.seq (.ops [.op (some 8) (.mov (.k (.int .i64 0)))])
  (.keep [0, 1, 2, 7, 8] (.block 0 (.loop (.seq (.seq (.ops [.op (some 12) (.mov (.t 8)),
     .op (some 13) (.mov (.t 0)),
     .op (some 14) (.lenS (.t 13)),
     .op (some 15) (.bin .lss (.t 12) (.t 14))])
   (.keep [0, 1, 2, 7, 8, 15] (.cond (.t 15)
    (.skip)
    (.exit 0))))
   (.keep [0, 1, 2, 7, 8] (.seq (.block 1 (.seq (.ops [.op (some 18) (.mov (.t 7)),
     .op (some 19) (.lenS (.t 18)),
     .op (some 9) (.mov (.t 19))])
    (.keep [0, 1, 2, 7, 8, 9] (.seq (.block 2 (.loop (.seq (.seq (.ops [.op (some 20) (.mov (.t 9)),
       .op (some 21) (.bin .gtr (.t 20) (.k (.int .i64 0)))])
      (.keep [0, 1, 2, 7, 8, 9, 21] (.cond (.t 21)
      (.skip)
      (.exit 2))))
     (.keep [0, 1, 2, 7, 8, 9] (.block 3 (.seq (.drawE [[], [], [1], [0, 1, 2], [0, 1, 2, 3], [], [0, 1, 2, 3, 4, 5], [], [], [7, 8], [7, 8, 9], [], [0, 1, 2, 3, 4, 5, 6, 7, 8, 9, 10, 11], [0, 1, 2, 3, 4, 5, 6, 7, 8, 9, 10, 11, 12], [0, 1, 2, 3, 4, 5, 6, 7, 8, 9, 10, 11, 12, 13]] [.op (some 22) (.mov (.t 7)),
       .op (some 23) (.mov (.t 9)),
       .op (some 24) (.bin .sub (.t 23) (.k (.int .i64 1))),
       .op (some 25) (.iadr 7 (.t 22) (.t 24)),
       .op (some 26) (.loadN 7 (.t 25)),
       .op (some 27) (.mov (.t 1)),
       .call (some 28) 24 [.t 26, .t 27],
       .op (some 29) (.mov (.t 0)),
       .op (some 30) (.mov (.t 8)),
       .op (some 31) (.iadr 7 (.t 29) (.t 30)),
       .op (some 32) (.loadN 7 (.t 31)),
       .op (some 33) (.mov (.t 1))]
       [.call (some 34) 24 [.t 32, .t 33],
       .call (some 35) 23 [.t 28, .t 34],
       .op (some 10) (.mov (.t 35))])
      (.keep [0, 1, 2, 7, 8, 9, 10] (.seq (.seq (.ops [.op (some 36) (.mov (.t 10)),
        .op (some 37) (.bin .eql (.t 36) (.k (.int .i64 0)))])
      (.keep [0, 1, 2, 7, 8, 9, 10, 37] (.cond (.t 37)
       (.drawE [[], [], [1], [0, 1, 2], [0, 1, 2, 3], [0, 1, 2, 3, 4], [0, 1, 2, 3, 4, 5], [], [], [7, 8], [7, 8, 9], [7, 8, 9, 10], [0, 1, 2, 3, 4, 5, 6, 7, 8, 9, 10, 11], [0, 1, 2, 3, 4, 5, 6, 7, 8, 9, 10, 11, 12], [0, 1, 2, 3, 4, 5, 6, 7, 8, 9, 10, 11, 12, 13]] [.op (some 38) (.mov (.t 7)),
        .op (some 39) (.mov (.t 9)),
        .op (some 40) (.bin .sub (.t 39) (.k (.int .i64 1))),
        .op (some 41) (.iadr 7 (.t 38) (.t 40)),
        .op (some 42) (.fadr (.t 41) 0),
        .op (some 43) (.load1 (.t 42)),
        .call (some 44) 25 [.t 43],
        .op (some 45) (.mov (.t 0)),
        .op (some 46) (.mov (.t 8)),
        .op (some 47) (.iadr 7 (.t 45) (.t 46)),
        .op (some 48) (.fadr (.t 47) 0),
        .op (some 49) (.load1 (.t 48))]
        [.call (some 50) 25 [.t 49],
        .call (some 51) 23 [.t 44, .t 50],
        .op (some 10) (.mov (.t 51))])
       (.skip))))
      (.keep [0, 1, 2, 7, 8, 9, 10] (.seq (.seq (.ops [.op (some 52) (.mov (.t 2))])
      (.keep [0, 1, 2, 7, 8, 9, 10, 52] (.cond (.t 52)
       (.ops [.op (some 53) (.mov (.t 10)),
        .op (some 54) (.neg (.t 53)),
        .op (some 10) (.mov (.t 54))])
       (.skip))))
      (.keep [0, 1, 2, 7, 8, 9, 10] (.seq (.seq (.ops [.op (some 55) (.mov (.t 10)),
        .op (some 56) (.bin .leq (.t 55) (.k (.int .i64 0)))])
      (.keep [0, 1, 2, 7, 8, 9, 56] (.cond (.t 56)
       (.exit 2)
       (.skip))))
      (.keep [0, 1, 2, 7, 8, 9] (.ops [.op (some 57) (.mov (.t 9)),
       .op (some 58) (.bin .sub (.t 57) (.k (.int .i64 1))),
       .op (some 9) (.mov (.t 58))]))))))))))))))
    (.keep [0, 1, 2, 7, 8, 9] (.drawE [[], [], [], [1, 2], [0, 1, 2, 3], [], [], [5, 6], [5, 6, 7], [5, 6, 7, 8], [0, 1, 2, 3, 4, 5, 6, 7, 8, 9], [], [], [11, 12], [0, 1, 2, 3, 4, 5, 6, 7, 8, 9, 10, 11, 12, 13], [0, 1, 2, 3, 4, 5, 6, 7, 8, 9, 10, 11, 12, 13, 14]] [.op (some 59) (.bslice 7 []),
     .op (some 60) (.mov (.t 7)),
     .op (some 61) (.mov (.t 9)),
     .op (some 62) (.slc 7 (.t 60) none (some (.t 61)) none),
     .op (some 63) (.app 7 72 [.int .i64 0, .int .i64 0, .int .i64 0, .str [], .int .i64 0, .int .i64 0, .str []] (.t 59) (.t 62)),
     .op (some 64) (.mov (.t 0)),
     .op (some 65) (.mov (.t 8)),
     .op (some 66) (.iadr 7 (.t 64) (.t 65)),
     .op (some 67) (.loadN 7 (.t 66)),
     .op (some 68) (.bslice 7 [.t 67]),
     .op (some 69) (.app 7 72 [.int .i64 0, .int .i64 0, .int .i64 0, .str [], .int .i64 0, .int .i64 0, .str []] (.t 63) (.t 68)),
     .op (some 70) (.mov (.t 7)),
     .op (some 71) (.mov (.t 9)),
     .op (some 72) (.slc 7 (.t 70) (some (.t 71)) none none)]
    [.op (some 73) (.app 7 72 [.int .i64 0, .int .i64 0, .int .i64 0, .str [], .int .i64 0, .int .i64 0, .str []] (.t 69) (.t 72)),
     .op (some 7) (.mov (.t 73))]))))))
   (.keep [0, 1, 2, 7, 8] (.ops [.op (some 16) (.mov (.t 8)),
    .op (some 17) (.bin .add (.t 16) (.k (.int .i64 1))),
    .op (some 8) (.mov (.t 17))])))))))))
 (.keep [7] (.seq (.ops [.op (some 74) (.mov (.t 7)),
   .op (some 6) (.mov (.t 74))])
 (.keep [6] (.ret))))))))
theorem k_c_l12Sort_fits : fitsF Try.prog 14 ⟨75, k_c_l12Sort, [.t 6]⟩ = true := by kernel_rfl
set_option maxHeartbeats 2000000 in
theorem c_l12Sort {xs : List GRow} {k : Int} {down : Bool} (hl : xs.length ≤ 100) (hk : 0 ≤ k ∧ k ≤ 2) : Con Try.prog noMv 14 [.d (.sl 7 (xs.map GRow.row)), int k, bool down] [] (fun r h => r = .osl 0 7 0 ((sortS (ltD k down) xs)).length ∧ h = [(0, .rows 7 (((sortS (ltD k down) xs)).map GRow.row))]) := by
 refine con_of2 k_c_l12Sort_fits rfl fun C hP hmv => ?_
 unfold k_c_l12Sort
 refine cx_seq ?_
 refine cx_ops ?_
 refine ax_q (q_mov rfl) ?_
 refine ax_nil ?_
 refine cx_keep rfl rfl ?_
 refine cx_seq ?_
 refine cx_ops ?_
 refine ax_e (e_bslice rfl (by decide) rfl rfl) ?_
 refine ax_q (q_mov rfl) ?_
 refine ax_nil ?_
 refine cx_keep rfl rfl ?_
 refine cx_seq ?_
 refine cx_seq ?_
 refine cx_ops ?_
 refine ax_q (q_mov rfl) ?_
 refine ax_nil ?_
 refine cx_keep rfl rfl ?_
 refine cx_block ?_
 refine cx_loopU (fun n i => i ≤ xs.length ∧ n = xs.length - i) (fun i : Nat => [(7, .osl 11 7 0 (sortS (ltD k down) (xs.take i)).length), (8, int i)]) (fun i => [(11, .rows 7 ((sortS (ltD k down) (xs.take i)).map GRow.row))]) ⟨_, 0, ⟨Nat.zero_le _, rfl⟩, by repeat (first | exact trivial | refine ⟨rfl, ?_⟩ | refine ⟨?_, ?_⟩)⟩ ?_
 rintro n i ⟨hi, rfl⟩
 have hS : (sortS (ltD k down) (xs.take i)).length = i := by rw [sortS_len, List.length_take]; omega
 refine cx_seq ?_
 refine cx_seq ?_
 refine cx_ops ?_
 refine ax_q (q_mov rfl) ?_
 refine ax_q (q_mov rfl) ?_
 refine ax_q (q_lenS_map rfl) ?_
 refine ax_q (q_ibin rfl rfl rfl) ?_
 refine ax_nil ?_
 refine cx_keep rfl rfl ?_
 refine cx_cond rfl (fun h0 => ?_) (fun h0 => ?_)
 ·
  have h0 := dT h0
  have h0x : i < xs.length := by omega
  refine cx_skip ?_
  refine cx_keep rfl rfl ?_
  refine cx_seq ?_
  refine cx_block ?_
  refine cx_seq ?_
  refine cx_ops ?_
  refine ax_q (q_mov rfl) ?_
  first | refine ax_q (q_lenS_map rfl) ?_ | refine ax_q (q_lenS_osl rfl) ?_
  refine ax_q (q_mov rfl) ?_
  refine ax_nil ?_
  refine cx_keep rfl rfl ?_
  refine cx_seq ?_
  refine cx_block ?_
  refine cx_loopU (fun n j => j ≤ i ∧ j = n ∧ posI (ltD k down) xs[i] (sortS (ltD k down) (xs.take i)) i = posI (ltD k down) xs[i] (sortS (ltD k down) (xs.take i)) j) (fun j : Nat => [(9, int j)]) (fun _ => [(11, .rows 7 ((sortS (ltD k down) (xs.take i)).map GRow.row))]) ⟨_, i, ⟨Nat.le_refl _, rfl, rfl⟩, by rw [hS]; exact (by repeat (first | exact trivial | refine ⟨rfl, ?_⟩ | refine ⟨?_, ?_⟩))⟩ ?_
  rintro n j ⟨hj, rfl, hp⟩
  refine cx_seq ?_
  refine cx_seq ?_
  refine cx_ops ?_
  refine ax_q (q_mov rfl) ?_
  refine ax_q (q_ibin rfl rfl rfl) ?_
  refine ax_nil ?_
  refine cx_keep rfl rfl ?_
  refine cx_cond rfl (fun h1 => ?_) (fun h1 => ?_)
  ·
   have h1 := dT h1
   obtain ⟨j, rfl⟩ : ∃ j2, j = j2 + 1 := ⟨j - 1, by omega⟩
   refine cx_skip ?_
   refine cx_keep rfl rfl ?_
   refine cx_block ?_
   refine cx_seq ?_
   refine cx_drawL 0 22 (fun _ => false) (fun _ => true) [] ([]) [[7], [9], [23], [22, 24], [25], [1], [26, 27], [0], [8], [29, 30], [31], [1]] [[], [], [], [], [], [], [], [], [], [], [], []] rfl ?_
   first | refine ⟨⟨22, _, []⟩, .inl ⟨rfl, rfl, rfl, locl_of (loc_q (q_mov rfl))⟩, ?_⟩
   first | refine ⟨_, .inr ⟨rfl, _, rfl, .inr ⟨rfl, rfl, .inr rfl, rfl, rfl⟩, loc_q (q_mov rfl)⟩, ?_⟩
   first | refine ⟨_, .inr ⟨rfl, _, rfl, .inr ⟨rfl, rfl, .inr rfl, rfl, rfl⟩, loc_qe (r' := int (j : Nat)) (q_ibin rfl rfl rfl) (by rw [wi (by omega) (by omega)]; exact congrArg AM.int (by omega))⟩, ?_⟩
   first | refine ⟨_, .inr ⟨rfl, _, rfl, .inr ⟨rfl, rfl, .inl rfl, rfl, rfl⟩, loc_q (q_ixo rfl rfl (by omega))⟩, ?_⟩
   first | refine ⟨_, .inr ⟨rfl, _, rfl, .inr ⟨rfl, rfl, .inl rfl, rfl, rfl⟩, loc_q (q_loadN_rptr (r := GRow.row ((sortS (ltD k down) (xs.take i))[j]'(by omega))) rfl rfl (mapAt (by omega)) (by decide))⟩, ?_⟩
   first | refine ⟨_, .inr ⟨rfl, _, rfl, .inr ⟨rfl, rfl, .inr rfl, rfl, rfl⟩, loc_q (q_mov rfl)⟩, ?_⟩
   refine ⟨_, .inr ⟨rfl, _, rfl, .inr ⟨rfl, rfl, .inl rfl, rfl, rfl⟩, loc_call (fun i => 28 + 200 * i) false rfl (c_sColumn (w := (sortS (ltD k down) (xs.take i))[j]'(by omega)) (k := k) ) hP (.inr ⟨rfl, rfl, rfl⟩) rfl rfl (fun h => by cases h)⟩, ?_⟩
   first | refine ⟨_, .inr ⟨rfl, _, rfl, .inr ⟨rfl, rfl, .inr rfl, rfl, rfl⟩, loc_q (q_mov rfl)⟩, ?_⟩
   first | refine ⟨_, .inr ⟨rfl, _, rfl, .inr ⟨rfl, rfl, .inr rfl, rfl, rfl⟩, loc_q (q_mov rfl)⟩, ?_⟩
   first | refine ⟨_, .inr ⟨rfl, _, rfl, .inr ⟨rfl, rfl, .inr rfl, rfl, rfl⟩, loc_q (q_ix rfl rfl (mapAt h0x))⟩, ?_⟩
   first | refine ⟨_, .inr ⟨rfl, _, rfl, .inr ⟨rfl, rfl, .inr rfl, rfl, rfl⟩, loc_q (q_ldN rfl rfl rfl)⟩, ?_⟩ | refine ⟨_, .inr ⟨rfl, _, rfl, .inr ⟨rfl, rfl, .inr rfl, rfl, rfl⟩, loc_q (q_loadN_ip rfl (Nat.le_refl _))⟩, ?_⟩
   first | refine ⟨_, .inr ⟨rfl, _, rfl, .inr ⟨rfl, rfl, .inr rfl, rfl, rfl⟩, loc_q (q_mov rfl)⟩, ?_⟩
   refine ⟨rfl, ?_⟩
   refine ax_call rfl (vc_pure0 (c_sColumn (w := xs[i]) (k := k) ) hP rfl rfl ?_)
   refine ax_call rfl (vc_pure0 (c_l01Compare (a := colF ((sortS (ltD k down) (xs.take i))[j]'(by omega)) k) (b := colF xs[i] k) ) hP rfl rfl ?_)
   refine ax_q (q_mov rfl) ?_
   refine ax_nil ?_
   refine cx_keep rfl rfl ?_
   refine cx_seq ?_
   refine cx_seq ?_
   refine cx_ops ?_
   refine ax_q (q_mov rfl) ?_
   refine ax_q (q_ibin rfl rfl rfl) ?_
   refine ax_nil ?_
   refine cx_keep rfl rfl ?_
   refine cx_cond rfl (fun h2 => ?_) (fun h2 => ?_)
   ·
    have h2 := dT h2
    skip
    refine cx_drawL 0 38 (fun _ => false) (fun _ => true) [] ([]) [[7], [9], [39], [38, 40], [41], [42], [43], [0], [8], [45, 46], [47], [48]] [[], [], [], [], [], [], [], [], [], [], [], []] rfl ?_
    first | refine ⟨⟨38, _, []⟩, .inl ⟨rfl, rfl, rfl, locl_of (loc_q (q_mov rfl))⟩, ?_⟩
    first | refine ⟨_, .inr ⟨rfl, _, rfl, .inr ⟨rfl, rfl, .inr rfl, rfl, rfl⟩, loc_q (q_mov rfl)⟩, ?_⟩
    first | refine ⟨_, .inr ⟨rfl, _, rfl, .inr ⟨rfl, rfl, .inr rfl, rfl, rfl⟩, loc_qe (r' := int (j : Nat)) (q_ibin rfl rfl rfl) (by rw [wi (by omega) (by omega)]; exact congrArg AM.int (by omega))⟩, ?_⟩
    first | refine ⟨_, .inr ⟨rfl, _, rfl, .inr ⟨rfl, rfl, .inl rfl, rfl, rfl⟩, loc_q (q_ixo rfl rfl (by omega))⟩, ?_⟩
    first | refine ⟨_, .inr ⟨rfl, _, rfl, .inr ⟨rfl, rfl, .inl rfl, rfl, rfl⟩, loc_q (q_fadr_ptr rfl)⟩, ?_⟩ | refine ⟨_, .inr ⟨rfl, _, rfl, .inr ⟨rfl, rfl, .inl rfl, rfl, rfl⟩, loc_q (q_fadr_rptr rfl)⟩, ?_⟩
    first | refine ⟨_, .inr ⟨rfl, _, rfl, .inr ⟨rfl, rfl, .inl rfl, rfl, rfl⟩, loc_q (q_load1_rptr rfl rfl (mapAt (by omega)) rfl)⟩, ?_⟩
    refine ⟨_, .inr ⟨rfl, _, rfl, .inr ⟨rfl, rfl, .inl rfl, rfl, rfl⟩, loc_call (fun i => 44 + 200 * i) false rfl (c_sInt (n := ((sortS (ltD k down) (xs.take i))[j]'(by omega)).Id) ) hP (.inr ⟨rfl, rfl, rfl⟩) rfl rfl (fun h => by cases h)⟩, ?_⟩
    first | refine ⟨_, .inr ⟨rfl, _, rfl, .inr ⟨rfl, rfl, .inr rfl, rfl, rfl⟩, loc_q (q_mov rfl)⟩, ?_⟩
    first | refine ⟨_, .inr ⟨rfl, _, rfl, .inr ⟨rfl, rfl, .inr rfl, rfl, rfl⟩, loc_q (q_mov rfl)⟩, ?_⟩
    first | refine ⟨_, .inr ⟨rfl, _, rfl, .inr ⟨rfl, rfl, .inr rfl, rfl, rfl⟩, loc_q (q_ix rfl rfl (mapAt h0x))⟩, ?_⟩
    first | refine ⟨_, .inr ⟨rfl, _, rfl, .inr ⟨rfl, rfl, .inr rfl, rfl, rfl⟩, loc_q (q_fadr_ptr rfl)⟩, ?_⟩ | refine ⟨_, .inr ⟨rfl, _, rfl, .inr ⟨rfl, rfl, .inr rfl, rfl, rfl⟩, loc_q (q_fadr_rptr rfl)⟩, ?_⟩ | refine ⟨_, .inr ⟨rfl, _, rfl, .inr ⟨rfl, rfl, .inr rfl, rfl, rfl⟩, loc_q (q_fadr_ip rfl)⟩, ?_⟩
    first | refine ⟨_, .inr ⟨rfl, _, rfl, .inr ⟨rfl, rfl, .inr rfl, rfl, rfl⟩, loc_q (q_load1_ptr rfl rfl rfl)⟩, ?_⟩ | refine ⟨_, .inr ⟨rfl, _, rfl, .inr ⟨rfl, rfl, .inr rfl, rfl, rfl⟩, loc_q (q_load1_ip rfl)⟩, ?_⟩
    refine ⟨rfl, ?_⟩
    refine ax_call rfl (vc_pure0 (c_sInt (n := xs[i].Id) ) hP rfl rfl ?_)
    refine ax_call rfl (vc_pure0 (c_l01Compare (a := vI ((sortS (ltD k down) (xs.take i))[j]'(by omega)).Id) (b := vI xs[i].Id) ) hP rfl rfl ?_)
    refine ax_q (q_mov rfl) ?_
    refine ax_nil ?_
    refine cx_keep rfl rfl ?_
    refine cx_seq ?_
    refine cx_seq ?_
    refine cx_ops ?_
    refine ax_q (q_mov rfl) ?_
    refine ax_nil ?_
    refine cx_keep rfl rfl ?_
    refine cx_cond rfl (fun h3 => ?_) (fun h3 => ?_)
    ·
     skip
     refine cx_ops ?_
     refine ax_q (q_mov rfl) ?_
     have hb1 := @cmpV_le1 (vI ((sortS (ltD k down) (xs.take i))[j]'(by omega)).Id) (vI xs[i].Id)
     have hb2 := @cmpV_le1 (colF ((sortS (ltD k down) (xs.take i))[j]'(by omega)) k) (colF xs[i] k)
     refine ax_q (q_negI rfl (by omega)) ?_
     refine ax_q (q_mov rfl) ?_
     refine ax_nil ?_
     refine cx_keep rfl rfl ?_
     refine cx_seq ?_
     refine cx_seq ?_
     refine cx_ops ?_
     refine ax_q (q_mov rfl) ?_
     refine ax_q (q_ibin rfl rfl rfl) ?_
     refine ax_nil ?_
     refine cx_keep rfl rfl ?_
     refine cx_cond rfl (fun h4 => ?_) (fun h4 => ?_)
     ·
      have h4 := dT h4
      have ej : posI (ltD k down) xs[i] (sortS (ltD k down) (xs.take i)) i = j + 1 := by rw [hp]; exact posI_f (by omega) (by rw [ltD_1 h2 h3]; exact decide_eq_false (by omega))
      generalize hpj : j + 1 = p at ej ⊢
      have hpl : p ≤ i := by rw [← ej]; exact posI_le
      have hso : sortS (ltD k down) (xs.take (i + 1)) = insA (sortS (ltD k down) (xs.take i)) p xs[i] := by rw [sortS_take h0x]; unfold insS insA; rw [hS, ej]
      refine cx_exit rfl ?_
      refine cx_keep rfl rfl ?_
      refine cx_drawL 10 69 (Nat.beq 63) (nrA 63) [] ([(63, .rows 7 (((sortS (ltD k down) (xs.take i)).take p ++ [xs[i]]).map GRow.row))]) [[], [7], [9], [60, 61], [59, 62], [0], [8], [64, 65], [66], [67], [63, 68], [7], [9], [70, 71]] [[], [], [], [], [], [], [], [], [], [], [63], [63], [63], [63]] rfl ?_
      first | refine ⟨_, .inr ⟨rfl, _, rfl, .inl rfl, loc_bsliceZ⟩, ?_⟩
      first | refine ⟨_, .inr ⟨rfl, _, rfl, .inl rfl, loc_q (q_mov rfl)⟩, ?_⟩
      first | refine ⟨_, .inr ⟨rfl, _, rfl, .inl rfl, loc_q (q_mov rfl)⟩, ?_⟩
      first | refine ⟨_, .inr ⟨rfl, _, rfl, .inl rfl, loc_qe (r' := .osl 11 7 0 p) (q_slc_osl rfl rfl rfl (by omega) (by omega) (by omega)) (oslE0 (by omega) (by omega))⟩, ?_⟩
      first | refine ⟨_, .inr ⟨rfl, _, rfl, .inl rfl, loc_appZ (n := p) (rs := ((sortS (ltD k down) (xs.take i)).take p).map GRow.row) rfl rfl (fun _ _ h => src_osl (h _ _ rfl) (by simp; omega)) (bnd0 (by simp; omega) (by decide)) (by simp; omega) (by simp [List.map_take])⟩, ?_⟩
      first | refine ⟨_, .inr ⟨rfl, _, rfl, .inl rfl, loc_q (q_mov rfl)⟩, ?_⟩
      first | refine ⟨_, .inr ⟨rfl, _, rfl, .inl rfl, loc_q (q_mov rfl)⟩, ?_⟩
      first | refine ⟨_, .inr ⟨rfl, _, rfl, .inl rfl, loc_q (q_ix rfl rfl (mapAt h0x))⟩, ?_⟩
      first | refine ⟨_, .inr ⟨rfl, _, rfl, .inl rfl, loc_q (q_ldN rfl rfl rfl)⟩, ?_⟩ | refine ⟨_, .inr ⟨rfl, _, rfl, .inl rfl, loc_q (q_loadN_ip rfl (Nat.le_refl _))⟩, ?_⟩
      first | refine ⟨_, .inr ⟨rfl, _, rfl, .inl rfl, loc_bslice rfl⟩, ?_⟩
      refine ⟨⟨69, _, []⟩, .inl ⟨rfl, rfl, rfl, locl_app (n' := p + 1) (rs' := ((sortS (ltD k down) (xs.take i)).take p ++ [xs[i]]).map GRow.row) rfl rfl (by simp; omega) rfl (fun _ _ h => src_osl (h _ _ rfl) (by simp)) (.inl (by decide)) (hbnd (by omega) (by simp) (by decide)) (by simp) (app1p (by simp; omega))⟩, ?_⟩
      first | refine ⟨_, .inr ⟨rfl, _, rfl, .inr ⟨rfl, rfl, .inr rfl, rfl, rfl⟩, loc_q (q_mov rfl)⟩, ?_⟩
      first | refine ⟨_, .inr ⟨rfl, _, rfl, .inr ⟨rfl, rfl, .inr rfl, rfl, rfl⟩, loc_q (q_mov rfl)⟩, ?_⟩
      first | refine ⟨_, .inr ⟨rfl, _, rfl, .inr ⟨rfl, rfl, .inr rfl, rfl, rfl⟩, loc_qe (r' := .osl 11 7 p (i - p)) (q_slc_osl rfl rfl rfl (by omega) (by omega) (by omega)) (oslE (by omega) (by omega))⟩, ?_⟩
      refine ⟨rfl, ?_⟩
      refine ax_e (e_appn (n' := (insA (sortS (ltD k down) (xs.take i)) p xs[i]).length) (rs' := (insA (sortS (ltD k down) (xs.take i)) p xs[i]).map GRow.row) rfl rfl (by simp; omega) rfl (src_osl rfl (by simp; omega)) (.inl (by decide)) (hbnd (by omega) (by simp; omega) (by decide)) (by rw [insA_len (by omega)]; simp; omega) (insA_app (by omega))) ?_
      refine ax_q (q_mov rfl) ?_
      refine ax_nil ?_
      refine cx_keep rfl rfl ?_
      refine cx_ops ?_
      refine ax_q (q_mov rfl) ?_
      refine ax_wk (wk_swap 63 11 rfl rfl) ?_
      refine ax_qe (r' := int ((i + 1 : Nat) : Int)) (q_ibin rfl rfl rfl) (by rw [wi (by omega) (by omega)]; rfl) ?_
      refine ax_q (q_mov rfl) ?_
      refine ax_nil ?_
      exact ⟨_, i + 1, by omega, ⟨by omega, rfl⟩, by rw [hso]; exact (by repeat (first | exact trivial | refine ⟨rfl, ?_⟩ | refine ⟨?_, ?_⟩))⟩
     ·
      have h4 := dF h4
      refine cx_skip ?_
      refine cx_keep rfl rfl ?_
      refine cx_ops ?_
      refine ax_q (q_mov rfl) ?_
      refine ax_qe (r' := int (j : Nat)) (q_ibin rfl rfl rfl) (by rw [wi (by omega) (by omega)]; exact congrArg AM.int (by omega)) ?_
      refine ax_q (q_mov rfl) ?_
      refine ax_nil ?_
      exact ⟨_, j, by omega, ⟨by omega, rfl, by rw [hp]; exact posI_t (by omega) (by rw [ltD_1 h2 h3]; exact decide_eq_true (by omega))⟩, by repeat (first | exact trivial | refine ⟨rfl, ?_⟩ | refine ⟨?_, ?_⟩)⟩
    ·
     skip
     refine cx_skip ?_
     refine cx_keep rfl rfl ?_
     refine cx_seq ?_
     refine cx_seq ?_
     refine cx_ops ?_
     refine ax_q (q_mov rfl) ?_
     refine ax_q (q_ibin rfl rfl rfl) ?_
     refine ax_nil ?_
     refine cx_keep rfl rfl ?_
     refine cx_cond rfl (fun h4 => ?_) (fun h4 => ?_)
     ·
      have h4 := dT h4
      have ej : posI (ltD k down) xs[i] (sortS (ltD k down) (xs.take i)) i = j + 1 := by rw [hp]; exact posI_f (by omega) (by rw [ltD_2 h2 h3]; exact decide_eq_false (by omega))
      generalize hpj : j + 1 = p at ej ⊢
      have hpl : p ≤ i := by rw [← ej]; exact posI_le
      have hso : sortS (ltD k down) (xs.take (i + 1)) = insA (sortS (ltD k down) (xs.take i)) p xs[i] := by rw [sortS_take h0x]; unfold insS insA; rw [hS, ej]
      refine cx_exit rfl ?_
      refine cx_keep rfl rfl ?_
      refine cx_drawL 10 69 (Nat.beq 63) (nrA 63) [] ([(63, .rows 7 (((sortS (ltD k down) (xs.take i)).take p ++ [xs[i]]).map GRow.row))]) [[], [7], [9], [60, 61], [59, 62], [0], [8], [64, 65], [66], [67], [63, 68], [7], [9], [70, 71]] [[], [], [], [], [], [], [], [], [], [], [63], [63], [63], [63]] rfl ?_
      first | refine ⟨_, .inr ⟨rfl, _, rfl, .inl rfl, loc_bsliceZ⟩, ?_⟩
      first | refine ⟨_, .inr ⟨rfl, _, rfl, .inl rfl, loc_q (q_mov rfl)⟩, ?_⟩
      first | refine ⟨_, .inr ⟨rfl, _, rfl, .inl rfl, loc_q (q_mov rfl)⟩, ?_⟩
      first | refine ⟨_, .inr ⟨rfl, _, rfl, .inl rfl, loc_qe (r' := .osl 11 7 0 p) (q_slc_osl rfl rfl rfl (by omega) (by omega) (by omega)) (oslE0 (by omega) (by omega))⟩, ?_⟩
      first | refine ⟨_, .inr ⟨rfl, _, rfl, .inl rfl, loc_appZ (n := p) (rs := ((sortS (ltD k down) (xs.take i)).take p).map GRow.row) rfl rfl (fun _ _ h => src_osl (h _ _ rfl) (by simp; omega)) (bnd0 (by simp; omega) (by decide)) (by simp; omega) (by simp [List.map_take])⟩, ?_⟩
      first | refine ⟨_, .inr ⟨rfl, _, rfl, .inl rfl, loc_q (q_mov rfl)⟩, ?_⟩
      first | refine ⟨_, .inr ⟨rfl, _, rfl, .inl rfl, loc_q (q_mov rfl)⟩, ?_⟩
      first | refine ⟨_, .inr ⟨rfl, _, rfl, .inl rfl, loc_q (q_ix rfl rfl (mapAt h0x))⟩, ?_⟩
      first | refine ⟨_, .inr ⟨rfl, _, rfl, .inl rfl, loc_q (q_ldN rfl rfl rfl)⟩, ?_⟩ | refine ⟨_, .inr ⟨rfl, _, rfl, .inl rfl, loc_q (q_loadN_ip rfl (Nat.le_refl _))⟩, ?_⟩
      first | refine ⟨_, .inr ⟨rfl, _, rfl, .inl rfl, loc_bslice rfl⟩, ?_⟩
      refine ⟨⟨69, _, []⟩, .inl ⟨rfl, rfl, rfl, locl_app (n' := p + 1) (rs' := ((sortS (ltD k down) (xs.take i)).take p ++ [xs[i]]).map GRow.row) rfl rfl (by simp; omega) rfl (fun _ _ h => src_osl (h _ _ rfl) (by simp)) (.inl (by decide)) (hbnd (by omega) (by simp) (by decide)) (by simp) (app1p (by simp; omega))⟩, ?_⟩
      first | refine ⟨_, .inr ⟨rfl, _, rfl, .inr ⟨rfl, rfl, .inr rfl, rfl, rfl⟩, loc_q (q_mov rfl)⟩, ?_⟩
      first | refine ⟨_, .inr ⟨rfl, _, rfl, .inr ⟨rfl, rfl, .inr rfl, rfl, rfl⟩, loc_q (q_mov rfl)⟩, ?_⟩
      first | refine ⟨_, .inr ⟨rfl, _, rfl, .inr ⟨rfl, rfl, .inr rfl, rfl, rfl⟩, loc_qe (r' := .osl 11 7 p (i - p)) (q_slc_osl rfl rfl rfl (by omega) (by omega) (by omega)) (oslE (by omega) (by omega))⟩, ?_⟩
      refine ⟨rfl, ?_⟩
      refine ax_e (e_appn (n' := (insA (sortS (ltD k down) (xs.take i)) p xs[i]).length) (rs' := (insA (sortS (ltD k down) (xs.take i)) p xs[i]).map GRow.row) rfl rfl (by simp; omega) rfl (src_osl rfl (by simp; omega)) (.inl (by decide)) (hbnd (by omega) (by simp; omega) (by decide)) (by rw [insA_len (by omega)]; simp; omega) (insA_app (by omega))) ?_
      refine ax_q (q_mov rfl) ?_
      refine ax_nil ?_
      refine cx_keep rfl rfl ?_
      refine cx_ops ?_
      refine ax_q (q_mov rfl) ?_
      refine ax_wk (wk_swap 63 11 rfl rfl) ?_
      refine ax_qe (r' := int ((i + 1 : Nat) : Int)) (q_ibin rfl rfl rfl) (by rw [wi (by omega) (by omega)]; rfl) ?_
      refine ax_q (q_mov rfl) ?_
      refine ax_nil ?_
      exact ⟨_, i + 1, by omega, ⟨by omega, rfl⟩, by rw [hso]; exact (by repeat (first | exact trivial | refine ⟨rfl, ?_⟩ | refine ⟨?_, ?_⟩))⟩
     ·
      have h4 := dF h4
      refine cx_skip ?_
      refine cx_keep rfl rfl ?_
      refine cx_ops ?_
      refine ax_q (q_mov rfl) ?_
      refine ax_qe (r' := int (j : Nat)) (q_ibin rfl rfl rfl) (by rw [wi (by omega) (by omega)]; exact congrArg AM.int (by omega)) ?_
      refine ax_q (q_mov rfl) ?_
      refine ax_nil ?_
      exact ⟨_, j, by omega, ⟨by omega, rfl, by rw [hp]; exact posI_t (by omega) (by rw [ltD_2 h2 h3]; exact decide_eq_true (by omega))⟩, by repeat (first | exact trivial | refine ⟨rfl, ?_⟩ | refine ⟨?_, ?_⟩)⟩
   ·
    have h2 := dF h2
    refine cx_skip ?_
    refine cx_keep rfl rfl ?_
    refine cx_seq ?_
    refine cx_seq ?_
    refine cx_ops ?_
    refine ax_q (q_mov rfl) ?_
    refine ax_nil ?_
    refine cx_keep rfl rfl ?_
    refine cx_cond rfl (fun h3 => ?_) (fun h3 => ?_)
    ·
     skip
     refine cx_ops ?_
     refine ax_q (q_mov rfl) ?_
     have hb1 := @cmpV_le1 (vI ((sortS (ltD k down) (xs.take i))[j]'(by omega)).Id) (vI xs[i].Id)
     have hb2 := @cmpV_le1 (colF ((sortS (ltD k down) (xs.take i))[j]'(by omega)) k) (colF xs[i] k)
     refine ax_q (q_negI rfl (by omega)) ?_
     refine ax_q (q_mov rfl) ?_
     refine ax_nil ?_
     refine cx_keep rfl rfl ?_
     refine cx_seq ?_
     refine cx_seq ?_
     refine cx_ops ?_
     refine ax_q (q_mov rfl) ?_
     refine ax_q (q_ibin rfl rfl rfl) ?_
     refine ax_nil ?_
     refine cx_keep rfl rfl ?_
     refine cx_cond rfl (fun h4 => ?_) (fun h4 => ?_)
     ·
      have h4 := dT h4
      have ej : posI (ltD k down) xs[i] (sortS (ltD k down) (xs.take i)) i = j + 1 := by rw [hp]; exact posI_f (by omega) (by rw [ltD_3 h2 h3]; exact decide_eq_false (by omega))
      generalize hpj : j + 1 = p at ej ⊢
      have hpl : p ≤ i := by rw [← ej]; exact posI_le
      have hso : sortS (ltD k down) (xs.take (i + 1)) = insA (sortS (ltD k down) (xs.take i)) p xs[i] := by rw [sortS_take h0x]; unfold insS insA; rw [hS, ej]
      refine cx_exit rfl ?_
      refine cx_keep rfl rfl ?_
      refine cx_drawL 10 69 (Nat.beq 63) (nrA 63) [] ([(63, .rows 7 (((sortS (ltD k down) (xs.take i)).take p ++ [xs[i]]).map GRow.row))]) [[], [7], [9], [60, 61], [59, 62], [0], [8], [64, 65], [66], [67], [63, 68], [7], [9], [70, 71]] [[], [], [], [], [], [], [], [], [], [], [63], [63], [63], [63]] rfl ?_
      first | refine ⟨_, .inr ⟨rfl, _, rfl, .inl rfl, loc_bsliceZ⟩, ?_⟩
      first | refine ⟨_, .inr ⟨rfl, _, rfl, .inl rfl, loc_q (q_mov rfl)⟩, ?_⟩
      first | refine ⟨_, .inr ⟨rfl, _, rfl, .inl rfl, loc_q (q_mov rfl)⟩, ?_⟩
      first | refine ⟨_, .inr ⟨rfl, _, rfl, .inl rfl, loc_qe (r' := .osl 11 7 0 p) (q_slc_osl rfl rfl rfl (by omega) (by omega) (by omega)) (oslE0 (by omega) (by omega))⟩, ?_⟩
      first | refine ⟨_, .inr ⟨rfl, _, rfl, .inl rfl, loc_appZ (n := p) (rs := ((sortS (ltD k down) (xs.take i)).take p).map GRow.row) rfl rfl (fun _ _ h => src_osl (h _ _ rfl) (by simp; omega)) (bnd0 (by simp; omega) (by decide)) (by simp; omega) (by simp [List.map_take])⟩, ?_⟩
      first | refine ⟨_, .inr ⟨rfl, _, rfl, .inl rfl, loc_q (q_mov rfl)⟩, ?_⟩
      first | refine ⟨_, .inr ⟨rfl, _, rfl, .inl rfl, loc_q (q_mov rfl)⟩, ?_⟩
      first | refine ⟨_, .inr ⟨rfl, _, rfl, .inl rfl, loc_q (q_ix rfl rfl (mapAt h0x))⟩, ?_⟩
      first | refine ⟨_, .inr ⟨rfl, _, rfl, .inl rfl, loc_q (q_ldN rfl rfl rfl)⟩, ?_⟩ | refine ⟨_, .inr ⟨rfl, _, rfl, .inl rfl, loc_q (q_loadN_ip rfl (Nat.le_refl _))⟩, ?_⟩
      first | refine ⟨_, .inr ⟨rfl, _, rfl, .inl rfl, loc_bslice rfl⟩, ?_⟩
      refine ⟨⟨69, _, []⟩, .inl ⟨rfl, rfl, rfl, locl_app (n' := p + 1) (rs' := ((sortS (ltD k down) (xs.take i)).take p ++ [xs[i]]).map GRow.row) rfl rfl (by simp; omega) rfl (fun _ _ h => src_osl (h _ _ rfl) (by simp)) (.inl (by decide)) (hbnd (by omega) (by simp) (by decide)) (by simp) (app1p (by simp; omega))⟩, ?_⟩
      first | refine ⟨_, .inr ⟨rfl, _, rfl, .inr ⟨rfl, rfl, .inr rfl, rfl, rfl⟩, loc_q (q_mov rfl)⟩, ?_⟩
      first | refine ⟨_, .inr ⟨rfl, _, rfl, .inr ⟨rfl, rfl, .inr rfl, rfl, rfl⟩, loc_q (q_mov rfl)⟩, ?_⟩
      first | refine ⟨_, .inr ⟨rfl, _, rfl, .inr ⟨rfl, rfl, .inr rfl, rfl, rfl⟩, loc_qe (r' := .osl 11 7 p (i - p)) (q_slc_osl rfl rfl rfl (by omega) (by omega) (by omega)) (oslE (by omega) (by omega))⟩, ?_⟩
      refine ⟨rfl, ?_⟩
      refine ax_e (e_appn (n' := (insA (sortS (ltD k down) (xs.take i)) p xs[i]).length) (rs' := (insA (sortS (ltD k down) (xs.take i)) p xs[i]).map GRow.row) rfl rfl (by simp; omega) rfl (src_osl rfl (by simp; omega)) (.inl (by decide)) (hbnd (by omega) (by simp; omega) (by decide)) (by rw [insA_len (by omega)]; simp; omega) (insA_app (by omega))) ?_
      refine ax_q (q_mov rfl) ?_
      refine ax_nil ?_
      refine cx_keep rfl rfl ?_
      refine cx_ops ?_
      refine ax_q (q_mov rfl) ?_
      refine ax_wk (wk_swap 63 11 rfl rfl) ?_
      refine ax_qe (r' := int ((i + 1 : Nat) : Int)) (q_ibin rfl rfl rfl) (by rw [wi (by omega) (by omega)]; rfl) ?_
      refine ax_q (q_mov rfl) ?_
      refine ax_nil ?_
      exact ⟨_, i + 1, by omega, ⟨by omega, rfl⟩, by rw [hso]; exact (by repeat (first | exact trivial | refine ⟨rfl, ?_⟩ | refine ⟨?_, ?_⟩))⟩
     ·
      have h4 := dF h4
      refine cx_skip ?_
      refine cx_keep rfl rfl ?_
      refine cx_ops ?_
      refine ax_q (q_mov rfl) ?_
      refine ax_qe (r' := int (j : Nat)) (q_ibin rfl rfl rfl) (by rw [wi (by omega) (by omega)]; exact congrArg AM.int (by omega)) ?_
      refine ax_q (q_mov rfl) ?_
      refine ax_nil ?_
      exact ⟨_, j, by omega, ⟨by omega, rfl, by rw [hp]; exact posI_t (by omega) (by rw [ltD_3 h2 h3]; exact decide_eq_true (by omega))⟩, by repeat (first | exact trivial | refine ⟨rfl, ?_⟩ | refine ⟨?_, ?_⟩)⟩
    ·
     skip
     refine cx_skip ?_
     refine cx_keep rfl rfl ?_
     refine cx_seq ?_
     refine cx_seq ?_
     refine cx_ops ?_
     refine ax_q (q_mov rfl) ?_
     refine ax_q (q_ibin rfl rfl rfl) ?_
     refine ax_nil ?_
     refine cx_keep rfl rfl ?_
     refine cx_cond rfl (fun h4 => ?_) (fun h4 => ?_)
     ·
      have h4 := dT h4
      have ej : posI (ltD k down) xs[i] (sortS (ltD k down) (xs.take i)) i = j + 1 := by rw [hp]; exact posI_f (by omega) (by rw [ltD_4 h2 h3]; exact decide_eq_false (by omega))
      generalize hpj : j + 1 = p at ej ⊢
      have hpl : p ≤ i := by rw [← ej]; exact posI_le
      have hso : sortS (ltD k down) (xs.take (i + 1)) = insA (sortS (ltD k down) (xs.take i)) p xs[i] := by rw [sortS_take h0x]; unfold insS insA; rw [hS, ej]
      refine cx_exit rfl ?_
      refine cx_keep rfl rfl ?_
      refine cx_drawL 10 69 (Nat.beq 63) (nrA 63) [] ([(63, .rows 7 (((sortS (ltD k down) (xs.take i)).take p ++ [xs[i]]).map GRow.row))]) [[], [7], [9], [60, 61], [59, 62], [0], [8], [64, 65], [66], [67], [63, 68], [7], [9], [70, 71]] [[], [], [], [], [], [], [], [], [], [], [63], [63], [63], [63]] rfl ?_
      first | refine ⟨_, .inr ⟨rfl, _, rfl, .inl rfl, loc_bsliceZ⟩, ?_⟩
      first | refine ⟨_, .inr ⟨rfl, _, rfl, .inl rfl, loc_q (q_mov rfl)⟩, ?_⟩
      first | refine ⟨_, .inr ⟨rfl, _, rfl, .inl rfl, loc_q (q_mov rfl)⟩, ?_⟩
      first | refine ⟨_, .inr ⟨rfl, _, rfl, .inl rfl, loc_qe (r' := .osl 11 7 0 p) (q_slc_osl rfl rfl rfl (by omega) (by omega) (by omega)) (oslE0 (by omega) (by omega))⟩, ?_⟩
      first | refine ⟨_, .inr ⟨rfl, _, rfl, .inl rfl, loc_appZ (n := p) (rs := ((sortS (ltD k down) (xs.take i)).take p).map GRow.row) rfl rfl (fun _ _ h => src_osl (h _ _ rfl) (by simp; omega)) (bnd0 (by simp; omega) (by decide)) (by simp; omega) (by simp [List.map_take])⟩, ?_⟩
      first | refine ⟨_, .inr ⟨rfl, _, rfl, .inl rfl, loc_q (q_mov rfl)⟩, ?_⟩
      first | refine ⟨_, .inr ⟨rfl, _, rfl, .inl rfl, loc_q (q_mov rfl)⟩, ?_⟩
      first | refine ⟨_, .inr ⟨rfl, _, rfl, .inl rfl, loc_q (q_ix rfl rfl (mapAt h0x))⟩, ?_⟩
      first | refine ⟨_, .inr ⟨rfl, _, rfl, .inl rfl, loc_q (q_ldN rfl rfl rfl)⟩, ?_⟩ | refine ⟨_, .inr ⟨rfl, _, rfl, .inl rfl, loc_q (q_loadN_ip rfl (Nat.le_refl _))⟩, ?_⟩
      first | refine ⟨_, .inr ⟨rfl, _, rfl, .inl rfl, loc_bslice rfl⟩, ?_⟩
      refine ⟨⟨69, _, []⟩, .inl ⟨rfl, rfl, rfl, locl_app (n' := p + 1) (rs' := ((sortS (ltD k down) (xs.take i)).take p ++ [xs[i]]).map GRow.row) rfl rfl (by simp; omega) rfl (fun _ _ h => src_osl (h _ _ rfl) (by simp)) (.inl (by decide)) (hbnd (by omega) (by simp) (by decide)) (by simp) (app1p (by simp; omega))⟩, ?_⟩
      first | refine ⟨_, .inr ⟨rfl, _, rfl, .inr ⟨rfl, rfl, .inr rfl, rfl, rfl⟩, loc_q (q_mov rfl)⟩, ?_⟩
      first | refine ⟨_, .inr ⟨rfl, _, rfl, .inr ⟨rfl, rfl, .inr rfl, rfl, rfl⟩, loc_q (q_mov rfl)⟩, ?_⟩
      first | refine ⟨_, .inr ⟨rfl, _, rfl, .inr ⟨rfl, rfl, .inr rfl, rfl, rfl⟩, loc_qe (r' := .osl 11 7 p (i - p)) (q_slc_osl rfl rfl rfl (by omega) (by omega) (by omega)) (oslE (by omega) (by omega))⟩, ?_⟩
      refine ⟨rfl, ?_⟩
      refine ax_e (e_appn (n' := (insA (sortS (ltD k down) (xs.take i)) p xs[i]).length) (rs' := (insA (sortS (ltD k down) (xs.take i)) p xs[i]).map GRow.row) rfl rfl (by simp; omega) rfl (src_osl rfl (by simp; omega)) (.inl (by decide)) (hbnd (by omega) (by simp; omega) (by decide)) (by rw [insA_len (by omega)]; simp; omega) (insA_app (by omega))) ?_
      refine ax_q (q_mov rfl) ?_
      refine ax_nil ?_
      refine cx_keep rfl rfl ?_
      refine cx_ops ?_
      refine ax_q (q_mov rfl) ?_
      refine ax_wk (wk_swap 63 11 rfl rfl) ?_
      refine ax_qe (r' := int ((i + 1 : Nat) : Int)) (q_ibin rfl rfl rfl) (by rw [wi (by omega) (by omega)]; rfl) ?_
      refine ax_q (q_mov rfl) ?_
      refine ax_nil ?_
      exact ⟨_, i + 1, by omega, ⟨by omega, rfl⟩, by rw [hso]; exact (by repeat (first | exact trivial | refine ⟨rfl, ?_⟩ | refine ⟨?_, ?_⟩))⟩
     ·
      have h4 := dF h4
      refine cx_skip ?_
      refine cx_keep rfl rfl ?_
      refine cx_ops ?_
      refine ax_q (q_mov rfl) ?_
      refine ax_qe (r' := int (j : Nat)) (q_ibin rfl rfl rfl) (by rw [wi (by omega) (by omega)]; exact congrArg AM.int (by omega)) ?_
      refine ax_q (q_mov rfl) ?_
      refine ax_nil ?_
      exact ⟨_, j, by omega, ⟨by omega, rfl, by rw [hp]; exact posI_t (by omega) (by rw [ltD_4 h2 h3]; exact decide_eq_true (by omega))⟩, by repeat (first | exact trivial | refine ⟨rfl, ?_⟩ | refine ⟨?_, ?_⟩)⟩
  ·
   have h1 := dF h1
   have ej : posI (ltD k down) xs[i] (sortS (ltD k down) (xs.take i)) i = j := by rw [hp, show j = 0 from by omega]; rfl
   obtain ⟨p, rfl⟩ : ∃ p, p = j := ⟨_, rfl⟩
   have hpl : p ≤ i := by rw [← ej]; exact posI_le
   have hso : sortS (ltD k down) (xs.take (i + 1)) = insA (sortS (ltD k down) (xs.take i)) p xs[i] := by rw [sortS_take h0x]; unfold insS insA; rw [hS, ej]
   refine cx_exit rfl ?_
   refine cx_keep rfl rfl ?_
   refine cx_drawL 10 69 (Nat.beq 63) (nrA 63) [] ([(63, .rows 7 (((sortS (ltD k down) (xs.take i)).take p ++ [xs[i]]).map GRow.row))]) [[], [7], [9], [60, 61], [59, 62], [0], [8], [64, 65], [66], [67], [63, 68], [7], [9], [70, 71]] [[], [], [], [], [], [], [], [], [], [], [63], [63], [63], [63]] rfl ?_
   first | refine ⟨_, .inr ⟨rfl, _, rfl, .inl rfl, loc_bsliceZ⟩, ?_⟩
   first | refine ⟨_, .inr ⟨rfl, _, rfl, .inl rfl, loc_q (q_mov rfl)⟩, ?_⟩
   first | refine ⟨_, .inr ⟨rfl, _, rfl, .inl rfl, loc_q (q_mov rfl)⟩, ?_⟩
   first | refine ⟨_, .inr ⟨rfl, _, rfl, .inl rfl, loc_qe (r' := .osl 11 7 0 p) (q_slc_osl rfl rfl rfl (by omega) (by omega) (by omega)) (oslE0 (by omega) (by omega))⟩, ?_⟩
   first | refine ⟨_, .inr ⟨rfl, _, rfl, .inl rfl, loc_appZ (n := p) (rs := ((sortS (ltD k down) (xs.take i)).take p).map GRow.row) rfl rfl (fun _ _ h => src_osl (h _ _ rfl) (by simp; omega)) (bnd0 (by simp; omega) (by decide)) (by simp; omega) (by simp [List.map_take])⟩, ?_⟩
   first | refine ⟨_, .inr ⟨rfl, _, rfl, .inl rfl, loc_q (q_mov rfl)⟩, ?_⟩
   first | refine ⟨_, .inr ⟨rfl, _, rfl, .inl rfl, loc_q (q_mov rfl)⟩, ?_⟩
   first | refine ⟨_, .inr ⟨rfl, _, rfl, .inl rfl, loc_q (q_ix rfl rfl (mapAt h0x))⟩, ?_⟩
   first | refine ⟨_, .inr ⟨rfl, _, rfl, .inl rfl, loc_q (q_ldN rfl rfl rfl)⟩, ?_⟩ | refine ⟨_, .inr ⟨rfl, _, rfl, .inl rfl, loc_q (q_loadN_ip rfl (Nat.le_refl _))⟩, ?_⟩
   first | refine ⟨_, .inr ⟨rfl, _, rfl, .inl rfl, loc_bslice rfl⟩, ?_⟩
   refine ⟨⟨69, _, []⟩, .inl ⟨rfl, rfl, rfl, locl_app (n' := p + 1) (rs' := ((sortS (ltD k down) (xs.take i)).take p ++ [xs[i]]).map GRow.row) rfl rfl (by simp; omega) rfl (fun _ _ h => src_osl (h _ _ rfl) (by simp)) (.inl (by decide)) (hbnd (by omega) (by simp) (by decide)) (by simp) (app1p (by simp; omega))⟩, ?_⟩
   first | refine ⟨_, .inr ⟨rfl, _, rfl, .inr ⟨rfl, rfl, .inr rfl, rfl, rfl⟩, loc_q (q_mov rfl)⟩, ?_⟩
   first | refine ⟨_, .inr ⟨rfl, _, rfl, .inr ⟨rfl, rfl, .inr rfl, rfl, rfl⟩, loc_q (q_mov rfl)⟩, ?_⟩
   first | refine ⟨_, .inr ⟨rfl, _, rfl, .inr ⟨rfl, rfl, .inr rfl, rfl, rfl⟩, loc_qe (r' := .osl 11 7 p (i - p)) (q_slc_osl rfl rfl rfl (by omega) (by omega) (by omega)) (oslE (by omega) (by omega))⟩, ?_⟩
   refine ⟨rfl, ?_⟩
   refine ax_e (e_appn (n' := (insA (sortS (ltD k down) (xs.take i)) p xs[i]).length) (rs' := (insA (sortS (ltD k down) (xs.take i)) p xs[i]).map GRow.row) rfl rfl (by simp; omega) rfl (src_osl rfl (by simp; omega)) (.inl (by decide)) (hbnd (by omega) (by simp; omega) (by decide)) (by rw [insA_len (by omega)]; simp; omega) (insA_app (by omega))) ?_
   refine ax_q (q_mov rfl) ?_
   refine ax_nil ?_
   refine cx_keep rfl rfl ?_
   refine cx_ops ?_
   refine ax_q (q_mov rfl) ?_
   refine ax_wk (wk_swap 63 11 rfl rfl) ?_
   refine ax_qe (r' := int ((i + 1 : Nat) : Int)) (q_ibin rfl rfl rfl) (by rw [wi (by omega) (by omega)]; rfl) ?_
   refine ax_q (q_mov rfl) ?_
   refine ax_nil ?_
   exact ⟨_, i + 1, by omega, ⟨by omega, rfl⟩, by rw [hso]; exact (by repeat (first | exact trivial | refine ⟨rfl, ?_⟩ | refine ⟨?_, ?_⟩))⟩
 ·
  have h0 := dF h0
  obtain rfl : i = xs.length := by omega
  rw [List.take_length]
  refine cx_exit rfl ?_
  refine cx_keep rfl rfl ?_
  refine cx_seq ?_
  refine cx_ops ?_
  refine ax_q (q_mov rfl) ?_
  refine ax_q (q_mov rfl) ?_
  refine ax_nil ?_
  refine cx_keep rfl rfl ?_
  refine cx_ret (retN (fun _ => 0) [11] rfl rfl rfl rfl rfl ?_)
  exact ⟨rfl, rfl⟩


/- loop.example/g00332/spec.SortRows -/
def k_c_sSortRows : XCode :=
 .seq (.ops [.op (some 6) (.mov (.k (.nils 7))),
   .op (some 7) (.mov (.k (.int .i64 0)))])
 (.keep [0, 1, 2] (.seq (.seq (.ops [.op (some 8) (.mov (.t 0)),
   .op (some 9) (.lenS (.t 8)),
   .op (some 10) (.bin .gtr (.t 9) (.k (.int .i64 4096)))])
  (.keep [0, 1, 2, 10] (.cond (.t 10)
  (.seq (.ops [.op (some 11) (.bslice 7 []),
    .op (some 6) (.mov (.t 11)),
    .op (some 7) (.mov (.k (.int .i64 2)))])
   (.keep [6, 7] (.ret)))
  (.skip))))
 (.keep [0, 1, 2] (.seq (.seq (.ops [.op (some 12) (.mov (.t 0)),
   .op (some 13) (.lenS (.t 12)),
   .op (some 14) (.bin .gtr (.t 13) (.k (.int .i64 100)))])
  (.keep [0, 1, 2, 14] (.cond (.t 14)
  (.seq (.ops [.op (some 15) (.bslice 7 []),
    .op (some 6) (.mov (.t 15)),
    .op (some 7) (.mov (.k (.int .i64 6)))])
   (.keep [6, 7] (.ret)))
  (.skip))))
 (.keep [0, 1, 2] (.seq (.seq (.ops [.op (some 16) (.mov (.t 0)),
   .call (some 17) 12 [.t 16],
   .op (some 18) (.not (.t 17))])
  (.keep [0, 1, 2, 18] (.cond (.t 18)
  (.seq (.ops [.op (some 19) (.bslice 7 []),
    .op (some 6) (.mov (.t 19)),
    .op (some 7) (.mov (.k (.int .i64 1)))])
   (.keep [6, 7] (.ret)))
  (.skip))))
 (.keep [0, 1, 2] (.seq (.seq (.ops [.op (some 20) (.mov (.t 1)),
   .call (some 21) 13 [.t 20, .k (.int .i64 0), .k (.int .i64 2)],
   .op (some 22) (.not (.t 21))])
  (.keep [0, 1, 2, 22] (.cond (.t 22)
  (.seq (.ops [.op (some 23) (.bslice 7 []),
    .op (some 6) (.mov (.t 23)),
    .op (some 7) (.mov (.k (.int .i64 4)))])
   (.keep [6, 7] (.ret)))
  (.skip))))
 (.keep [0, 1, 2] (.seq (.ops [.op (some 24) (.mov (.t 0)),
   .op (some 25) (.mov (.t 1)),
   .op (some 26) (.mov (.t 2)),
   .call (some 27) 14 [.t 24, .t 25, .t 26],
   .op (some 6) (.mov (.t 27)),
   .op (some 7) (.mov (.k (.int .i64 0)))])
 (.keep [6, 7] (.ret))))))))))))
theorem k_c_sSortRows_fits : fitsF Try.prog 5 ⟨28, k_c_sSortRows, [.t 6, .t 7]⟩ = true := by kernel_rfl
theorem c_sSortRows {xs : List GRow} {k : Int} {down : Bool} (hl : xs.length ≤ 1048576) (hsz : ∀ x ∈ xs, x.N.T.length ≤ 1048576 ∧ x.Name.T.length ≤ 1048576) : Con Try.prog noMv 5 [.d (.sl 7 (xs.map GRow.row)), int k, bool down] [] (fun r h => r = .tup [.osl 0 7 0 (srtRF xs k down).1.length, int (srtRF xs k down).2] ∧ h = [(0, .rows 7 ((srtRF xs k down).1.map GRow.row))]) := by
 refine con_of2 k_c_sSortRows_fits rfl fun C hP hmv => ?_
 unfold k_c_sSortRows
 refine cx_seq ?_
 refine cx_ops ?_
 refine ax_q (q_mov rfl) ?_
 refine ax_q (q_mov rfl) ?_
 refine ax_nil ?_
 refine cx_keep rfl rfl ?_
 refine cx_seq ?_
 refine cx_seq ?_
 refine cx_ops ?_
 refine ax_q (q_mov rfl) ?_
 refine ax_q (q_lenS_map rfl) ?_
 refine ax_q (q_ibin rfl rfl rfl) ?_
 refine ax_nil ?_
 refine cx_keep rfl rfl ?_
 refine cx_cond rfl (fun h0 => ?_) (fun h0 => ?_)
 ·
  have h0 := dT h0
  refine cx_seq ?_
  refine cx_ops ?_
  refine ax_e (e_bslice rfl (by decide) rfl rfl) ?_
  refine ax_q (q_mov rfl) ?_
  refine ax_q (q_mov rfl) ?_
  refine ax_nil ?_
  refine cx_keep rfl rfl ?_
  refine cx_ret (retN (fun _ => 0) [11] rfl rfl rfl rfl rfl ?_)
  rw [srtR_1 (by omega)]; exact ⟨rfl, rfl⟩
 ·
  have h0 := dF h0
  refine cx_skip ?_
  refine cx_keep rfl rfl ?_
  refine cx_seq ?_
  refine cx_seq ?_
  refine cx_ops ?_
  refine ax_q (q_mov rfl) ?_
  refine ax_q (q_lenS_map rfl) ?_
  refine ax_q (q_ibin rfl rfl rfl) ?_
  refine ax_nil ?_
  refine cx_keep rfl rfl ?_
  refine cx_cond rfl (fun h1 => ?_) (fun h1 => ?_)
  ·
   have h1 := dT h1
   refine cx_seq ?_
   refine cx_ops ?_
   refine ax_e (e_bslice rfl (by decide) rfl rfl) ?_
   refine ax_q (q_mov rfl) ?_
   refine ax_q (q_mov rfl) ?_
   refine ax_nil ?_
   refine cx_keep rfl rfl ?_
   refine cx_ret (retN (fun _ => 0) [15] rfl rfl rfl rfl rfl ?_)
   rw [srtR_2 (by omega) (by omega)]; exact ⟨rfl, rfl⟩
  ·
   have h1 := dF h1
   refine cx_skip ?_
   refine cx_keep rfl rfl ?_
   refine cx_seq ?_
   refine cx_seq ?_
   refine cx_ops ?_
   refine ax_q (q_mov rfl) ?_
   refine ax_call rfl (vc_pure0 (c_l12Rows (xs := xs) ?_ ?_) hP rfl rfl ?_)
   ·
    first | assumption | omega
   ·
    assumption
   refine ax_q (q_not rfl) ?_
   refine ax_nil ?_
   refine cx_keep rfl rfl ?_
   refine cx_cond rfl (fun h2 => ?_) (fun h2 => ?_)
   ·
    have h2 := bT h2
    refine cx_seq ?_
    refine cx_ops ?_
    refine ax_e (e_bslice rfl (by decide) rfl rfl) ?_
    refine ax_q (q_mov rfl) ?_
    refine ax_q (q_mov rfl) ?_
    refine ax_nil ?_
    refine cx_keep rfl rfl ?_
    refine cx_ret (retN (fun _ => 0) [19] rfl rfl rfl rfl rfl ?_)
    rw [srtR_3 (by omega) h2]; exact ⟨rfl, rfl⟩
   ·
    have h2 := bF h2
    refine cx_skip ?_
    refine cx_keep rfl rfl ?_
    refine cx_seq ?_
    refine cx_seq ?_
    refine cx_ops ?_
    refine ax_q (q_mov rfl) ?_
    refine ax_call rfl (vc_pure0 (c_l01In  ) hP rfl rfl ?_)
    refine ax_q (q_not rfl) ?_
    refine ax_nil ?_
    refine cx_keep rfl rfl ?_
    refine cx_cond rfl (fun h3 => ?_) (fun h3 => ?_)
    ·
     have h3 := bT h3
     refine cx_seq ?_
     refine cx_ops ?_
     refine ax_e (e_bslice rfl (by decide) rfl rfl) ?_
     refine ax_q (q_mov rfl) ?_
     refine ax_q (q_mov rfl) ?_
     refine ax_nil ?_
     refine cx_keep rfl rfl ?_
     refine cx_ret (retN (fun _ => 0) [23] rfl rfl rfl rfl rfl ?_)
     rw [srtR_4 (by omega) h2 h3]; exact ⟨rfl, rfl⟩
    ·
     have h3 := bF h3
     have hn := good_nd h2
     have hkk := inR_iff.1 h3
     refine cx_skip ?_
     refine cx_keep rfl rfl ?_
     refine cx_seq ?_
     refine cx_ops ?_
     refine ax_q (q_mov rfl) ?_
     refine ax_q (q_mov rfl) ?_
     refine ax_q (q_mov rfl) ?_
     refine ax_call rfl (vc_pure (c_l12Sort (xs := xs) (k := k) (down := down) ?_ ?_) hP rfl ?_)
     ·
      first | assumption | omega
     ·
      assumption
     rintro r h ⟨rfl, rfl⟩
     refine ⟨fun i => 27 + 200 * i, [0], ⟨rfl, rfl, rfl, rfl, rfl, (by first | exact (fun h => absurd h Bool.false_ne_true) | exact (fun _ => ⟨rfl, (noisl_of (by repeat (first | exact trivial | refine ⟨noisl_map (fun _ => rfl), ?_⟩ | refine ⟨?_, ?_⟩)))⟩))⟩, ?_⟩
     skip
     refine ax_q (q_mov rfl) ?_
     refine ax_q (q_mov rfl) ?_
     refine ax_nil ?_
     refine cx_keep rfl rfl ?_
     have e := @srtF_len xs k down
     refine cx_ret (retN (fun _ => 0) [27] rfl rfl rfl rfl rfl ?_)
     rw [srtR_5 (by omega) h2 h3, ← sortD_srt hn]; exact ⟨rfl, rfl⟩


/- loop.example/g00332/laws.toValue -/
def k_c_toValue : XCode :=
 .seq (.ops [.op (some 1) (.box (.t 0)),
   .op (some 2) (.alloc [.int .i64 0, .int .i64 0, .str []])])
 (.keep [1, 2] (.seq (.ops [.op (some 3) (.alloc [.int .i64 0, .int .i64 0, .str []])])
 (.keep [1, 2, 3] (.seq (.ops [.op (some 4) (.fadr (.t 1) 0),
   .op (some 5) (.load1 (.t 4)),
   .op (some 6) (.fadr (.t 3) 0),
   .op none (.store 1 (.t 6) (.t 5))])
 (.keep [1, 2, 3] (.seq (.ops [.op (some 7) (.fadr (.t 1) 1),
   .op (some 8) (.load1 (.t 7)),
   .op (some 9) (.fadr (.t 3) 1),
   .op none (.store 1 (.t 9) (.t 8))])
 (.keep [1, 2, 3] (.seq (.ops [.op (some 10) (.fadr (.t 1) 2),
   .op (some 11) (.load1 (.t 10)),
   .op (some 12) (.fadr (.t 3) 2),
   .op none (.store 1 (.t 12) (.t 11))])
 (.keep [2, 3] (.seq (.ops [.op (some 13) (.loadN 3 (.t 3)),
   .op none (.store 3 (.t 2) (.t 13))])
 (.keep [2] (.ret))))))))))))
theorem k_c_toValue_fits : fitsF Try.prog 26 ⟨14, k_c_toValue, [.cN 2 3]⟩ = true := by kernel_rfl
theorem c_toValue {a : GValue} : Con Try.prog noMv 26 [a.av] [] (fun r h => r = a.av ∧ h = []) := by
 refine con_of2 k_c_toValue_fits rfl fun C hP hmv => ?_
 unfold k_c_toValue
 refine cx_seq ?_
 refine cx_ops ?_
 refine ax_e (e_box rfl rfl (by decide) rfl rfl rfl) ?_
 refine ax_e (e_alloc (by decide) rfl rfl) ?_
 refine ax_nil ?_
 refine cx_keep rfl rfl ?_
 refine cx_seq ?_
 refine cx_ops ?_
 refine ax_e (e_alloc (by decide) rfl rfl) ?_
 refine ax_nil ?_
 refine cx_keep rfl rfl ?_
 refine cx_seq ?_
 refine cx_ops ?_
 refine ax_q (q_fadr_ptr rfl) ?_
 refine ax_q (q_load1_ptr rfl rfl rfl) ?_
 refine ax_q (q_fadr_ptr rfl) ?_
 refine ax_e (e_st rfl rfl rfl rfl rfl rfl rfl) ?_
 refine ax_nil ?_
 refine cx_keep rfl rfl ?_
 refine cx_seq ?_
 refine cx_ops ?_
 refine ax_q (q_fadr_ptr rfl) ?_
 refine ax_q (q_load1_ptr rfl rfl rfl) ?_
 refine ax_q (q_fadr_ptr rfl) ?_
 refine ax_e (e_st rfl rfl rfl rfl rfl rfl rfl) ?_
 refine ax_nil ?_
 refine cx_keep rfl rfl ?_
 refine cx_seq ?_
 refine cx_ops ?_
 refine ax_q (q_fadr_ptr rfl) ?_
 refine ax_q (q_load1_ptr rfl rfl rfl) ?_
 refine ax_q (q_fadr_ptr rfl) ?_
 refine ax_e (e_st rfl rfl rfl rfl rfl rfl rfl) ?_
 refine ax_nil ?_
 refine cx_keep rfl rfl ?_
 refine cx_seq ?_
 refine cx_ops ?_
 refine ax_q (q_ldN rfl rfl rfl) ?_
 refine ax_e (e_st rfl rfl rfl rfl rfl rfl rfl) ?_
 refine ax_nil ?_
 refine cx_keep rfl rfl ?_
 refine cx_ret (ret0 rfl rfl ?_)
 exact ⟨rfl, rfl⟩


/- loop.example/g00332/laws.toRow -/
def k_c_toRow : XCode :=
 .seq (.ops [.op (some 1) (.box (.t 0)),
   .op (some 2) (.alloc [.int .i64 0, .int .i64 0, .int .i64 0, .str [], .int .i64 0, .int .i64 0, .str []])])
 (.keep [1, 2] (.seq (.ops [.op (some 3) (.alloc [.int .i64 0, .int .i64 0, .int .i64 0, .str [], .int .i64 0, .int .i64 0, .str []])])
 (.keep [1, 2, 3] (.seq (.ops [.op (some 4) (.fadr (.t 1) 0),
   .op (some 5) (.load1 (.t 4)),
   .op (some 6) (.fadr (.t 3) 0),
   .op none (.store 1 (.t 6) (.t 5))])
 (.keep [1, 2, 3] (.seq (.ops [.op (some 7) (.fadr (.t 1) 1),
   .op (some 8) (.loadN 3 (.t 7)),
   .call (some 9) 26 [.t 8],
   .op (some 10) (.fadr (.t 3) 1),
   .op none (.store 3 (.t 10) (.t 9))])
 (.keep [1, 2, 3] (.seq (.ops [.op (some 11) (.fadr (.t 1) 4),
   .op (some 12) (.loadN 3 (.t 11)),
   .call (some 13) 26 [.t 12],
   .op (some 14) (.fadr (.t 3) 4),
   .op none (.store 3 (.t 14) (.t 13))])
 (.keep [2, 3] (.seq (.ops [.op (some 15) (.loadN 7 (.t 3)),
   .op none (.store 7 (.t 2) (.t 15))])
 (.keep [2] (.ret))))))))))))
theorem k_c_toRow_fits : fitsF Try.prog 15 ⟨16, k_c_toRow, [.cN 2 7]⟩ = true := by kernel_rfl
theorem c_toRow {a : GRow} : Con Try.prog noMv 15 [a.av] [] (fun r h => r = a.av ∧ h = []) := by
 refine con_of2 k_c_toRow_fits rfl fun C hP hmv => ?_
 unfold k_c_toRow
 refine cx_seq ?_
 refine cx_ops ?_
 refine ax_e (e_box rfl rfl (by decide) rfl rfl rfl) ?_
 refine ax_e (e_alloc (by decide) rfl rfl) ?_
 refine ax_nil ?_
 refine cx_keep rfl rfl ?_
 refine cx_seq ?_
 refine cx_ops ?_
 refine ax_e (e_alloc (by decide) rfl rfl) ?_
 refine ax_nil ?_
 refine cx_keep rfl rfl ?_
 refine cx_seq ?_
 refine cx_ops ?_
 refine ax_q (q_fadr_ptr rfl) ?_
 refine ax_q (q_load1_ptr rfl rfl rfl) ?_
 refine ax_q (q_fadr_ptr rfl) ?_
 refine ax_e (e_st rfl rfl rfl rfl rfl rfl rfl) ?_
 refine ax_nil ?_
 refine cx_keep rfl rfl ?_
 refine cx_seq ?_
 refine cx_ops ?_
 refine ax_q (q_fadr_ptr rfl) ?_
 refine ax_q (q_ldN rfl rfl rfl) ?_
 refine ax_call rfl (vc_pure0 (c_toValue  ) hP rfl rfl ?_)
 refine ax_q (q_fadr_ptr rfl) ?_
 refine ax_e (e_st rfl rfl rfl rfl rfl rfl rfl) ?_
 refine ax_nil ?_
 refine cx_keep rfl rfl ?_
 refine cx_seq ?_
 refine cx_ops ?_
 refine ax_q (q_fadr_ptr rfl) ?_
 refine ax_q (q_ldN rfl rfl rfl) ?_
 refine ax_call rfl (vc_pure0 (c_toValue  ) hP rfl rfl ?_)
 refine ax_q (q_fadr_ptr rfl) ?_
 refine ax_e (e_st rfl rfl rfl rfl rfl rfl rfl) ?_
 refine ax_nil ?_
 refine cx_keep rfl rfl ?_
 refine cx_seq ?_
 refine cx_ops ?_
 refine ax_q (q_ldN rfl rfl rfl) ?_
 refine ax_e (e_st rfl rfl rfl rfl rfl rfl rfl) ?_
 refine ax_nil ?_
 refine cx_keep rfl rfl ?_
 refine cx_ret (ret0 rfl rfl ?_)
 exact ⟨rfl, rfl⟩


/- loop.example/g00332/laws.toRowS -/
def k_c_toRowS : XCode :=
 .seq (.ops [.op (some 2) (.mov (.k (.nils 7)))])
 (.keep [0] (.seq (.ops [.op (some 5) (.mov (.t 0)),
   .op (some 6) (.lenS (.t 5)),
   .op (some 7) (.mkslice 7 72 [.int .i64 0, .int .i64 0, .int .i64 0, .str [], .int .i64 0, .int .i64 0, .str []] (.t 6) (.t 6)),
   .op (some 3) (.mov (.t 7))])
 (.keep [0, 3] (.seq (.seq (.ops [.op (some 4) (.mov (.k (.int .i64 0)))])
  (.keep [0, 3, 4] (.block 0 (.loop (.seq (.seq (.ops [.op (some 8) (.mov (.t 4)),
     .op (some 9) (.mov (.t 0)),
     .op (some 10) (.lenS (.t 9)),
     .op (some 11) (.bin .lss (.t 8) (.t 10))])
   (.keep [0, 3, 4, 11] (.cond (.t 11)
    (.skip)
    (.exit 0))))
   (.keep [0, 3, 4] (.seq (.block 1 (.ops [.op (some 14) (.mov (.t 3)),
     .op (some 15) (.mov (.t 4)),
     .op (some 16) (.mov (.t 0)),
     .op (some 17) (.mov (.t 4)),
     .op (some 18) (.iadr 7 (.t 16) (.t 17)),
     .op (some 19) (.loadN 7 (.t 18)),
     .call (some 20) 15 [.t 19],
     .op (some 21) (.iadr 7 (.t 14) (.t 15)),
     .op none (.store 7 (.t 21) (.t 20))]))
   (.keep [0, 3, 4] (.ops [.op (some 12) (.mov (.t 4)),
    .op (some 13) (.bin .add (.t 12) (.k (.int .i64 1))),
    .op (some 4) (.mov (.t 13))])))))))))
 (.keep [3] (.seq (.ops [.op (some 22) (.mov (.t 3)),
   .op (some 2) (.mov (.t 22))])
 (.keep [2] (.ret))))))))
theorem k_c_toRowS_fits : fitsF Try.prog 6 ⟨23, k_c_toRowS, [.t 2]⟩ = true := by kernel_rfl
theorem c_toRowS {xs : List GRow} (hw : xs.length ≤ 1048576) : Con Try.prog noMv 6 [.d (.sl 7 (xs.map GRow.row))] [] (fun r h => r = .osl 0 7 0 xs.length ∧ h = [(0, .rows 7 (xs.map GRow.row))]) := by
 refine con_of2 k_c_toRowS_fits rfl fun C hP hmv => ?_
 unfold k_c_toRowS
 refine cx_seq ?_
 refine cx_ops ?_
 refine ax_q (q_mov rfl) ?_
 refine ax_nil ?_
 refine cx_keep rfl rfl ?_
 refine cx_seq ?_
 refine cx_ops ?_
 refine ax_q (q_mov rfl) ?_
 refine ax_q (q_lenS_map rfl) ?_
 refine ax_ee (e_mkslice rfl rfl rfl (by omega) (by omega) (by omega) (by decide) rfl rfl) (by rw [Int.toNat_natCast]) ?_
 refine ax_q (q_mov rfl) ?_
 refine ax_nil ?_
 refine cx_keep rfl rfl ?_
 refine cx_seq ?_
 refine cx_seq ?_
 refine cx_ops ?_
 refine ax_q (q_mov rfl) ?_
 refine ax_nil ?_
 refine cx_keep rfl rfl ?_
 refine cx_block ?_
 refine cx_loopU (fun n k => k ≤ xs.length ∧ n = xs.length - k) (fun k : Nat => [(4, int k)]) (fun k => [(7, .rows 7 ((xs.take k).map GRow.row ++ List.replicate (xs.length - k) [.int .i64 0, .int .i64 0, .int .i64 0, .str [], .int .i64 0, .int .i64 0, .str []]))]) ⟨_, 0, ⟨Nat.zero_le _, rfl⟩, by repeat (first | exact trivial | refine ⟨rfl, ?_⟩ | refine ⟨?_, ?_⟩)⟩ ?_
 rintro n k ⟨hk, rfl⟩
 refine cx_seq ?_
 refine cx_seq ?_
 refine cx_ops ?_
 refine ax_q (q_mov rfl) ?_
 refine ax_q (q_mov rfl) ?_
 refine ax_q (q_lenS_map rfl) ?_
 refine ax_q (q_ibin rfl rfl rfl) ?_
 refine ax_nil ?_
 refine cx_keep rfl rfl ?_
 refine cx_cond rfl (fun h0 => ?_) (fun h0 => ?_)
 ·
  have h0 := dT h0
  have h1x : k < xs.length := by omega
  refine cx_skip ?_
  refine cx_keep rfl rfl ?_
  refine cx_seq ?_
  refine cx_block ?_
  refine cx_ops ?_
  refine ax_q (q_mov rfl) ?_
  refine ax_q (q_mov rfl) ?_
  refine ax_q (q_mov rfl) ?_
  refine ax_q (q_mov rfl) ?_
  refine ax_q (q_ix rfl rfl (mapAt h1x)) ?_
  first | refine ax_q (q_ldN rfl rfl rfl) ?_ | refine ax_q (q_loadN_ip rfl (Nat.le_refl _)) ?_
  refine ax_call rfl (vc_pure0 (c_toRow  ) hP rfl rfl ?_)
  refine ax_q (q_ixo rfl rfl h1x) ?_
  refine ax_e (e_str (q := GRow.row xs[k]) rfl rfl rfl rfl rfl rfl (fillAtL h1x) rfl rfl (fillSetL h1x)) ?_
  refine ax_nil ?_
  refine cx_keep rfl rfl ?_
  refine cx_ops ?_
  refine ax_q (q_mov rfl) ?_
  refine ax_q (q_add rfl rfl (by omega)) ?_
  refine ax_q (q_mov rfl) ?_
  refine ax_nil ?_
  exact ⟨_, k + 1, by omega, ⟨by omega, rfl⟩, by repeat (first | exact trivial | refine ⟨rfl, ?_⟩ | refine ⟨?_, ?_⟩)⟩
 ·
  have h0 := dF h0
  refine cx_exit rfl ?_
  refine cx_keep rfl rfl ?_
  refine cx_seq ?_
  refine cx_ops ?_
  refine ax_q (q_mov rfl) ?_
  refine ax_q (q_mov rfl) ?_
  refine ax_nil ?_
  refine cx_keep rfl rfl ?_
  refine cx_ret (retN (fun _ => 0) [7] rfl rfl rfl rfl rfl ?_)
  exact ⟨rfl, by rw [show k = xs.length from by omega, List.take_length, Nat.sub_self, List.replicate_zero, List.append_nil]; rfl⟩


/- loop.example/g00332/impl.inRange -/
def k_c_inRange : XCode :=
 .seq (.ops [.op (some 6) (.mov (.k (.bool false)))])
 (.keep [0, 1, 2] (.seq (.ops [.op (some 7) (.mov (.t 1)),
   .op (some 8) (.mov (.t 0)),
   .op (some 9) (.bin .leq (.t 7) (.t 8)),
   .op (some 10) (.mov (.t 9)),
   .andor 14 true 3 10 [.op (some 11) (.mov (.t 0)), .op (some 12) (.mov (.t 2)), .op (some 13) (.bin .leq (.t 11) (.t 12))] (.t 13),
   .op (some 6) (.mov (.t 14))])
 (.keep [6] (.ret))))
theorem k_c_inRange_fits : fitsF Try.prog 28 ⟨15, k_c_inRange, [.t 6]⟩ = true := by kernel_rfl
theorem c_inRange {n lo hi : Int} : Con Try.prog noMv 28 [int n, int lo, int hi] [] (fun r h => r = bool (inR n lo hi) ∧ h = []) := by
 refine con_of2 k_c_inRange_fits rfl fun C hP hmv => ?_
 unfold k_c_inRange
 refine cx_seq ?_
 refine cx_ops ?_
 refine ax_q (q_mov rfl) ?_
 refine ax_nil ?_
 refine cx_keep rfl rfl ?_
 refine cx_seq ?_
 refine cx_ops ?_
 refine ax_q (q_mov rfl) ?_
 refine ax_q (q_mov rfl) ?_
 refine ax_q (q_ibin rfl rfl rfl) ?_
 refine ax_q (q_mov rfl) ?_
 apply ax_and rfl rfl
 ·
  intro g
  have g := dT g
  refine ax_q (q_mov rfl) ?_
  refine ax_q (q_mov rfl) ?_
  refine ax_q (q_ibin rfl rfl rfl) ?_
  exact ax_nil ⟨rfl, by repeat (first | exact trivial | refine ⟨rfl, ?_⟩ | refine ⟨?_, ?_⟩)⟩
 refine ax_q (q_mov rfl) ?_
 refine ax_nil ?_
 refine cx_keep rfl rfl ?_
 refine cx_ret (ret0 rfl rfl ?_)
 exact ⟨rfl, rfl⟩


/- loop.example/g00332/impl.isId -/
def k_c_isId : XCode :=
 .seq (.ops [.op (some 2) (.mov (.k (.bool false)))])
 (.keep [0] (.seq (.ops [.op (some 3) (.mov (.t 0)),
   .call (some 4) 28 [.t 3, .k (.int .i64 0), .k (.int .i64 1000)],
   .op (some 2) (.mov (.t 4))])
 (.keep [2] (.ret))))
theorem k_c_isId_fits : fitsF Try.prog 40 ⟨5, k_c_isId, [.t 2]⟩ = true := by kernel_rfl
theorem c_isId {n : Int} : Con Try.prog noMv 40 [int n] [] (fun r h => r = bool (inR n 0 1000) ∧ h = []) := by
 refine con_of2 k_c_isId_fits rfl fun C hP hmv => ?_
 unfold k_c_isId
 refine cx_seq ?_
 refine cx_ops ?_
 refine ax_q (q_mov rfl) ?_
 refine ax_nil ?_
 refine cx_keep rfl rfl ?_
 refine cx_seq ?_
 refine cx_ops ?_
 refine ax_q (q_mov rfl) ?_
 refine ax_call rfl (vc_pure0 (c_inRange  ) hP rfl rfl ?_)
 refine ax_q (q_mov rfl) ?_
 refine ax_nil ?_
 refine cx_keep rfl rfl ?_
 refine cx_ret (ret0 rfl rfl ?_)
 exact ⟨rfl, rfl⟩


/- loop.example/g00332/impl.isNumber -/
def k_c_isNumber : XCode :=
 .seq (.ops [.op (some 2) (.mov (.k (.bool false)))])
 (.keep [0] (.seq (.ops [.op (some 3) (.mov (.t 0)),
   .call (some 4) 28 [.t 3, .k (.int .i64 (-1000000000)), .k (.int .i64 1000000000)],
   .op (some 2) (.mov (.t 4))])
 (.keep [2] (.ret))))
theorem k_c_isNumber_fits : fitsF Try.prog 47 ⟨5, k_c_isNumber, [.t 2]⟩ = true := by kernel_rfl
theorem c_isNumber {n : Int} : Con Try.prog noMv 47 [int n] [] (fun r h => r = bool (inR n (-1000000000) 1000000000) ∧ h = []) := by
 refine con_of2 k_c_isNumber_fits rfl fun C hP hmv => ?_
 unfold k_c_isNumber
 refine cx_seq ?_
 refine cx_ops ?_
 refine ax_q (q_mov rfl) ?_
 refine ax_nil ?_
 refine cx_keep rfl rfl ?_
 refine cx_seq ?_
 refine cx_ops ?_
 refine ax_q (q_mov rfl) ?_
 refine ax_call rfl (vc_pure0 (c_inRange  ) hP rfl rfl ?_)
 refine ax_q (q_mov rfl) ?_
 refine ax_nil ?_
 refine cx_keep rfl rfl ?_
 refine cx_ret (ret0 rfl rfl ?_)
 exact ⟨rfl, rfl⟩


/- loop.example/g00332/impl.isLetter -/
def k_c_isLetter : XCode :=
 .seq (.ops [.op (some 2) (.mov (.k (.bool false)))])
 (.keep [0] (.seq (.ops [.op (some 3) (.mov (.t 0)),
   .op (some 4) (.bin .geq (.t 3) (.k (.int .u8 97))),
   .op (some 5) (.mov (.t 4)),
   .andor 8 true 2 5 [.op (some 6) (.mov (.t 0)), .op (some 7) (.bin .leq (.t 6) (.k (.int .u8 122)))] (.t 7),
   .op (some 2) (.mov (.t 8))])
 (.keep [2] (.ret))))
theorem k_c_isLetter_fits : fitsF Try.prog 61 ⟨9, k_c_isLetter, [.t 2]⟩ = true := by kernel_rfl
theorem c_isLetter {b : UInt8} : Con Try.prog noMv 61 [.d (.int .u8 b.toNat)] [] (fun r h => r = bool (inR (b.toNat : Int) 97 122) ∧ h = []) := by
 refine con_of2 k_c_isLetter_fits rfl fun C hP hmv => ?_
 unfold k_c_isLetter
 refine cx_seq ?_
 refine cx_ops ?_
 refine ax_q (q_mov rfl) ?_
 refine ax_nil ?_
 refine cx_keep rfl rfl ?_
 refine cx_seq ?_
 refine cx_ops ?_
 refine ax_q (q_mov rfl) ?_
 refine ax_q (q_ibin rfl rfl rfl) ?_
 refine ax_q (q_mov rfl) ?_
 apply ax_and rfl rfl
 ·
  intro g
  have g := dT g
  refine ax_q (q_mov rfl) ?_
  refine ax_q (q_ibin rfl rfl rfl) ?_
  exact ax_nil ⟨rfl, by repeat (first | exact trivial | refine ⟨rfl, ?_⟩ | refine ⟨?_, ?_⟩)⟩
 refine ax_q (q_mov rfl) ?_
 refine ax_nil ?_
 refine cx_keep rfl rfl ?_
 refine cx_ret (ret0 rfl rfl ?_)
 exact ⟨rfl, rfl⟩


/- loop.example/g00332/impl.isWord -/
def k_c_isWord : XCode :=
 .seq (.ops [.op (some 2) (.mov (.k (.bool false)))])
 (.keep [0] (.seq (.seq (.ops [.op (some 4) (.mov (.t 0)),
   .op (some 5) (.lenT (.t 4)),
   .op (some 6) (.mov (.k (.int .i64 0)))])
  (.keep [0, 5, 6] (.block 0 (.loop (.seq (.ops [.op (some 7) (.bin .lss (.t 6) (.t 5))])
   (.keep [0, 5, 6, 7] (.seq (.cond (.t 7)
    (.skip)
    (.exit 0))
   (.keep [0, 5, 6] (.seq (.block 1 (.seq (.ops [.op (some 8) (.mov (.t 6)),
     .op (some 3) (.mov (.t 8))])
    (.keep [0, 3, 5, 6] (.seq (.ops [.op (some 9) (.mov (.t 0)),
     .op (some 10) (.mov (.t 3)),
     .op (some 11) (.idxS (.t 9) (.t 10)),
     .call (some 12) 61 [.t 11],
     .op (some 13) (.not (.t 12))])
    (.keep [0, 5, 6, 13] (.cond (.t 13)
    (.seq (.ops [.op (some 2) (.mov (.k (.bool false)))])
     (.keep [2] (.ret)))
    (.skip)))))))
   (.keep [0, 5, 6] (.ops [.op (some 14) (.bin .add (.t 6) (.k (.int .i64 1))),
    .op (some 6) (.mov (.t 14))])))))))))))
 (.keep [0] (.seq (.ops [.op (some 15) (.mov (.t 0)),
   .op (some 16) (.lenT (.t 15)),
   .op (some 17) (.bin .leq (.t 16) (.k (.int .i64 10))),
   .op (some 2) (.mov (.t 17))])
 (.keep [2] (.ret))))))
theorem k_c_isWord_fits : fitsF Try.prog 48 ⟨18, k_c_isWord, [.t 2]⟩ = true := by kernel_rfl
theorem c_isWord {s : Str} (hs : s.length ≤ 1048576) : Con Try.prog noMv 48 [str s] [] (fun r h => r = bool (isWord s) ∧ h = []) := by
 refine con_of2 k_c_isWord_fits rfl fun C hP hmv => ?_
 unfold k_c_isWord
 refine cx_seq ?_
 refine cx_ops ?_
 refine ax_q (q_mov rfl) ?_
 refine ax_nil ?_
 refine cx_keep rfl rfl ?_
 refine cx_seq ?_
 refine cx_seq ?_
 refine cx_ops ?_
 refine ax_q (q_mov rfl) ?_
 refine ax_q (q_lenT rfl) ?_
 refine ax_q (q_mov rfl) ?_
 refine ax_nil ?_
 refine cx_keep rfl rfl ?_
 refine cx_block ?_
 refine cx_loopU (fun n k => k ≤ s.length ∧ n = s.length - k ∧ ∀ j, j < k → ∀ x, s[j]? = some x → badCh x = false) (fun k : Nat => [(6, int k)]) (fun _ => []) ⟨_, 0, ⟨Nat.zero_le _, rfl, fun j hj => by omega⟩, by repeat (first | exact trivial | refine ⟨rfl, ?_⟩ | refine ⟨?_, ?_⟩)⟩ ?_
 rintro n k ⟨hk, rfl, hb⟩
 refine cx_seq ?_
 refine cx_ops ?_
 refine ax_q (q_ibin rfl rfl rfl) ?_
 refine ax_nil ?_
 refine cx_keep rfl rfl ?_
 refine cx_seq ?_
 refine cx_cond rfl (fun h0 => ?_) (fun h0 => ?_)
 ·
  have h0 := dT h0
  have h0x : k < s.length := by omega
  refine cx_skip ?_
  refine cx_keep rfl rfl ?_
  refine cx_seq ?_
  refine cx_block ?_
  refine cx_seq ?_
  refine cx_ops ?_
  refine ax_q (q_mov rfl) ?_
  refine ax_q (q_mov rfl) ?_
  refine ax_nil ?_
  refine cx_keep rfl rfl ?_
  refine cx_seq ?_
  refine cx_ops ?_
  refine ax_q (q_mov rfl) ?_
  refine ax_q (q_mov rfl) ?_
  refine ax_q (q_idxN rfl rfl (by first | assumption | omega)) ?_
  refine ax_call rfl (vc_pure0 (c_isLetter  ) hP rfl rfl ?_)
  refine ax_q (q_not rfl) ?_
  refine ax_nil ?_
  refine cx_keep rfl rfl ?_
  refine cx_cond rfl (fun h1 => ?_) (fun h1 => ?_)
  ·
   have h1 : badCh s[k] = true := h1
   refine cx_seq ?_
   refine cx_ops ?_
   refine ax_q (q_mov rfl) ?_
   refine ax_nil ?_
   refine cx_keep rfl rfl ?_
   refine cx_ret (ret0 rfl rfl ?_)
   exact ⟨by unfold isWord; rw [any_hit h0x h1] <;> rfl, rfl⟩
  ·
   have h1 : badCh s[k] = false := h1
   refine cx_skip ?_
   refine cx_keep rfl rfl ?_
   refine cx_ops ?_
   refine ax_qe (r' := int ((k + 1 : Nat) : Int)) (q_ibin rfl rfl rfl) (by rw [wi (by omega) (by omega)]; rfl) ?_
   refine ax_q (q_mov rfl) ?_
   refine ax_nil ?_
   exact ⟨_, k + 1, by omega, ⟨by omega, rfl, before_step h0x hb h1⟩, by repeat (first | exact trivial | refine ⟨rfl, ?_⟩ | refine ⟨?_, ?_⟩)⟩
 ·
  have h0 := dF h0
  have h0x : k = s.length := by omega
  refine cx_exit rfl ?_
  refine cx_keep rfl rfl ?_
  refine cx_seq ?_
  refine cx_ops ?_
  refine ax_q (q_mov rfl) ?_
  refine ax_q (q_lenT rfl) ?_
  refine ax_q (q_ibin rfl rfl rfl) ?_
  refine ax_q (q_mov rfl) ?_
  refine ax_nil ?_
  refine cx_keep rfl rfl ?_
  refine cx_ret (ret0 rfl rfl ?_)
  exact ⟨by unfold isWord; rw [any_all (fun i hi => hb i (by omega))] <;> rfl, rfl⟩


/- loop.example/g00332/impl.ValueOK -/
def k_c_ValueOK : XCode :=
 .seq (.ops [.op (some 1) (.box (.t 0)),
   .op (some 2) (.mov (.k (.bool false)))])
 (.keep [1] (.seq (.seq (.ops [.op (some 3) (.fadr (.t 1) 0),
   .op (some 4) (.load1 (.t 3))])
  (.keep [1, 4] (.block 0 (.seq (.ops [.op (some 6) (.bin .eql (.t 4) (.k (.int .i64 0))),
    .op (some 5) (.mov (.t 6))])
  (.keep [1, 4, 5] (.cond (.t 5)
   (.seq (.ops [.op (some 7) (.loadN 3 (.t 1)),
     .op (some 8) (.build [.int .i64 0, .int .i64 0, .str []] []),
     .op (some 9) (.eqs false [0, 0, 2] (.t 7) (.t 8)),
     .op (some 2) (.mov (.t 9))])
   (.keep [2] (.ret)))
   (.seq (.ops [.op (some 11) (.bin .eql (.t 4) (.k (.int .i64 1))),
     .op (some 10) (.mov (.t 11))])
   (.keep [1, 10] (.cond (.t 10)
    (.seq (.ops [.op (some 12) (.fadr (.t 1) 1),
      .op (some 13) (.load1 (.t 12)),
      .call (some 14) 47 [.t 13],
      .op (some 15) (.mov (.t 14)),
      .andor 19 true 3 15 [.op (some 16) (.fadr (.t 1) 2), .op (some 17) (.load1 (.t 16)), .op (some 18) (.bin .eql (.t 17) (.k (.str [])))] (.t 18),
      .op (some 2) (.mov (.t 19))])
    (.keep [2] (.ret)))
    (.skip))))))))))
 (.keep [1] (.seq (.ops [.op (some 20) (.fadr (.t 1) 0),
   .op (some 21) (.load1 (.t 20)),
   .op (some 22) (.bin .eql (.t 21) (.k (.int .i64 2))),
   .op (some 23) (.mov (.t 22)),
   .andor 27 true 3 23 [.op (some 24) (.fadr (.t 1) 1), .op (some 25) (.load1 (.t 24)), .op (some 26) (.bin .eql (.t 25) (.k (.int .i64 0)))] (.t 26),
   .op (some 28) (.mov (.t 27)),
   .andor 32 true 8 28 [.op (some 29) (.fadr (.t 1) 2), .op (some 30) (.load1 (.t 29)), .call (some 31) 48 [.t 30]] (.t 31),
   .op (some 2) (.mov (.t 32))])
 (.keep [2] (.ret))))))
theorem k_c_ValueOK_fits : fitsF Try.prog 41 ⟨33, k_c_ValueOK, [.t 2]⟩ = true := by kernel_rfl
theorem c_ValueOK {v : GValue} (hv : v.T.length ≤ 1048576) : Con Try.prog noMv 41 [v.av] [] (fun r h => r = bool (valueOK v) ∧ h = []) := by
 refine con_of2 k_c_ValueOK_fits rfl fun C hP hmv => ?_
 unfold k_c_ValueOK
 refine cx_seq ?_
 refine cx_ops ?_
 refine ax_e (e_box rfl rfl (by decide) rfl rfl rfl) ?_
 refine ax_q (q_mov rfl) ?_
 refine ax_nil ?_
 refine cx_keep rfl rfl ?_
 refine cx_seq ?_
 refine cx_seq ?_
 refine cx_ops ?_
 refine ax_q (q_fadr_ptr rfl) ?_
 refine ax_q (q_load1_ptr rfl rfl rfl) ?_
 refine ax_nil ?_
 refine cx_keep rfl rfl ?_
 refine cx_block ?_
 refine cx_seq ?_
 refine cx_ops ?_
 refine ax_q (q_ibin rfl rfl rfl) ?_
 refine ax_q (q_mov rfl) ?_
 refine ax_nil ?_
 refine cx_keep rfl rfl ?_
 refine cx_cond rfl (fun h0 => ?_) (fun h0 => ?_)
 ·
  have h0 := dT h0
  refine cx_seq ?_
  refine cx_ops ?_
  refine ax_q (q_ldN rfl rfl rfl) ?_
  refine ax_q (q_build rfl) ?_
  first | refine ax_q (GValue.q_eqs rfl rfl) ?_ | refine ax_q (q_eqs rfl rfl rfl) ?_
  refine ax_q (q_mov rfl) ?_
  refine ax_nil ?_
  refine cx_keep rfl rfl ?_
  refine cx_ret (ret0 rfl rfl ?_)
  exact ⟨by rw [valueOK_0 h0, decide_eq_true h0, Bool.and_true, Bool.true_and] <;> rfl, rfl⟩
 ·
  have h0 := dF h0
  refine cx_seq ?_
  refine cx_ops ?_
  refine ax_q (q_ibin rfl rfl rfl) ?_
  refine ax_q (q_mov rfl) ?_
  refine ax_nil ?_
  refine cx_keep rfl rfl ?_
  refine cx_cond rfl (fun h1 => ?_) (fun h1 => ?_)
  ·
   have h1 := dT h1
   refine cx_seq ?_
   refine cx_ops ?_
   refine ax_q (q_fadr_ptr rfl) ?_
   refine ax_q (q_load1_ptr rfl rfl rfl) ?_
   refine ax_call rfl (vc_pure0 (c_isNumber  ) hP rfl rfl ?_)
   refine ax_q (q_mov rfl) ?_
   apply ax_and rfl rfl
   ·
    intro g
    refine ax_q (q_fadr_ptr rfl) ?_
    refine ax_q (q_load1_ptr rfl rfl rfl) ?_
    refine ax_q (q_sbin rfl rfl rfl) ?_
    exact ax_nil ⟨rfl, by repeat (first | exact trivial | refine ⟨rfl, ?_⟩ | refine ⟨?_, ?_⟩)⟩
   refine ax_q (q_mov rfl) ?_
   refine ax_nil ?_
   refine cx_keep rfl rfl ?_
   refine cx_ret (ret0 rfl rfl ?_)
   exact ⟨by rw [valueOK_1 h1] <;> rfl, rfl⟩
  ·
   have h1 := dF h1
   refine cx_skip ?_
   refine cx_keep rfl rfl ?_
   refine cx_seq ?_
   refine cx_ops ?_
   refine ax_q (q_fadr_ptr rfl) ?_
   refine ax_q (q_load1_ptr rfl rfl rfl) ?_
   refine ax_q (q_ibin rfl rfl rfl) ?_
   refine ax_q (q_mov rfl) ?_
   apply ax_and rfl rfl
   ·
    intro g
    have g := dT g
    refine ax_q (q_fadr_ptr rfl) ?_
    refine ax_q (q_load1_ptr rfl rfl rfl) ?_
    refine ax_q (q_ibin rfl rfl rfl) ?_
    exact ax_nil ⟨rfl, by repeat (first | exact trivial | refine ⟨rfl, ?_⟩ | refine ⟨?_, ?_⟩)⟩
   refine ax_q (q_mov rfl) ?_
   apply ax_and rfl rfl
   ·
    intro g
    have g := (fun h => And.intro (dT (and_T h).1) (dT (and_T h).2)) g
    refine ax_q (q_fadr_ptr rfl) ?_
    refine ax_q (q_load1_ptr rfl rfl rfl) ?_
    refine ax_call rfl (vc_pure0 (c_isWord  ?_) hP rfl rfl ?_)
    ·
     assumption
    exact ax_nil ⟨rfl, by repeat (first | exact trivial | refine ⟨rfl, ?_⟩ | refine ⟨?_, ?_⟩)⟩
   refine ax_q (q_mov rfl) ?_
   refine ax_nil ?_
   refine cx_keep rfl rfl ?_
   refine cx_ret (ret0 rfl rfl ?_)
   exact ⟨by rw [valueOK_2 h0 h1] <;> rfl, rfl⟩


/- loop.example/g00332/impl.rowOK -/
def k_c_rowOK : XCode :=
 .seq (.ops [.op (some 1) (.box (.t 0)),
   .op (some 2) (.mov (.k (.bool false)))])
 (.keep [1] (.seq (.ops [.op (some 3) (.fadr (.t 1) 0),
   .op (some 4) (.load1 (.t 3)),
   .call (some 5) 40 [.t 4],
   .op (some 6) (.mov (.t 5)),
   .andor 10 true 3 6 [.op (some 7) (.fadr (.t 1) 1), .op (some 8) (.loadN 3 (.t 7)), .call (some 9) 41 [.t 8]] (.t 9),
   .op (some 11) (.mov (.t 10)),
   .andor 16 true 8 11 [.op (some 12) (.fadr (.t 1) 1), .op (some 13) (.fadr (.t 12) 0), .op (some 14) (.load1 (.t 13)), .op (some 15) (.bin .neq (.t 14) (.k (.int .i64 2)))] (.t 15),
   .op (some 17) (.mov (.t 16)),
   .andor 21 true 14 17 [.op (some 18) (.fadr (.t 1) 4), .op (some 19) (.loadN 3 (.t 18)), .call (some 20) 41 [.t 19]] (.t 20),
   .op (some 22) (.mov (.t 21)),
   .andor 27 true 19 22 [.op (some 23) (.fadr (.t 1) 4), .op (some 24) (.fadr (.t 23) 0), .op (some 25) (.load1 (.t 24)), .op (some 26) (.bin .neq (.t 25) (.k (.int .i64 1)))] (.t 26),
   .op (some 2) (.mov (.t 27))])
 (.keep [2] (.ret))))
theorem k_c_rowOK_fits : fitsF Try.prog 27 ⟨28, k_c_rowOK, [.t 2]⟩ = true := by kernel_rfl
theorem c_rowOK {a : GRow} (hv : a.N.T.length ≤ 1048576) (hw : a.Name.T.length ≤ 1048576) : Con Try.prog noMv 27 [a.av] [] (fun r h => r = bool (rowOK a) ∧ h = []) := by
 refine con_of2 k_c_rowOK_fits rfl fun C hP hmv => ?_
 unfold k_c_rowOK
 refine cx_seq ?_
 refine cx_ops ?_
 refine ax_e (e_box rfl rfl (by decide) rfl rfl rfl) ?_
 refine ax_q (q_mov rfl) ?_
 refine ax_nil ?_
 refine cx_keep rfl rfl ?_
 refine cx_seq ?_
 refine cx_ops ?_
 refine ax_q (q_fadr_ptr rfl) ?_
 refine ax_q (q_load1_ptr rfl rfl rfl) ?_
 refine ax_call rfl (vc_pure0 (c_isId  ) hP rfl rfl ?_)
 refine ax_q (q_mov rfl) ?_
 apply ax_and rfl rfl
 ·
  intro g
  refine ax_q (q_fadr_ptr rfl) ?_
  refine ax_q (q_ldN rfl rfl rfl) ?_
  refine ax_call rfl (vc_pure0 (c_ValueOK (v := a.N) ?_) hP rfl rfl ?_)
  ·
   assumption
  exact ax_nil ⟨rfl, by repeat (first | exact trivial | refine ⟨rfl, ?_⟩ | refine ⟨?_, ?_⟩)⟩
 refine ax_q (q_mov rfl) ?_
 apply ax_and rfl rfl
 ·
  intro g
  have g := (fun h => And.intro (id (and_T h).1) (id (and_T h).2)) g
  refine ax_q (q_fadr_ptr rfl) ?_
  refine ax_q (q_fadr_ptr rfl) ?_
  refine ax_q (q_load1_ptr rfl rfl rfl) ?_
  refine ax_q (q_ibin rfl rfl rfl) ?_
  exact ax_nil ⟨rfl, by repeat (first | exact trivial | refine ⟨rfl, ?_⟩ | refine ⟨?_, ?_⟩)⟩
 refine ax_q (q_mov rfl) ?_
 apply ax_and rfl rfl
 ·
  intro g
  have g := (fun h => And.intro ((fun h => And.intro (id (and_T h).1) (id (and_T h).2)) (and_T h).1) (nT (and_T h).2)) g
  refine ax_q (q_fadr_ptr rfl) ?_
  refine ax_q (q_ldN rfl rfl rfl) ?_
  refine ax_call rfl (vc_pure0 (c_ValueOK (v := a.Name) ?_) hP rfl rfl ?_)
  ·
   assumption
  exact ax_nil ⟨rfl, by repeat (first | exact trivial | refine ⟨rfl, ?_⟩ | refine ⟨?_, ?_⟩)⟩
 refine ax_q (q_mov rfl) ?_
 apply ax_and rfl rfl
 ·
  intro g
  have g := (fun h => And.intro ((fun h => And.intro ((fun h => And.intro (id (and_T h).1) (id (and_T h).2)) (and_T h).1) (nT (and_T h).2)) (and_T h).1) (id (and_T h).2)) g
  refine ax_q (q_fadr_ptr rfl) ?_
  refine ax_q (q_fadr_ptr rfl) ?_
  refine ax_q (q_load1_ptr rfl rfl rfl) ?_
  refine ax_q (q_ibin rfl rfl rfl) ?_
  exact ax_nil ⟨rfl, by repeat (first | exact trivial | refine ⟨rfl, ?_⟩ | refine ⟨?_, ?_⟩)⟩
 refine ax_q (q_mov rfl) ?_
 refine ax_nil ?_
 refine cx_keep rfl rfl ?_
 refine cx_ret (ret0 rfl rfl ?_)
 exact ⟨by rw [← rowOK_i] <;> rfl, rfl⟩


/- loop.example/g00332/impl.areRows -/
def k_c_areRows : XCode :=
 .seq (.ops [.op (some 2) (.mov (.k (.bool false)))])
 (.keep [0] (.seq (.seq (.ops [.op (some 5) (.mov (.t 0)),
   .op (some 6) (.lenS (.t 5)),
   .op (some 7) (.mov (.k (.int .i64 0)))])
  (.keep [0, 5, 6, 7] (.block 0 (.loop (.seq (.ops [.op (some 8) (.bin .lss (.t 7) (.t 6))])
   (.keep [0, 5, 6, 7, 8] (.seq (.cond (.t 8)
    (.skip)
    (.exit 0))
   (.keep [0, 5, 6, 7] (.seq (.block 1 (.seq (.ops [.op (some 9) (.mov (.t 7)),
     .op (some 10) (.iadr 7 (.t 5) (.t 7)),
     .op (some 11) (.loadN 7 (.t 10)),
     .op (some 4) (.alloc [.int .i64 0, .int .i64 0, .int .i64 0, .str [], .int .i64 0, .int .i64 0, .str []]),
     .op (some 3) (.mov (.t 9)),
     .op none (.store 7 (.t 4) (.t 11))])
    (.keep [0, 3, 4, 5, 6, 7] (.seq (.draw [.op (some 12) (.loadN 7 (.t 4)),
     .call (some 13) 27 [.t 12],
     .op (some 14) (.not (.t 13)),
     .op (some 15) (.mov (.t 14)),
     .andor 29 false 3 15 [.op (some 16) (.mov (.t 3)), .op (some 17) (.bin .gtr (.t 16) (.k (.int .i64 0))), .op (some 18) (.mov (.t 17)), .andor 28 true 6 18 [.op (some 19) (.mov (.t 0)), .op (some 20) (.mov (.t 3)), .op (some 21) (.bin .sub (.t 20) (.k (.int .i64 1))), .op (some 22) (.iadr 7 (.t 19) (.t 21)), .op (some 23) (.fadr (.t 22) 0), .op (some 24) (.load1 (.t 23)), .op (some 25) (.fadr (.t 4) 0), .op (some 26) (.load1 (.t 25)), .op (some 27) (.bin .geq (.t 24) (.t 26))] (.t 27)] (.t 28)])
    (.keep [0, 5, 6, 7, 29] (.cond (.t 29)
    (.seq (.ops [.op (some 2) (.mov (.k (.bool false)))])
     (.keep [2] (.ret)))
    (.skip)))))))
   (.keep [0, 5, 6, 7] (.ops [.op (some 30) (.bin .add (.t 7) (.k (.int .i64 1))),
    .op (some 7) (.mov (.t 30))])))))))))))
 (.keep [] (.seq (.ops [.op (some 2) (.mov (.k (.bool true)))])
 (.keep [2] (.ret))))))
theorem k_c_areRows_fits : fitsF Try.prog 16 ⟨31, k_c_areRows, [.t 2]⟩ = true := by kernel_rfl
theorem c_areRows {xs : List GRow} (hl : xs.length ≤ 100) (hsz : ∀ x ∈ xs, x.N.T.length ≤ 1048576 ∧ x.Name.T.length ≤ 1048576) : Con Try.prog noMv 16 [.d (.sl 7 (xs.map GRow.row))] [] (fun r h => r = bool (goodRows xs) ∧ h = []) := by
 refine con_of2 k_c_areRows_fits rfl fun C hP hmv => ?_
 unfold k_c_areRows
 refine cx_seq ?_
 refine cx_ops ?_
 refine ax_q (q_mov rfl) ?_
 refine ax_nil ?_
 refine cx_keep rfl rfl ?_
 refine cx_seq ?_
 refine cx_seq ?_
 refine cx_ops ?_
 refine ax_q (q_mov rfl) ?_
 refine ax_q (q_lenS_map rfl) ?_
 refine ax_q (q_mov rfl) ?_
 refine ax_nil ?_
 refine cx_keep rfl rfl ?_
 refine cx_block ?_
 refine cx_loopU (fun n k => k ≤ xs.length ∧ n = xs.length - k ∧ goodK xs k) (fun k : Nat => [(7, int k)]) (fun _ => []) ⟨_, 0, ⟨Nat.zero_le _, rfl, goodK_0⟩, by repeat (first | exact trivial | refine ⟨rfl, ?_⟩ | refine ⟨?_, ?_⟩)⟩ ?_
 rintro n k ⟨hk, rfl, hg⟩
 refine cx_seq ?_
 refine cx_ops ?_
 refine ax_q (q_ibin rfl rfl rfl) ?_
 refine ax_nil ?_
 refine cx_keep rfl rfl ?_
 refine cx_seq ?_
 refine cx_cond rfl (fun h0 => ?_) (fun h0 => ?_)
 ·
  have h0 := dT h0
  have h0x : k < xs.length := by omega
  obtain ⟨hz1, hz2⟩ := hsz _ (List.getElem_mem h0x)
  refine cx_skip ?_
  refine cx_keep rfl rfl ?_
  refine cx_seq ?_
  refine cx_block ?_
  refine cx_seq ?_
  refine cx_ops ?_
  refine ax_q (q_mov rfl) ?_
  refine ax_q (q_ix rfl rfl (mapAt h0x)) ?_
  first | refine ax_q (q_ldN rfl rfl rfl) ?_ | refine ax_q (q_loadN_ip rfl (Nat.le_refl _)) ?_
  refine ax_e (e_alloc (by decide) rfl rfl) ?_
  refine ax_q (q_mov rfl) ?_
  refine ax_e (e_st rfl rfl rfl rfl rfl rfl rfl) ?_
  refine ax_nil ?_
  refine cx_keep rfl rfl ?_
  refine cx_seq ?_
  refine cx_draw ?_
  refine ax_q (q_ldN rfl rfl rfl) ?_
  refine ax_callq rfl (c_rowOK (a := xs[k]) ?_ ?_) hP (lal_id _ rfl) rfl ?_
  ·
   assumption
  ·
   assumption
  refine ax_q (q_not rfl) ?_
  refine ax_q (q_mov rfl) ?_
  apply ax_or rfl rfl
  ·
   intro g
   have g := bF g
   refine ax_q (q_mov rfl) ?_
   refine ax_q (q_ibin rfl rfl rfl) ?_
   refine ax_q (q_mov rfl) ?_
   apply ax_and rfl rfl
   ·
    intro g
    have g := dT g
    refine ax_q (q_mov rfl) ?_
    refine ax_q (q_mov rfl) ?_
    refine ax_qe (r' := int ((k - 1 : Nat) : Int)) (q_ibin rfl rfl rfl) (by rw [wi (by omega) (by omega)]; exact congrArg AM.int (by omega)) ?_
    refine ax_q (q_ix (row := GRow.row (xs.getD (k - 1) .zero)) rfl rfl (mapAtD (by omega))) ?_
    first | refine ax_q (q_fadr_ptr rfl) ?_ | refine ax_q (q_fadr_rptr rfl) ?_ | refine ax_q (q_fadr_ip rfl) ?_
    first | refine ax_q (q_load1_ptr rfl rfl rfl) ?_ | refine ax_q (q_load1_ip rfl) ?_
    refine ax_q (q_fadr_ptr rfl) ?_
    refine ax_q (q_load1_ptr rfl rfl rfl) ?_
    refine ax_q (q_ibin rfl rfl rfl) ?_
    exact ax_nil ⟨rfl, by repeat (first | exact trivial | refine ⟨rfl, ?_⟩ | refine ⟨?_, ?_⟩)⟩
   exact ax_nil ⟨rfl, by repeat (first | exact trivial | refine ⟨rfl, ?_⟩ | refine ⟨?_, ?_⟩)⟩
  refine ax_nil ?_
  refine cx_keep rfl rfl ?_
  refine cx_cond rfl (fun h1 => ?_) (fun h1 => ?_)
  ·
   have h1 := (fun h => (or_T h).imp bT (fun h => And.intro (dT (and_T h).1) (dT (and_T h).2))) h1
   have hgf : goodRows xs = false := good_f h0x (h1.imp id (fun ⟨p, q⟩ => ⟨by omega, by omega⟩))
   refine cx_seq ?_
   refine cx_ops ?_
   refine ax_q (q_mov rfl) ?_
   refine ax_nil ?_
   refine cx_keep rfl rfl ?_
   refine cx_ret (ret0 rfl rfl ?_)
   exact ⟨by rw [hgf]; rfl, rfl⟩
  ·
   have h1 := (fun h => And.intro (bF (or_F h).1) ((fun h => (and_F h).imp dF dF) (or_F h).2)) h1
   have hgs : goodK xs (k + 1) := goodK_succ h0x hg h1.1 (fun h => by have := h1.2; omega)
   refine cx_skip ?_
   refine cx_keep rfl rfl ?_
   refine cx_ops ?_
   refine ax_qe (r' := int ((k + 1 : Nat) : Int)) (q_ibin rfl rfl rfl) (by rw [wi (by omega) (by omega)]; rfl) ?_
   refine ax_q (q_mov rfl) ?_
   refine ax_nil ?_
   exact ⟨_, k + 1, by omega, ⟨by omega, rfl, hgs⟩, by repeat (first | exact trivial | refine ⟨rfl, ?_⟩ | refine ⟨?_, ?_⟩)⟩
 ·
  have h0 := dF h0
  obtain rfl : k = xs.length := by omega
  refine cx_exit rfl ?_
  refine cx_keep rfl rfl ?_
  refine cx_seq ?_
  refine cx_ops ?_
  refine ax_q (q_mov rfl) ?_
  refine ax_nil ?_
  refine cx_keep rfl rfl ?_
  refine cx_ret (ret0 rfl rfl ?_)
  exact ⟨by rw [good_t hg]; rfl, rfl⟩


/- loop.example/g00332/impl.isPlace -/
def k_c_isPlace : XCode :=
 .seq (.ops [.op (some 4) (.mov (.k (.bool false)))])
 (.keep [0, 1] (.seq (.ops [.op (some 5) (.mov (.t 0)),
   .op (some 6) (.mov (.t 1)),
   .op (some 7) (.bin .sub (.t 6) (.k (.int .i64 1))),
   .call (some 8) 28 [.t 5, .k (.int .i64 0), .t 7],
   .op (some 4) (.mov (.t 8))])
 (.keep [4] (.ret))))
theorem k_c_isPlace_fits : fitsF Try.prog 17 ⟨9, k_c_isPlace, [.t 4]⟩ = true := by kernel_rfl
theorem c_isPlace {n k : Int} (hk : 0 ≤ k ∧ k ≤ 1048576) : Con Try.prog noMv 17 [int n, int k] [] (fun r h => r = bool (inR n 0 (k - 1)) ∧ h = []) := by
 refine con_of2 k_c_isPlace_fits rfl fun C hP hmv => ?_
 unfold k_c_isPlace
 refine cx_seq ?_
 refine cx_ops ?_
 refine ax_q (q_mov rfl) ?_
 refine ax_nil ?_
 refine cx_keep rfl rfl ?_
 refine cx_seq ?_
 refine cx_ops ?_
 refine ax_q (q_mov rfl) ?_
 refine ax_q (q_mov rfl) ?_
 refine ax_q (q_sub rfl rfl (by omega)) ?_
 refine ax_call rfl (vc_pure0 (c_inRange  ) hP rfl rfl ?_)
 refine ax_q (q_mov rfl) ?_
 refine ax_nil ?_
 refine cx_keep rfl rfl ?_
 refine cx_ret (ret0 rfl rfl ?_)
 exact ⟨rfl, rfl⟩


/- slices.Clone[[]loop.example/g00332/impl.Row,loop.example/g00332/impl.Row] -/
def k_c_Clone_Row : XCode :=
 .seq (.ops [.op (some 2) (.mov (.k (.nils 7)))])
 (.keep [0] (.seq (.seq (.ops [.op (some 3) (.mov (.t 0)),
   .op (some 4) (.eqn false (.t 3))])
  (.keep [0, 4] (.cond (.t 4)
  (.seq (.ops [.op (some 2) (.mov (.k (.nils 7)))])
   (.keep [2] (.ret)))
  (.skip))))
 (.keep [0] (.seq (.ops [.op (some 5) (.bslice 7 []),
   .op (some 6) (.mov (.t 0)),
   .op (some 7) (.app 7 72 [.int .i64 0, .int .i64 0, .int .i64 0, .str [], .int .i64 0, .int .i64 0, .str []] (.t 5) (.t 6)),
   .op (some 2) (.mov (.t 7))])
 (.keep [2] (.ret))))))
theorem k_c_Clone_Row_fits : fitsF Try.prog 29 ⟨8, k_c_Clone_Row, [.t 2]⟩ = true := by kernel_rfl
theorem c_Clone_Row {xs : List GRow} (hw : xs.length ≤ 1048576) : Con Try.prog noMv 29 [.d (.sl 7 (xs.map GRow.row))] [] (fun r h => r = .osl 0 7 0 xs.length ∧ h = [(0, .rows 7 (xs.map GRow.row))]) := by
 refine con_of2 k_c_Clone_Row_fits rfl fun C hP hmv => ?_
 unfold k_c_Clone_Row
 refine cx_seq ?_
 refine cx_ops ?_
 refine ax_q (q_mov rfl) ?_
 refine ax_nil ?_
 refine cx_keep rfl rfl ?_
 refine cx_seq ?_
 refine cx_seq ?_
 refine cx_ops ?_
 refine ax_q (q_mov rfl) ?_
 refine ax_eqn_sl rfl (fun b hb => ?_)
 refine ax_nil ?_
 refine cx_keep rfl rfl ?_
 refine cx_cond rfl (fun h0 => ?_) (fun h0 => ?_)
 ·
  skip
  refine cx_seq ?_
  refine cx_ops ?_
  refine ax_q (q_mov rfl) ?_
  refine ax_nil ?_
  refine cx_keep rfl rfl ?_
  have hx : xs = [] := List.map_eq_nil_iff.1 (hb h0)
  subst hx
  refine cx_wk (wk_virt 900 7 rfl rfl rfl) ?_
  refine cx_wk (wk_zs 2 900 [] rfl rfl) ?_
  refine cx_ret (retN (fun _ => 0) [900] rfl rfl rfl rfl rfl ?_)
  exact ⟨rfl, rfl⟩
 ·
  skip
  refine cx_skip ?_
  refine cx_keep rfl rfl ?_
  refine cx_seq ?_
  refine cx_ops ?_
  refine ax_e (e_bslice rfl (by decide) rfl rfl) ?_
  refine ax_q (q_mov rfl) ?_
  refine ax_e (e_app_osl rfl rfl (Nat.le_refl _) rfl (src_sl 7 _) (.inl (by decide)) (by simp only [List.length_map, List.length_nil]; omega)) ?_
  refine ax_q (q_mov rfl) ?_
  refine ax_nil ?_
  refine cx_keep rfl rfl ?_
  refine cx_ret (retN (fun _ => 0) [5] rfl rfl rfl rfl rfl ?_)
  exact ⟨by simp [renA, mkRes], by simp [renOs, renO]⟩


/- slices.insertionSortCmpFunc[loop.example/g00332/impl.Row] -/
def k_c_insertion : XCode :=
 .seq (.ops [.op (some 10) (.mov (.t 1)),
   .op (some 11) (.bin .add (.t 10) (.k (.int .i64 1))),
   .op (some 8) (.mov (.t 11))])
 (.keep [0, 1, 2, 3, 8] (.block 0 (.loop (.seq (.seq (.ops [.op (some 12) (.mov (.t 8)),
    .op (some 13) (.mov (.t 2)),
    .op (some 14) (.bin .lss (.t 12) (.t 13))])
   (.keep [0, 1, 2, 3, 8, 14] (.cond (.t 14)
   (.skip)
   (.exit 0))))
  (.keep [0, 1, 2, 3, 8] (.seq (.block 1 (.seq (.ops [.op (some 17) (.mov (.t 8)),
     .op (some 9) (.mov (.t 17))])
   (.keep [0, 1, 2, 3, 8, 9] (.block 2 (.loop (.seq (.seq (.draw [.op (some 18) (.mov (.t 9)),
      .op (some 19) (.mov (.t 1)),
      .op (some 20) (.bin .gtr (.t 18) (.t 19)),
      .op (some 21) (.mov (.t 20)),
      .andor 34 true 3 21 [.op (some 22) (.mov (.t 3)), .op (some 23) (.mov (.t 0)), .op (some 24) (.mov (.t 9)), .op (some 25) (.iadr 7 (.t 23) (.t 24)), .op (some 26) (.loadN 7 (.t 25)), .op (some 27) (.mov (.t 0)), .op (some 28) (.mov (.t 9)), .op (some 29) (.bin .sub (.t 28) (.k (.int .i64 1))), .op (some 30) (.iadr 7 (.t 27) (.t 29)), .op (some 31) (.loadN 7 (.t 30)), .callv (some 32) (.t 22) [.t 26, .t 31], .op (some 33) (.bin .lss (.t 32) (.k (.int .i64 0)))] (.t 33)])
     (.keep [0, 1, 2, 3, 8, 9, 34] (.cond (.t 34)
     (.skip)
     (.exit 2))))
    (.keep [0, 1, 2, 3, 8, 9] (.seq (.block 3 (.drawE [[], [], [], [], [3], [], [], [6], [5, 6, 7], [5, 6, 7, 8], [], [], [10, 11], [10, 11, 12], [0, 1, 5, 6, 7, 8, 9, 10, 11, 12, 13], [0, 1, 5, 6, 7, 8, 9, 10, 11, 12, 13, 14], [0, 1, 2, 3, 4, 5, 6, 7, 8, 9, 10, 11, 12, 13, 14, 15], [0, 1, 2, 3, 4, 5, 6, 7, 8, 9, 10, 11, 12, 13, 14, 15, 16]] [.op (some 37) (.mov (.t 0)),
      .op (some 38) (.mov (.t 9)),
      .op (some 39) (.mov (.t 0)),
      .op (some 40) (.mov (.t 9)),
      .op (some 41) (.bin .sub (.t 40) (.k (.int .i64 1))),
      .op (some 42) (.mov (.t 0)),
      .op (some 43) (.mov (.t 9)),
      .op (some 44) (.bin .sub (.t 43) (.k (.int .i64 1))),
      .op (some 45) (.iadr 7 (.t 42) (.t 44)),
      .op (some 46) (.loadN 7 (.t 45)),
      .op (some 47) (.mov (.t 0)),
      .op (some 48) (.mov (.t 9)),
      .op (some 49) (.iadr 7 (.t 47) (.t 48)),
      .op (some 50) (.loadN 7 (.t 49)),
      .op (some 51) (.iadr 7 (.t 37) (.t 38)),
      .op none (.store 7 (.t 51) (.t 46))]
      [.op (some 52) (.iadr 7 (.t 39) (.t 41)),
      .op none (.store 7 (.t 52) (.t 50))]))
    (.keep [0, 1, 2, 3, 8, 9] (.ops [.op (some 35) (.mov (.t 9)),
     .op (some 36) (.bin .sub (.t 35) (.k (.int .i64 1))),
     .op (some 9) (.mov (.t 36))]))))))))))
  (.keep [0, 1, 2, 3, 8] (.ops [.op (some 15) (.mov (.t 8)),
   .op (some 16) (.bin .add (.t 15) (.k (.int .i64 1))),
   .op (some 8) (.mov (.t 16))]))))))))
theorem k_c_insertion_fits : fitsF Try.prog 49 ⟨53, k_c_insertion, []⟩ = true := by kernel_rfl
set_option maxHeartbeats 2000000 in
theorem c_insertion {xs : List GRow} {cf : Nat} {ds : List D} (f : GRow → GRow → Int) (hl : xs.length ≤ 12) (hb : hasBody Try.prog cf = true) (hf : ∀ a ∈ xs, ∀ b ∈ xs, Con Try.prog noMv cf (a.av :: b.av :: ds.map AV.d) [] (fun r h => r = int (f a b) ∧ h = [])) : Con Try.prog noMv 49 [.osl 1000 7 0 xs.length, int 0, int xs.length, .d (.fn (.func cf) ds)] [(1000, .rows 7 (xs.map GRow.row))] (fun r h => r = .tup [] ∧ h = [(1000, .rows 7 ((sortS (fun a b => decide (f a b < 0)) xs).map GRow.row))]) := by
 refine con_of2 k_c_insertion_fits rfl fun C hP hmv => ?_
 unfold k_c_insertion
 refine cx_seq ?_
 refine cx_ops ?_
 refine ax_q (q_mov rfl) ?_
 refine ax_q (q_add rfl rfl (by omega)) ?_
 refine ax_q (q_mov rfl) ?_
 refine ax_nil ?_
 refine cx_keep rfl rfl ?_
 refine cx_block ?_
 refine cx_loopU (fun n k => 1 ≤ k ∧ k ≤ xs.length + 1 ∧ n = xs.length + 1 - k) (fun k : Nat => [(8, int k)]) (fun k => [(1000, .rows 7 ((sortS (fun a b => decide (f a b < 0)) (xs.take k) ++ xs.drop k).map GRow.row))]) ⟨_, 1, ⟨Nat.le_refl _, by omega, rfl⟩, by rw [sort_one]; exact (by repeat (first | exact trivial | refine ⟨rfl, ?_⟩ | refine ⟨?_, ?_⟩))⟩ ?_
 rintro n k ⟨hk0, hk, rfl⟩
 refine cx_seq ?_
 refine cx_seq ?_
 refine cx_ops ?_
 refine ax_q (q_mov rfl) ?_
 refine ax_q (q_mov rfl) ?_
 refine ax_q (q_ibin rfl rfl rfl) ?_
 refine ax_nil ?_
 refine cx_keep rfl rfl ?_
 refine cx_cond rfl (fun h0 => ?_) (fun h0 => ?_)
 ·
  have h0 := dT h0
  have h0x : k < xs.length := by omega
  have hS : (sortS (fun a b => decide (f a b < 0)) (xs.take k)).length = k := by rw [sortS_len, List.length_take]; omega
  have hx : xs[k] ∈ xs := List.getElem_mem h0x
  rw [sort_at h0x]
  have hrl : (xs.drop (k + 1)).length = xs.length - (k + 1) := List.length_drop
  refine cx_skip ?_
  refine cx_keep rfl rfl ?_
  refine cx_seq ?_
  refine cx_block ?_
  refine cx_seq ?_
  refine cx_ops ?_
  refine ax_q (q_mov rfl) ?_
  refine ax_q (q_mov rfl) ?_
  refine ax_nil ?_
  refine cx_keep rfl rfl ?_
  refine cx_block ?_
  refine cx_loopU (fun n j => j ≤ k ∧ j = n ∧ posI (fun a b => decide (f a b < 0)) xs[k] (sortS (fun a b => decide (f a b < 0)) (xs.take k)) k = posI (fun a b => decide (f a b < 0)) xs[k] (sortS (fun a b => decide (f a b < 0)) (xs.take k)) j) (fun j : Nat => [(9, int j)]) (fun j => [(1000, .rows 7 ((dat (sortS (fun a b => decide (f a b < 0)) (xs.take k)) xs[k] (xs.drop (k + 1)) j).map GRow.row))]) ⟨_, k, ⟨Nat.le_refl _, rfl, rfl⟩, by repeat (first | exact trivial | refine ⟨rfl, ?_⟩ | refine ⟨?_, ?_⟩)⟩ ?_
  rintro n j ⟨hj, rfl, hp⟩
  have hdl := dat_len (x := xs[k]) (rest := (xs.drop (k + 1))) (show j ≤ (sortS (fun a b => decide (f a b < 0)) (xs.take k)).length by omega)
  refine cx_seq ?_
  refine cx_seq ?_
  refine cx_draw ?_
  refine ax_q (q_mov rfl) ?_
  refine ax_q (q_mov rfl) ?_
  refine ax_q (q_ibin rfl rfl rfl) ?_
  refine ax_q (q_mov rfl) ?_
  apply ax_and rfl rfl
  ·
   intro g
   have g := dT g
   refine ax_q (q_mov rfl) ?_
   refine ax_q (q_mov rfl) ?_
   refine ax_q (q_mov rfl) ?_
   refine ax_q (q_ixoI rfl rfl (by omega) (by omega)) ?_
   refine ax_q (q_loadN_rptr rfl rfl (datAt (dat_x (by omega))) (by decide)) ?_
   refine ax_q (q_mov rfl) ?_
   refine ax_q (q_mov rfl) ?_
   refine ax_qe (r' := int ((j - 1 : Nat) : Int)) (q_ibin rfl rfl rfl) (by rw [wi (by omega) (by omega)]; exact congrArg AM.int (by omega)) ?_
   refine ax_q (q_ixoI rfl rfl (by omega) (by omega)) ?_
   refine ax_q (q_loadN_rptr (r := GRow.row ((sortS (fun a b => decide (f a b < 0)) (xs.take k)).getD (j - 1) xs[k])) rfl rfl (datAt (dat_yD (by omega) (by omega))) (by decide)) ?_
   refine ax_callvq rfl (by rw [hP]; exact hb) rfl (hf _ hx _ (sort_mem (j := j - 1) hx)) hP (lal_two rfl rfl ds) rfl ?_
   refine ax_q (q_ibin rfl rfl rfl) ?_
   exact ax_nil ⟨rfl, by repeat (first | exact trivial | refine ⟨rfl, ?_⟩ | refine ⟨?_, ?_⟩)⟩
  refine ax_nil ?_
  refine cx_keep rfl rfl ?_
  refine cx_cond rfl (fun h1 => ?_) (fun h1 => ?_)
  ·
   have h1 := (fun h => And.intro (dT (and_T h).1) (dT (and_T h).2)) h1
   obtain ⟨h1a, h1b⟩ := h1
   obtain ⟨j, rfl⟩ : ∃ j2, j = j2 + 1 := ⟨j - 1, by omega⟩
   rw [show j + 1 - 1 = j from rfl, getD_in (show j < (sortS (fun a b => decide (f a b < 0)) (xs.take k)).length by omega)] at h1b
   have hsl := dat_len (x := xs[k]) (rest := (xs.drop (k + 1))) (show j + 1 ≤ (sortS (fun a b => decide (f a b < 0)) (xs.take k)).length by omega)
   refine cx_skip ?_
   refine cx_keep rfl rfl ?_
   refine cx_seq ?_
   refine cx_block ?_
   refine cx_drawL 15 5000 (fun _ => false) (fun _ => true) [] ([(1000, .rows 7 (((dat (sortS (fun a b => decide (f a b < 0)) (xs.take k)) xs[k] (xs.drop (k + 1)) (j + 1)).set (j + 1) ((sortS (fun a b => decide (f a b < 0)) (xs.take k))[j]'(by omega))).map GRow.row))]) [[0], [9], [0], [9], [40], [0], [9], [43], [42, 44], [45], [0], [9], [47, 48], [49], [37, 38], [46, 51]] [[], [], [1000], [1000], [1000], [], [], [], [], [], [], [], [], [], [], [1000]] rfl ?_
   first | refine ⟨_, .inr ⟨rfl, _, rfl, .inl rfl, loc_q (q_mov rfl)⟩, ?_⟩
   first | refine ⟨_, .inr ⟨rfl, _, rfl, .inl rfl, loc_q (q_mov rfl)⟩, ?_⟩
   first | refine ⟨_, .inr ⟨rfl, _, rfl, .inr ⟨rfl, rfl, .inr rfl, rfl, rfl⟩, loc_q (q_mov rfl)⟩, ?_⟩
   first | refine ⟨_, .inr ⟨rfl, _, rfl, .inr ⟨rfl, rfl, .inr rfl, rfl, rfl⟩, loc_q (q_mov rfl)⟩, ?_⟩
   first | refine ⟨_, .inr ⟨rfl, _, rfl, .inr ⟨rfl, rfl, .inr rfl, rfl, rfl⟩, loc_qe (r' := int ((j : Nat) : Int)) (q_ibin rfl rfl rfl) (by rw [wi (by omega) (by omega)]; exact congrArg AM.int (by omega))⟩, ?_⟩
   first | refine ⟨_, .inr ⟨rfl, _, rfl, .inl rfl, loc_q (q_mov rfl)⟩, ?_⟩
   first | refine ⟨_, .inr ⟨rfl, _, rfl, .inl rfl, loc_q (q_mov rfl)⟩, ?_⟩
   first | refine ⟨_, .inr ⟨rfl, _, rfl, .inl rfl, loc_qe (r' := int ((j : Nat) : Int)) (q_ibin rfl rfl rfl) (by rw [wi (by omega) (by omega)]; exact congrArg AM.int (by omega))⟩, ?_⟩
   first | refine ⟨_, .inr ⟨rfl, _, rfl, .inl rfl, loc_q (q_ixo rfl rfl (by omega))⟩, ?_⟩
   first | refine ⟨_, .inr ⟨rfl, _, rfl, .inl rfl, loc_q (q_loadN_rptr (r := GRow.row ((sortS (fun a b => decide (f a b < 0)) (xs.take k))[j]'(by omega))) rfl rfl (datAt (dat_y (by omega))) (by decide))⟩, ?_⟩
   first | refine ⟨_, .inr ⟨rfl, _, rfl, .inl rfl, loc_q (q_mov rfl)⟩, ?_⟩
   first | refine ⟨_, .inr ⟨rfl, _, rfl, .inl rfl, loc_q (q_mov rfl)⟩, ?_⟩
   first | refine ⟨_, .inr ⟨rfl, _, rfl, .inl rfl, loc_q (q_ixo rfl rfl (by omega))⟩, ?_⟩
   first | refine ⟨_, .inr ⟨rfl, _, rfl, .inl rfl, loc_q (q_loadN_rptr (r := GRow.row xs[k]) rfl rfl (datAt (dat_x (by omega))) (by decide))⟩, ?_⟩
   first | refine ⟨_, .inr ⟨rfl, _, rfl, .inl rfl, loc_q (q_ixo rfl rfl (by omega))⟩, ?_⟩
   refine ⟨⟨5000, .dead, []⟩, .inl ⟨rfl, rfl, rfl, locl_str (row := GRow.row xs[k]) (q := GRow.row ((sortS (fun a b => decide (f a b < 0)) (xs.take k))[j]'(by omega))) rfl rfl rfl rfl rfl rfl (datAt (dat_x (by omega))) rfl rfl List.map_set.symm⟩, ?_⟩
   refine ⟨rfl, ?_⟩
   refine ax_q (q_ixo rfl rfl (by omega)) ?_
   refine ax_e (e_str (rs' := (((dat (sortS (fun a b => decide (f a b < 0)) (xs.take k)) xs[k] (xs.drop (k + 1)) (j + 1)).set (j + 1) ((sortS (fun a b => decide (f a b < 0)) (xs.take k))[j]'(by omega))).set j xs[k]).map GRow.row) (row := GRow.row ((sortS (fun a b => decide (f a b < 0)) (xs.take k))[j]'(by omega))) (q := GRow.row xs[k]) rfl rfl rfl rfl rfl rfl (datAt (by rw [List.getElem?_set_ne (by omega)]; exact dat_y (by omega))) rfl rfl List.map_set.symm) ?_
   refine ax_nil ?_
   refine cx_keep rfl rfl ?_
   refine cx_ops ?_
   refine ax_q (q_mov rfl) ?_
   refine ax_qe (r' := int ((j : Nat) : Int)) (q_ibin rfl rfl rfl) (by rw [wi (by omega) (by omega)]; exact congrArg AM.int (by omega)) ?_
   refine ax_q (q_mov rfl) ?_
   refine ax_nil ?_
   exact ⟨_, j, by omega, ⟨by omega, rfl, by rw [hp]; exact posI_t (by omega) (decide_eq_true h1b)⟩, by rw [← dat_step (show j + 1 ≤ (sortS (fun a b => decide (f a b < 0)) (xs.take k)).length by omega)]; exact (by repeat (first | exact trivial | refine ⟨rfl, ?_⟩ | refine ⟨?_, ?_⟩))⟩
  ·
   have h1 := (fun h => (and_F h).imp dF dF) h1
   have ej : posI (fun a b => decide (f a b < 0)) xs[k] (sortS (fun a b => decide (f a b < 0)) (xs.take k)) k = j := by
    rw [hp]
    cases j with
    | zero => rfl
    | succ j =>
     rcases h1 with h | h
     ·
      exact absurd (show ((0 : Int)) < ((j + 1 : Nat) : Int) by omega) h
     ·
      rw [show j + 1 - 1 = j from rfl, getD_in (show j < (sortS (fun a b => decide (f a b < 0)) (xs.take k)).length by omega)] at h
      exact posI_f (by omega) (decide_eq_false h)
   refine cx_exit rfl ?_
   refine cx_keep rfl rfl ?_
   refine cx_ops ?_
   refine ax_q (q_mov rfl) ?_
   refine ax_qe (r' := int ((k + 1 : Nat) : Int)) (q_ibin rfl rfl rfl) (by rw [wi (by omega) (by omega)]; rfl) ?_
   refine ax_q (q_mov rfl) ?_
   refine ax_nil ?_
   exact ⟨_, k + 1, by omega, ⟨by omega, by omega, rfl⟩, by rw [← sort_to h0x ej]; exact (by repeat (first | exact trivial | refine ⟨rfl, ?_⟩ | refine ⟨?_, ?_⟩))⟩
 ·
  have h0 := dF h0
  rw [List.take_of_length_le (show xs.length ≤ k by omega), List.drop_of_length_le (show xs.length ≤ k by omega), List.append_nil]
  refine cx_exit rfl ?_
  refine retN id [1000] rfl rfl rfl rfl rfl ?_
  exact ⟨rfl, rfl⟩


/- math/bits.Len64 -/
def k_c_Len64 : XCode :=
 .seq (.ops [.op (some 2) (.mov (.k (.int .i64 0)))])
 (.keep [0, 2] (.seq (.seq (.ops [.op (some 3) (.mov (.t 0)),
   .op (some 4) (.bin .geq (.t 3) (.k (.int .u64 4294967296)))])
  (.keep [0, 2, 4] (.cond (.t 4)
  (.seq (.ops [.op (some 5) (.mov (.t 0)),
    .op (some 6) (.bin .shr (.t 5) (.k (.int .u64 32))),
    .op (some 0) (.mov (.t 6))])
   (.keep [0] (.ops [.op (some 2) (.mov (.k (.int .i64 32)))])))
  (.skip))))
 (.keep [0, 2] (.seq (.seq (.ops [.op (some 7) (.mov (.t 0)),
   .op (some 8) (.bin .geq (.t 7) (.k (.int .u64 65536)))])
  (.keep [0, 2, 8] (.cond (.t 8)
  (.seq (.ops [.op (some 9) (.mov (.t 0)),
    .op (some 10) (.bin .shr (.t 9) (.k (.int .u64 16))),
    .op (some 0) (.mov (.t 10))])
   (.keep [0, 2] (.ops [.op (some 11) (.mov (.t 2)),
    .op (some 12) (.bin .add (.t 11) (.k (.int .i64 16))),
    .op (some 2) (.mov (.t 12))])))
  (.skip))))
 (.keep [0, 2] (.seq (.seq (.ops [.op (some 13) (.mov (.t 0)),
   .op (some 14) (.bin .geq (.t 13) (.k (.int .u64 256)))])
  (.keep [0, 2, 14] (.cond (.t 14)
  (.seq (.ops [.op (some 15) (.mov (.t 0)),
    .op (some 16) (.bin .shr (.t 15) (.k (.int .u64 8))),
    .op (some 0) (.mov (.t 16))])
   (.keep [0, 2] (.ops [.op (some 17) (.mov (.t 2)),
    .op (some 18) (.bin .add (.t 17) (.k (.int .i64 8))),
    .op (some 2) (.mov (.t 18))])))
  (.skip))))
 (.keep [0, 2] (.seq (.ops [.op (some 19) (.mov (.t 2)),
   .op (some 20) (.mov (.t 0)),
   .op (some 21) (.conv .u8 (.t 20)),
   .op (some 22) (.idxS (.k (.str [0, 1, 2, 2, 3, 3, 3, 3, 4, 4, 4, 4, 4, 4, 4, 4, 5, 5, 5, 5, 5, 5, 5, 5, 5, 5, 5, 5, 5, 5, 5, 5, 6, 6, 6, 6, 6, 6, 6, 6, 6, 6, 6, 6, 6, 6, 6, 6, 6, 6, 6, 6, 6, 6, 6, 6, 6, 6, 6, 6, 6, 6, 6, 6, 7, 7, 7, 7, 7, 7, 7, 7, 7, 7, 7, 7, 7, 7, 7, 7, 7, 7, 7, 7, 7, 7, 7, 7, 7, 7, 7, 7, 7, 7, 7, 7, 7, 7, 7, 7, 7, 7, 7, 7, 7, 7, 7, 7, 7, 7, 7, 7, 7, 7, 7, 7, 7, 7, 7, 7, 7, 7, 7, 7, 7, 7, 7, 7, 8, 8, 8, 8, 8, 8, 8, 8, 8, 8, 8, 8, 8, 8, 8, 8, 8, 8, 8, 8, 8, 8, 8, 8, 8, 8, 8, 8, 8, 8, 8, 8, 8, 8, 8, 8, 8, 8, 8, 8, 8, 8, 8, 8, 8, 8, 8, 8, 8, 8, 8, 8, 8, 8, 8, 8, 8, 8, 8, 8, 8, 8, 8, 8, 8, 8, 8, 8, 8, 8, 8, 8, 8, 8, 8, 8, 8, 8, 8, 8, 8, 8, 8, 8, 8, 8, 8, 8, 8, 8, 8, 8, 8, 8, 8, 8, 8, 8, 8, 8, 8, 8, 8, 8, 8, 8, 8, 8, 8, 8, 8, 8, 8, 8, 8, 8, 8, 8, 8, 8, 8, 8, 8, 8, 8, 8, 8, 8])) (.t 21)),
   .op (some 23) (.conv .i64 (.t 22)),
   .op (some 24) (.bin .add (.t 19) (.t 23)),
   .op (some 2) (.mov (.t 24))])
 (.keep [2] (.ret))))))))))
theorem k_c_Len64_fits : fitsF Try.prog 58 ⟨25, k_c_Len64, [.t 2]⟩ = true := by kernel_rfl
theorem c_Len64 {n : Nat} (hn : n ≤ 12) : Con Try.prog noMv 58 [.d (.int .u64 (n : Int))] [] (fun r h => (∃ m : Int, 0 ≤ m ∧ m ≤ 255 ∧ r = int m) ∧ h = []) := by
 refine con_of2 k_c_Len64_fits rfl fun C hP hmv => ?_
 unfold k_c_Len64
 refine cx_seq ?_
 refine cx_ops ?_
 refine ax_q (q_mov rfl) ?_
 refine ax_nil ?_
 refine cx_keep rfl rfl ?_
 refine cx_seq ?_
 refine cx_seq ?_
 refine cx_ops ?_
 refine ax_q (q_mov rfl) ?_
 refine ax_q (q_ibin rfl rfl rfl) ?_
 refine ax_nil ?_
 refine cx_keep rfl rfl ?_
 refine cx_cond rfl (fun h0 => ?_) (fun h0 => ?_)
 ·
  have h0 := dT h0
  exfalso; omega
 ·
  have h0 := dF h0
  refine cx_skip ?_
  refine cx_keep rfl rfl ?_
  refine cx_seq ?_
  refine cx_seq ?_
  refine cx_ops ?_
  refine ax_q (q_mov rfl) ?_
  refine ax_q (q_ibin rfl rfl rfl) ?_
  refine ax_nil ?_
  refine cx_keep rfl rfl ?_
  refine cx_cond rfl (fun h1 => ?_) (fun h1 => ?_)
  ·
   have h1 := dT h1
   exfalso; omega
  ·
   have h1 := dF h1
   refine cx_skip ?_
   refine cx_keep rfl rfl ?_
   refine cx_seq ?_
   refine cx_seq ?_
   refine cx_ops ?_
   refine ax_q (q_mov rfl) ?_
   refine ax_q (q_ibin rfl rfl rfl) ?_
   refine ax_nil ?_
   refine cx_keep rfl rfl ?_
   refine cx_cond rfl (fun h2 => ?_) (fun h2 => ?_)
   ·
    have h2 := dT h2
    exfalso; omega
   ·
    have h2 := dF h2
    refine cx_skip ?_
    refine cx_keep rfl rfl ?_
    refine cx_seq ?_
    refine cx_ops ?_
    refine ax_q (q_mov rfl) ?_
    refine ax_q (q_mov rfl) ?_
    refine ax_qe (r' := .d (.int .u8 (n : Int))) (q_convU8 rfl) (by rw [AM.byteOf_nat, Int.emod_eq_of_lt (by omega) (by omega)]) ?_
    refine ax_q (q_idxN rfl rfl (show n < 256 by omega)) ?_
    refine ax_q (q_convB rfl) ?_
    refine ax_q (q_addB rfl rfl) ?_
    refine ax_q (q_mov rfl) ?_
    refine ax_nil ?_
    refine cx_keep rfl rfl ?_
    refine cx_ret (ret0 rfl rfl ?_)
    exact ⟨bnd_u8 _, rfl⟩


/- math/bits.Len -/
def k_c_Len : XCode :=
 .seq (.ops [.op (some 2) (.mov (.k (.int .i64 0)))])
 (.keep [0] (.seq (.cond (.k (.bool false))
  (.seq (.ops [.op (some 3) (.mov (.t 0)),
    .op (some 4) (.conv .u32 (.t 3)),
    .call (some 5) 57 [.t 4],
    .op (some 2) (.mov (.t 5))])
   (.keep [2] (.ret)))
  (.skip))
 (.keep [0] (.seq (.ops [.op (some 6) (.mov (.t 0)),
   .call (some 7) 58 [.t 6],
   .op (some 2) (.mov (.t 7))])
 (.keep [2] (.ret))))))
theorem k_c_Len_fits : fitsF Try.prog 43 ⟨8, k_c_Len, [.t 2]⟩ = true := by kernel_rfl
theorem c_Len {n : Nat} (hn : n ≤ 12) : Con Try.prog noMv 43 [.d (.int .u64 (n : Int))] [] (fun r h => (∃ m : Int, 0 ≤ m ∧ m ≤ 255 ∧ r = int m) ∧ h = []) := by
 refine con_of2 k_c_Len_fits rfl fun C hP hmv => ?_
 unfold k_c_Len
 refine cx_seq ?_
 refine cx_ops ?_
 refine ax_q (q_mov rfl) ?_
 refine ax_nil ?_
 refine cx_keep rfl rfl ?_
 refine cx_seq ?_
 refine cx_cond rfl (fun h0 => ?_) (fun h0 => ?_)
 ·
  skip
  exact absurd h0 Bool.false_ne_true
 ·
  skip
  refine cx_skip ?_
  refine cx_keep rfl rfl ?_
  refine cx_seq ?_
  refine cx_ops ?_
  refine ax_q (q_mov rfl) ?_
  refine ax_call rfl (vc_pure (c_Len64 hn) hP rfl ?_)
  rintro r h ⟨⟨m, hm0, hm1, rfl⟩, rfl⟩
  refine ⟨id, [], ⟨rfl, rfl, rfl, rfl, rfl, fun h => absurd h Bool.false_ne_true⟩, ?_⟩
  refine ax_q (q_mov rfl) ?_
  refine ax_nil ?_
  refine cx_keep rfl rfl ?_
  refine cx_ret (ret0 rfl rfl ?_)
  exact ⟨⟨m, hm0, hm1, rfl⟩, rfl⟩


/- slices.pdqsortCmpFunc[loop.example/g00332/impl.Row] -/
def k_c_pdq : XCode :=
 .seq (.ops [.op (some 10) (.mov (.k (.bool true)))])
 (.keep [0, 1, 2, 3, 4, 10] (.seq (.ops [.op (some 11) (.mov (.k (.bool true)))])
 (.keep [0, 1, 2, 3, 4, 10, 11] (.block 0 (.loop (.block 1 (.seq (.ops [.op (some 21) (.mov (.t 2)),
    .op (some 22) (.mov (.t 1)),
    .op (some 23) (.bin .sub (.t 21) (.t 22)),
    .op (some 12) (.mov (.t 23))])
   (.keep [0, 1, 2, 3, 4, 10, 11, 12] (.seq (.seq (.ops [.op (some 24) (.mov (.t 12)),
     .op (some 25) (.bin .leq (.t 24) (.k (.int .i64 12)))])
   (.keep [0, 1, 2, 3, 4, 10, 11, 12, 25] (.cond (.t 25)
    (.seq (.ops [.op (some 26) (.mov (.t 0)),
      .op (some 27) (.mov (.t 1)),
      .op (some 28) (.mov (.t 2)),
      .op (some 29) (.mov (.t 4)),
      .call (some 30) 49 [.t 26, .t 27, .t 28, .t 29]])
    (.keep [] (.ret)))
    (.skip))))
   (.keep [0, 1, 2, 3, 4, 10, 11, 12] (.seq (.seq (.ops [.op (some 31) (.mov (.t 3)),
     .op (some 32) (.bin .eql (.t 31) (.k (.int .i64 0)))])
   (.keep [0, 1, 2, 3, 4, 10, 11, 12, 32] (.cond (.t 32)
    (.seq (.ops [.op (some 33) (.mov (.t 0)),
      .op (some 34) (.mov (.t 1)),
      .op (some 35) (.mov (.t 2)),
      .op (some 36) (.mov (.t 4)),
      .call (some 37) 50 [.t 33, .t 34, .t 35, .t 36]])
    (.keep [] (.ret)))
    (.skip))))
   (.keep [0, 1, 2, 3, 4, 10, 11, 12] (.seq (.seq (.ops [.op (some 38) (.mov (.t 10)),
     .op (some 39) (.not (.t 38))])
   (.keep [0, 1, 2, 3, 4, 10, 11, 12, 39] (.cond (.t 39)
    (.seq (.ops [.op (some 40) (.mov (.t 0)),
      .op (some 41) (.mov (.t 1)),
      .op (some 42) (.mov (.t 2)),
      .op (some 43) (.mov (.t 4)),
      .call (some 44) 51 [.t 40, .t 41, .t 42, .t 43]])
    (.keep [0, 1, 2, 3, 4, 10, 11, 12] (.ops [.op (some 45) (.mov (.t 3)),
     .op (some 46) (.bin .sub (.t 45) (.k (.int .i64 1))),
     .op (some 3) (.mov (.t 46))])))
    (.skip))))
   (.keep [0, 1, 2, 3, 4, 10, 11, 12] (.seq (.ops [.op (some 48) (.mov (.t 0)),
    .op (some 49) (.mov (.t 1)),
    .op (some 50) (.mov (.t 2)),
    .op (some 51) (.mov (.t 4)),
    .call (some 52) 52 [.t 48, .t 49, .t 50, .t 51],
    .op (some 47) (.mov (.t 52)),
    .op (some 53) (.ext (.t 47) 0),
    .op (some 54) (.ext (.t 47) 1),
    .op (some 13) (.mov (.t 53)),
    .op (some 14) (.mov (.t 54))])
   (.keep [0, 1, 2, 3, 4, 10, 11, 12, 13, 14] (.seq (.seq (.ops [.op (some 55) (.mov (.t 14)),
     .op (some 56) (.bin .eql (.t 55) (.k (.int .i64 2)))])
   (.keep [0, 1, 2, 3, 4, 10, 11, 12, 13, 14, 56] (.cond (.t 56)
    (.seq (.ops [.op (some 57) (.mov (.t 0)),
      .op (some 58) (.mov (.t 1)),
      .op (some 59) (.mov (.t 2)),
      .op (some 60) (.mov (.t 4)),
      .call (some 61) 53 [.t 57, .t 58, .t 59, .t 60]])
    (.keep [0, 1, 2, 3, 4, 10, 11, 12, 13] (.seq (.ops [.op (some 62) (.mov (.t 2)),
      .op (some 63) (.bin .sub (.t 62) (.k (.int .i64 1))),
      .op (some 64) (.mov (.t 13)),
      .op (some 65) (.mov (.t 1)),
      .op (some 66) (.bin .sub (.t 64) (.t 65)),
      .op (some 67) (.bin .sub (.t 63) (.t 66)),
      .op (some 13) (.mov (.t 67))])
    (.keep [0, 1, 2, 3, 4, 10, 11, 12, 13] (.ops [.op (some 14) (.mov (.k (.int .i64 1)))])))))
    (.skip))))
   (.keep [0, 1, 2, 3, 4, 10, 11, 12, 13, 14] (.seq (.seq (.ops [.op (some 68) (.mov (.t 10)),
     .op (some 69) (.mov (.t 68)),
     .andor 71 true 1 69 [.op (some 70) (.mov (.t 11))] (.t 70),
     .op (some 72) (.mov (.t 71)),
     .andor 75 true 4 72 [.op (some 73) (.mov (.t 14)), .op (some 74) (.bin .eql (.t 73) (.k (.int .i64 1)))] (.t 74)])
   (.keep [0, 1, 2, 3, 4, 10, 11, 12, 13, 75] (.cond (.t 75)
    (.seq (.ops [.op (some 76) (.mov (.t 0)),
      .op (some 77) (.mov (.t 1)),
      .op (some 78) (.mov (.t 2)),
      .op (some 79) (.mov (.t 4)),
      .call (some 80) 54 [.t 76, .t 77, .t 78, .t 79]])
    (.keep [0, 1, 2, 3, 4, 10, 11, 12, 13, 80] (.cond (.t 80)
     (.ret)
     (.skip))))
    (.skip))))
   (.keep [0, 1, 2, 3, 4, 10, 11, 12, 13] (.seq (.seq (.draw [.op (some 81) (.mov (.t 1)),
     .op (some 82) (.bin .gtr (.t 81) (.k (.int .i64 0))),
     .op (some 83) (.mov (.t 82)),
     .andor 97 true 2 83 [.op (some 84) (.mov (.t 4)), .op (some 85) (.mov (.t 0)), .op (some 86) (.mov (.t 1)), .op (some 87) (.bin .sub (.t 86) (.k (.int .i64 1))), .op (some 88) (.iadr 7 (.t 85) (.t 87)), .op (some 89) (.loadN 7 (.t 88)), .op (some 90) (.mov (.t 0)), .op (some 91) (.mov (.t 13)), .op (some 92) (.iadr 7 (.t 90) (.t 91)), .op (some 93) (.loadN 7 (.t 92)), .callv (some 94) (.t 84) [.t 89, .t 93], .op (some 95) (.bin .lss (.t 94) (.k (.int .i64 0))), .op (some 96) (.not (.t 95))] (.t 96)])
   (.keep [0, 1, 2, 3, 4, 10, 11, 12, 13, 97] (.cond (.t 97)
    (.seq (.ops [.op (some 98) (.mov (.t 0)),
      .op (some 99) (.mov (.t 1)),
      .op (some 100) (.mov (.t 2)),
      .op (some 101) (.mov (.t 13)),
      .op (some 102) (.mov (.t 4)),
      .call (some 103) 55 [.t 98, .t 99, .t 100, .t 101, .t 102],
      .op (some 15) (.mov (.t 103))])
    (.keep [0, 2, 3, 4, 10, 11, 15] (.seq (.ops [.op (some 104) (.mov (.t 15)),
      .op (some 1) (.mov (.t 104))])
    (.keep [0, 1, 2, 3, 4, 10, 11] (.exit 1)))))
    (.skip))))
   (.keep [0, 1, 2, 3, 4, 12, 13] (.seq (.ops [.op (some 106) (.mov (.t 0)),
    .op (some 107) (.mov (.t 1)),
    .op (some 108) (.mov (.t 2)),
    .op (some 109) (.mov (.t 13)),
    .op (some 110) (.mov (.t 4)),
    .call (some 111) 56 [.t 106, .t 107, .t 108, .t 109, .t 110],
    .op (some 105) (.mov (.t 111)),
    .op (some 112) (.ext (.t 105) 0),
    .op (some 113) (.ext (.t 105) 1),
    .op (some 16) (.mov (.t 112)),
    .op (some 17) (.mov (.t 113))])
   (.keep [0, 1, 2, 3, 4, 12, 16, 17] (.seq (.ops [.op (some 114) (.mov (.t 17)),
    .op (some 11) (.mov (.t 114))])
   (.keep [0, 1, 2, 3, 4, 11, 12, 16] (.seq (.ops [.op (some 115) (.mov (.t 16)),
    .op (some 116) (.mov (.t 1)),
    .op (some 117) (.bin .sub (.t 115) (.t 116)),
    .op (some 118) (.mov (.t 2)),
    .op (some 119) (.mov (.t 16)),
    .op (some 120) (.bin .sub (.t 118) (.t 119)),
    .op (some 18) (.mov (.t 117)),
    .op (some 19) (.mov (.t 120))])
   (.keep [0, 1, 2, 3, 4, 11, 12, 16, 18, 19] (.seq (.ops [.op (some 121) (.mov (.t 12)),
    .op (some 122) (.bin .quo (.t 121) (.k (.int .i64 8))),
    .op (some 20) (.mov (.t 122))])
   (.keep [0, 1, 2, 3, 4, 11, 16, 18, 19, 20] (.seq (.ops [.op (some 123) (.mov (.t 18)),
    .op (some 124) (.mov (.t 19)),
    .op (some 125) (.bin .lss (.t 123) (.t 124))])
   (.keep [0, 1, 2, 3, 4, 11, 16, 18, 19, 20, 125] (.cond (.t 125)
   (.seq (.ops [.op (some 126) (.mov (.t 18)),
     .op (some 127) (.mov (.t 20)),
     .op (some 128) (.bin .geq (.t 126) (.t 127)),
     .op (some 10) (.mov (.t 128))])
    (.keep [0, 1, 2, 3, 4, 10, 11, 16] (.seq (.ops [.op (some 129) (.mov (.t 0)),
     .op (some 130) (.mov (.t 1)),
     .op (some 131) (.mov (.t 16)),
     .op (some 132) (.mov (.t 3)),
     .op (some 133) (.mov (.t 4)),
     .call (some 134) 42 [.t 129, .t 130, .t 131, .t 132, .t 133]])
    (.keep [0, 2, 3, 4, 10, 11, 16] (.ops [.op (some 135) (.mov (.t 16)),
     .op (some 136) (.bin .add (.t 135) (.k (.int .i64 1))),
     .op (some 1) (.mov (.t 136))])))))
   (.seq (.ops [.op (some 137) (.mov (.t 19)),
     .op (some 138) (.mov (.t 20)),
     .op (some 139) (.bin .geq (.t 137) (.t 138)),
     .op (some 10) (.mov (.t 139))])
    (.keep [0, 1, 2, 3, 4, 10, 11, 16] (.seq (.ops [.op (some 140) (.mov (.t 0)),
     .op (some 141) (.mov (.t 16)),
     .op (some 142) (.bin .add (.t 141) (.k (.int .i64 1))),
     .op (some 143) (.mov (.t 2)),
     .op (some 144) (.mov (.t 3)),
     .op (some 145) (.mov (.t 4)),
     .call (some 146) 42 [.t 140, .t 142, .t 143, .t 144, .t 145]])
    (.keep [0, 1, 3, 4, 10, 11, 16] (.ops [.op (some 147) (.mov (.t 16)),
     .op (some 2) (.mov (.t 147))]))))))))))))))))))))))))))))))))))))))
theorem k_c_pdq_fits : fitsF Try.prog 42 ⟨148, k_c_pdq, []⟩ = true := by kernel_rfl
theorem c_pdq {m : Int} {xs : List GRow} {cf : Nat} {ds : List D} (f : GRow → GRow → Int) (hl : xs.length ≤ 12) (hb : hasBody Try.prog cf = true) (hf : ∀ a ∈ xs, ∀ b ∈ xs, Con Try.prog noMv cf (a.av :: b.av :: ds.map AV.d) [] (fun r h => r = int (f a b) ∧ h = [])) : Con Try.prog noMv 42 [.osl 1000 7 0 xs.length, int 0, int xs.length, int m, .d (.fn (.func cf) ds)] [(1000, .rows 7 (xs.map GRow.row))] (fun r h => r = .tup [] ∧ h = [(1000, .rows 7 ((sortS (fun a b => decide (f a b < 0)) xs).map GRow.row))]) := by
 refine con_of2 k_c_pdq_fits rfl fun C hP hmv => ?_
 unfold k_c_pdq
 refine cx_seq ?_
 refine cx_ops ?_
 refine ax_q (q_mov rfl) ?_
 refine ax_nil ?_
 refine cx_keep rfl rfl ?_
 refine cx_seq ?_
 refine cx_ops ?_
 refine ax_q (q_mov rfl) ?_
 refine ax_nil ?_
 refine cx_keep rfl rfl ?_
 refine cx_block ?_
 refine cx_loopU (fun n (_ : Unit) => n = 0) (fun _ => []) (fun _ => [(1000, .rows 7 (xs.map GRow.row))]) ⟨_, (), rfl, by repeat (first | exact trivial | refine ⟨rfl, ?_⟩ | refine ⟨?_, ?_⟩)⟩ ?_
 rintro n u rfl
 refine cx_block ?_
 refine cx_seq ?_
 refine cx_ops ?_
 refine ax_q (q_mov rfl) ?_
 refine ax_q (q_mov rfl) ?_
 refine ax_q (q_sub rfl rfl (by omega)) ?_
 refine ax_q (q_mov rfl) ?_
 refine ax_nil ?_
 refine cx_keep rfl rfl ?_
 refine cx_seq ?_
 refine cx_seq ?_
 refine cx_ops ?_
 refine ax_q (q_mov rfl) ?_
 refine ax_q (q_ibin rfl rfl rfl) ?_
 refine ax_nil ?_
 refine cx_keep rfl rfl ?_
 refine cx_cond rfl (fun h0 => ?_) (fun h0 => ?_)
 ·
  have h0 := dT h0
  refine cx_seq ?_
  refine cx_ops ?_
  refine ax_q (q_mov rfl) ?_
  refine ax_q (q_mov rfl) ?_
  refine ax_q (q_mov rfl) ?_
  refine ax_q (q_mov rfl) ?_
  refine ax_call rfl (vcall_own (c_insertion (xs := xs) (cf := cf) (ds := ds) f hl hb hf) hP hmv false (fun _ => 1000) [1000] ⟨rfl, rfl, rfl, rfl, ⟨rfl, trivial⟩, rfl, rfl, rfl⟩ (.pass rfl rfl (.pass rfl rfl (.pass rfl rfl (.pass rfl rfl .nil)))) ?_)
  rintro r h ⟨rfl, rfl⟩
  refine ⟨fun _ => 1000, [], ⟨rfl, rfl, rfl, rfl, mem1 rfl, rfl, rfl, fun h => absurd h Bool.false_ne_true⟩, ?_⟩
  refine ax_nil ?_
  refine cx_keep rfl rfl ?_
  refine cx_ret (retN id [1000] rfl rfl rfl rfl rfl ?_)
  exact ⟨rfl, rfl⟩
 ·
  have h0 := dF h0
  exfalso; omega


/- slices.SortFunc[[]loop.example/g00332/impl.Row,loop.example/g00332/impl.Row] -/
def k_c_SortFunc : XCode :=
 .seq (.ops [.op (some 5) (.mov (.t 0)),
   .op (some 6) (.lenS (.t 5)),
   .op (some 4) (.mov (.t 6))])
 (.keep [0, 1, 4] (.ops [.op (some 7) (.mov (.t 0)),
  .op (some 8) (.mov (.t 4)),
  .op (some 9) (.mov (.t 4)),
  .op (some 10) (.conv .u64 (.t 9)),
  .call (some 11) 43 [.t 10],
  .op (some 12) (.mov (.t 1)),
  .call (some 13) 42 [.t 7, .k (.int .i64 0), .t 8, .t 11, .t 12]]))
theorem k_c_SortFunc_fits : fitsF Try.prog 30 ⟨14, k_c_SortFunc, []⟩ = true := by kernel_rfl
theorem c_SortFunc {xs : List GRow} {cf : Nat} {ds : List D} (f : GRow → GRow → Int) (hl : xs.length ≤ 12) (hb : hasBody Try.prog cf = true) (hf : ∀ a ∈ xs, ∀ b ∈ xs, Con Try.prog noMv cf (a.av :: b.av :: ds.map AV.d) [] (fun r h => r = int (f a b) ∧ h = [])) : Con Try.prog noMv 30 [.osl 1000 7 0 xs.length, .d (.fn (.func cf) ds)] [(1000, .rows 7 (xs.map GRow.row))] (fun r h => r = .tup [] ∧ h = [(1000, .rows 7 ((sortS (fun a b => decide (f a b < 0)) xs).map GRow.row))]) := by
 refine con_of2 k_c_SortFunc_fits rfl fun C hP hmv => ?_
 unfold k_c_SortFunc
 refine cx_seq ?_
 refine cx_ops ?_
 refine ax_q (q_mov rfl) ?_
 first | refine ax_q (q_lenS_map rfl) ?_ | refine ax_q (q_lenS_osl rfl) ?_
 refine ax_q (q_mov rfl) ?_
 refine ax_nil ?_
 refine cx_keep rfl rfl ?_
 refine cx_ops ?_
 refine ax_q (q_mov rfl) ?_
 refine ax_q (q_mov rfl) ?_
 refine ax_q (q_mov rfl) ?_
 refine ax_qe (r' := .d (.int .u64 (xs.length : Int))) (q_conv rfl) (u64_of (by omega)) ?_
 refine ax_call rfl (vc_pure (c_Len (n := xs.length) hl) hP rfl ?_)
 rintro r h ⟨⟨m, hm0, hm1, rfl⟩, rfl⟩
 refine ⟨id, [], ⟨rfl, rfl, rfl, rfl, rfl, fun h => absurd h Bool.false_ne_true⟩, ?_⟩
 refine ax_q (q_mov rfl) ?_
 refine ax_call rfl (vcall_own (c_pdq (xs := xs) (m := m) (cf := cf) (ds := ds) f hl hb hf) hP hmv false (fun _ => 1000) [1000] ⟨rfl, rfl, rfl, rfl, ⟨rfl, trivial⟩, rfl, rfl, rfl⟩ (.pass rfl rfl (.pass rfl rfl (.pass rfl rfl (.pass rfl rfl (.pass rfl rfl .nil))))) ?_)
 rintro r h ⟨rfl, rfl⟩
 refine ⟨fun _ => 1000, [], ⟨rfl, rfl, rfl, rfl, mem1 rfl, rfl, rfl, fun h => absurd h Bool.false_ne_true⟩, ?_⟩
 refine ax_nil ?_
 refine retN id [1000] rfl rfl rfl rfl rfl ?_
 exact ⟨rfl, rfl⟩


/- cmp.Or[int] -/
def k_c_Or : XCode :=
 .seq (.ops [.op (some 2) (.mov (.k (.int .i64 0)))])
 (.keep [0] (.seq (.ops [.op (some 3) (.mov (.k (.int .i64 0)))])
 (.keep [0, 3] (.seq (.seq (.ops [.op (some 6) (.mov (.t 0)),
   .op (some 7) (.lenS (.t 6)),
   .op (some 8) (.mov (.k (.int .i64 0)))])
  (.keep [3, 6, 7, 8] (.block 0 (.loop (.seq (.ops [.op (some 9) (.bin .lss (.t 8) (.t 7))])
   (.keep [3, 6, 7, 8, 9] (.seq (.cond (.t 9)
    (.skip)
    (.exit 0))
   (.keep [3, 6, 7, 8] (.seq (.block 1 (.seq (.ops [.op (some 10) (.iadr 1 (.t 6) (.t 8)),
     .op (some 11) (.load1 (.t 10)),
     .op (some 5) (.mov (.t 11))])
    (.keep [3, 5, 6, 7, 8] (.seq (.ops [.op (some 12) (.mov (.t 5)),
     .op (some 13) (.mov (.t 3)),
     .op (some 14) (.bin .neq (.t 12) (.t 13))])
    (.keep [3, 5, 6, 7, 8, 14] (.cond (.t 14)
    (.seq (.ops [.op (some 15) (.mov (.t 5)),
      .op (some 2) (.mov (.t 15))])
     (.keep [2] (.ret)))
    (.skip)))))))
   (.keep [3, 6, 7, 8] (.ops [.op (some 16) (.bin .add (.t 8) (.k (.int .i64 1))),
    .op (some 8) (.mov (.t 16))])))))))))))
 (.keep [3] (.seq (.ops [.op (some 17) (.mov (.t 3)),
   .op (some 2) (.mov (.t 17))])
 (.keep [2] (.ret))))))))
theorem k_c_Or_fits : fitsF Try.prog 32 ⟨18, k_c_Or, [.t 2]⟩ = true := by kernel_rfl
theorem c_Or {xs : List Int} (hl : xs.length ≤ 1000) : Con Try.prog noMv 32 [.d (.sl 1 (xs.map intRow))] [] (fun r h => r = int (orF xs) ∧ h = []) := by
 refine con_of2 k_c_Or_fits rfl fun C hP hmv => ?_
 unfold k_c_Or
 refine cx_seq ?_
 refine cx_ops ?_
 refine ax_q (q_mov rfl) ?_
 refine ax_nil ?_
 refine cx_keep rfl rfl ?_
 refine cx_seq ?_
 refine cx_ops ?_
 refine ax_q (q_mov rfl) ?_
 refine ax_nil ?_
 refine cx_keep rfl rfl ?_
 refine cx_seq ?_
 refine cx_seq ?_
 refine cx_ops ?_
 refine ax_q (q_mov rfl) ?_
 refine ax_q (q_lenS_map rfl) ?_
 refine ax_q (q_mov rfl) ?_
 refine ax_nil ?_
 refine cx_keep rfl rfl ?_
 refine cx_block ?_
 refine cx_loopU (fun n k => k ≤ xs.length ∧ n = xs.length - k ∧ ∀ j, j < k → ∀ x, xs[j]? = some x → x = 0) (fun k : Nat => [(8, int k)]) (fun _ => []) ⟨_, 0, ⟨Nat.zero_le _, rfl, fun j hj => by omega⟩, by repeat (first | exact trivial | refine ⟨rfl, ?_⟩ | refine ⟨?_, ?_⟩)⟩ ?_
 rintro n k ⟨hk, rfl, hb⟩
 refine cx_seq ?_
 refine cx_ops ?_
 refine ax_q (q_ibin rfl rfl rfl) ?_
 refine ax_nil ?_
 refine cx_keep rfl rfl ?_
 refine cx_seq ?_
 refine cx_cond rfl (fun h0 => ?_) (fun h0 => ?_)
 ·
  have h0 := dT h0
  have h0x : k < xs.length := by omega
  refine cx_skip ?_
  refine cx_keep rfl rfl ?_
  refine cx_seq ?_
  refine cx_block ?_
  refine cx_seq ?_
  refine cx_ops ?_
  first | refine ax_q (q_ix rfl rfl (by assumption)) ?_ | refine ax_q (q_ix rfl rfl (mapAt (by first | assumption | omega))) ?_
  first | refine ax_q (q_load1_ptr rfl rfl rfl) ?_ | refine ax_q (q_load1_ip rfl) ?_
  refine ax_q (q_mov rfl) ?_
  refine ax_nil ?_
  refine cx_keep rfl rfl ?_
  refine cx_seq ?_
  refine cx_ops ?_
  refine ax_q (q_mov rfl) ?_
  refine ax_q (q_mov rfl) ?_
  refine ax_q (q_ibin rfl rfl rfl) ?_
  refine ax_nil ?_
  refine cx_keep rfl rfl ?_
  refine cx_cond rfl (fun h1 => ?_) (fun h1 => ?_)
  ·
   have h1 := nT h1
   refine cx_seq ?_
   refine cx_ops ?_
   refine ax_q (q_mov rfl) ?_
   refine ax_q (q_mov rfl) ?_
   refine ax_nil ?_
   refine cx_keep rfl rfl ?_
   refine cx_ret (ret0 rfl rfl ?_)
   exact ⟨by rw [orF_hit h0x hb h1]; rfl, rfl⟩
  ·
   have h1 := nF h1
   refine cx_skip ?_
   refine cx_keep rfl rfl ?_
   refine cx_ops ?_
   refine ax_qe (r' := int ((k + 1 : Nat) : Int)) (q_ibin rfl rfl rfl) (by rw [wi (by omega) (by omega)]; rfl) ?_
   refine ax_q (q_mov rfl) ?_
   refine ax_nil ?_
   exact ⟨_, k + 1, by omega, ⟨by omega, rfl, fun j hj x hx => by
    rcases Nat.lt_succ_iff_lt_or_eq.1 hj with h | rfl
    ·
     exact hb j h x hx
    ·
     rw [List.getElem?_eq_getElem h0x] at hx; cases hx; exact h1⟩, by repeat (first | exact trivial | refine ⟨rfl, ?_⟩ | refine ⟨?_, ?_⟩)⟩
 ·
  have h0 := dF h0
  have h0x : k = xs.length := by omega
  refine cx_exit rfl ?_
  refine cx_keep rfl rfl ?_
  refine cx_seq ?_
  refine cx_ops ?_
  refine ax_q (q_mov rfl) ?_
  refine ax_q (q_mov rfl) ?_
  refine ax_nil ?_
  refine cx_keep rfl rfl ?_
  refine cx_ret (ret0 rfl rfl ?_)
  exact ⟨by rw [orF_none (fun j hj => hb j (by omega))]; rfl, rfl⟩


/- cmp.isNaN[int] -/
def k_c_isNaN_int : XCode :=
 .seq (.ops [.op (some 2) (.mov (.k (.bool false)))])
 (.keep [0] (.seq (.ops [.op (some 3) (.mov (.t 0)),
   .op (some 4) (.mov (.t 0)),
   .op (some 5) (.bin .neq (.t 3) (.t 4)),
   .op (some 2) (.mov (.t 5))])
 (.keep [2] (.ret))))
theorem k_c_isNaN_int_fits : fitsF Try.prog 59 ⟨6, k_c_isNaN_int, [.t 2]⟩ = true := by kernel_rfl
theorem c_isNaN_int {x : Int} : Con Try.prog noMv 59 [int x] [] (fun r h => r = bool false ∧ h = []) := by
 refine con_of2 k_c_isNaN_int_fits rfl fun C hP hmv => ?_
 unfold k_c_isNaN_int
 refine cx_seq ?_
 refine cx_ops ?_
 refine ax_q (q_mov rfl) ?_
 refine ax_nil ?_
 refine cx_keep rfl rfl ?_
 refine cx_seq ?_
 refine cx_ops ?_
 refine ax_q (q_mov rfl) ?_
 refine ax_q (q_mov rfl) ?_
 refine ax_q (q_ibin rfl rfl rfl) ?_
 refine ax_q (q_mov rfl) ?_
 refine ax_nil ?_
 refine cx_keep rfl rfl ?_
 refine cx_ret (ret0 rfl rfl ?_)
 exact ⟨by simp; rfl, rfl⟩


/- cmp.Compare[int] -/
def k_c_Compare_int : XCode :=
 .seq (.ops [.op (some 4) (.mov (.k (.int .i64 0)))])
 (.keep [0, 1] (.seq (.ops [.op (some 7) (.mov (.t 0)),
   .call (some 8) 59 [.t 7],
   .op (some 5) (.mov (.t 8))])
 (.keep [0, 1, 5] (.seq (.ops [.op (some 9) (.mov (.t 1)),
   .call (some 10) 59 [.t 9],
   .op (some 6) (.mov (.t 10))])
 (.keep [0, 1, 5, 6] (.seq (.seq (.ops [.op (some 11) (.mov (.t 5))])
  (.keep [0, 1, 6, 11] (.cond (.t 11)
  (.seq (.seq (.ops [.op (some 12) (.mov (.t 6))])
   (.keep [12] (.cond (.t 12)
    (.seq (.ops [.op (some 4) (.mov (.k (.int .i64 0)))])
    (.keep [4] (.ret)))
    (.skip))))
   (.keep [] (.seq (.ops [.op (some 4) (.mov (.k (.int .i64 (-1))))])
   (.keep [4] (.ret)))))
  (.skip))))
 (.keep [0, 1, 6] (.seq (.seq (.ops [.op (some 13) (.mov (.t 6))])
  (.keep [0, 1, 13] (.cond (.t 13)
  (.seq (.ops [.op (some 4) (.mov (.k (.int .i64 1)))])
   (.keep [4] (.ret)))
  (.skip))))
 (.keep [0, 1] (.seq (.seq (.ops [.op (some 14) (.mov (.t 0)),
   .op (some 15) (.mov (.t 1)),
   .op (some 16) (.bin .lss (.t 14) (.t 15))])
  (.keep [0, 1, 16] (.cond (.t 16)
  (.seq (.ops [.op (some 4) (.mov (.k (.int .i64 (-1))))])
   (.keep [4] (.ret)))
  (.skip))))
 (.keep [0, 1] (.seq (.seq (.ops [.op (some 17) (.mov (.t 0)),
   .op (some 18) (.mov (.t 1)),
   .op (some 19) (.bin .gtr (.t 17) (.t 18))])
  (.keep [19] (.cond (.t 19)
  (.seq (.ops [.op (some 4) (.mov (.k (.int .i64 1)))])
   (.keep [4] (.ret)))
  (.skip))))
 (.keep [] (.seq (.ops [.op (some 4) (.mov (.k (.int .i64 0)))])
 (.keep [4] (.ret))))))))))))))))
theorem k_c_Compare_int_fits : fitsF Try.prog 44 ⟨20, k_c_Compare_int, [.t 4]⟩ = true := by kernel_rfl
theorem c_Compare_int {a b : Int} : Con Try.prog noMv 44 [int a, int b] [] (fun r h => r = int (cmpI a b) ∧ h = []) := by
 refine con_of2 k_c_Compare_int_fits rfl fun C hP hmv => ?_
 unfold k_c_Compare_int
 refine cx_seq ?_
 refine cx_ops ?_
 refine ax_q (q_mov rfl) ?_
 refine ax_nil ?_
 refine cx_keep rfl rfl ?_
 refine cx_seq ?_
 refine cx_ops ?_
 refine ax_q (q_mov rfl) ?_
 refine ax_call rfl (vc_pure0 (c_isNaN_int  ) hP rfl rfl ?_)
 refine ax_q (q_mov rfl) ?_
 refine ax_nil ?_
 refine cx_keep rfl rfl ?_
 refine cx_seq ?_
 refine cx_ops ?_
 refine ax_q (q_mov rfl) ?_
 refine ax_call rfl (vc_pure0 (c_isNaN_int  ) hP rfl rfl ?_)
 refine ax_q (q_mov rfl) ?_
 refine ax_nil ?_
 refine cx_keep rfl rfl ?_
 refine cx_seq ?_
 refine cx_seq ?_
 refine cx_ops ?_
 refine ax_q (q_mov rfl) ?_
 refine ax_nil ?_
 refine cx_keep rfl rfl ?_
 refine cx_cond rfl (fun h0 => ?_) (fun h0 => ?_)
 ·
  skip
  exact absurd h0 Bool.false_ne_true
 ·
  skip
  refine cx_skip ?_
  refine cx_keep rfl rfl ?_
  refine cx_seq ?_
  refine cx_seq ?_
  refine cx_ops ?_
  refine ax_q (q_mov rfl) ?_
  refine ax_nil ?_
  refine cx_keep rfl rfl ?_
  refine cx_cond rfl (fun h2 => ?_) (fun h2 => ?_)
  ·
   skip
   exact absurd h2 Bool.false_ne_true
  ·
   skip
   refine cx_skip ?_
   refine cx_keep rfl rfl ?_
   refine cx_seq ?_
   refine cx_seq ?_
   refine cx_ops ?_
   refine ax_q (q_mov rfl) ?_
   refine ax_q (q_mov rfl) ?_
   refine ax_q (q_ibin rfl rfl rfl) ?_
   refine ax_nil ?_
   refine cx_keep rfl rfl ?_
   refine cx_cond rfl (fun h3 => ?_) (fun h3 => ?_)
   ·
    have h3 := dT h3
    refine cx_seq ?_
    refine cx_ops ?_
    refine ax_q (q_mov rfl) ?_
    refine ax_nil ?_
    refine cx_keep rfl rfl ?_
    refine cx_ret (ret0 rfl rfl ?_)
    exact ⟨by rw [show cmpI a b = -1 from by unfold cmpI; rw [if_neg (by omega), if_pos h3]]; rfl, rfl⟩
   ·
    have h3 := dF h3
    refine cx_skip ?_
    refine cx_keep rfl rfl ?_
    refine cx_seq ?_
    refine cx_seq ?_
    refine cx_ops ?_
    refine ax_q (q_mov rfl) ?_
    refine ax_q (q_mov rfl) ?_
    refine ax_q (q_ibin rfl rfl rfl) ?_
    refine ax_nil ?_
    refine cx_keep rfl rfl ?_
    refine cx_cond rfl (fun h4 => ?_) (fun h4 => ?_)
    ·
     have h4 := dT h4
     refine cx_seq ?_
     refine cx_ops ?_
     refine ax_q (q_mov rfl) ?_
     refine ax_nil ?_
     refine cx_keep rfl rfl ?_
     refine cx_ret (ret0 rfl rfl ?_)
     exact ⟨by rw [show cmpI a b = 1 from by unfold cmpI; rw [if_neg (by omega), if_neg h3]]; rfl, rfl⟩
    ·
     have h4 := dF h4
     refine cx_skip ?_
     refine cx_keep rfl rfl ?_
     refine cx_seq ?_
     refine cx_ops ?_
     refine ax_q (q_mov rfl) ?_
     refine ax_nil ?_
     refine cx_keep rfl rfl ?_
     refine cx_ret (ret0 rfl rfl ?_)
     exact ⟨by rw [show cmpI a b = 0 from by unfold cmpI; rw [if_pos (by omega)]]; rfl, rfl⟩


/- cmp.isNaN[string] -/
def k_c_isNaN_string : XCode :=
 .seq (.ops [.op (some 2) (.mov (.k (.bool false)))])
 (.keep [0] (.seq (.ops [.op (some 3) (.mov (.t 0)),
   .op (some 4) (.mov (.t 0)),
   .op (some 5) (.bin .neq (.t 3) (.t 4)),
   .op (some 2) (.mov (.t 5))])
 (.keep [2] (.ret))))
theorem k_c_isNaN_string_fits : fitsF Try.prog 60 ⟨6, k_c_isNaN_string, [.t 2]⟩ = true := by kernel_rfl
theorem c_isNaN_string {x : Str} : Con Try.prog noMv 60 [str x] [] (fun r h => r = bool false ∧ h = []) := by
 refine con_of2 k_c_isNaN_string_fits rfl fun C hP hmv => ?_
 unfold k_c_isNaN_string
 refine cx_seq ?_
 refine cx_ops ?_
 refine ax_q (q_mov rfl) ?_
 refine ax_nil ?_
 refine cx_keep rfl rfl ?_
 refine cx_seq ?_
 refine cx_ops ?_
 refine ax_q (q_mov rfl) ?_
 refine ax_q (q_mov rfl) ?_
 refine ax_q (q_sbin rfl rfl rfl) ?_
 refine ax_q (q_mov rfl) ?_
 refine ax_nil ?_
 refine cx_keep rfl rfl ?_
 refine cx_ret (ret0 rfl rfl ?_)
 exact ⟨by simp; rfl, rfl⟩


/- cmp.Compare[string] -/
def k_c_Compare_string : XCode :=
 .seq (.ops [.op (some 4) (.mov (.k (.int .i64 0)))])
 (.keep [0, 1] (.seq (.ops [.op (some 7) (.mov (.t 0)),
   .call (some 8) 60 [.t 7],
   .op (some 5) (.mov (.t 8))])
 (.keep [0, 1, 5] (.seq (.ops [.op (some 9) (.mov (.t 1)),
   .call (some 10) 60 [.t 9],
   .op (some 6) (.mov (.t 10))])
 (.keep [0, 1, 5, 6] (.seq (.seq (.ops [.op (some 11) (.mov (.t 5))])
  (.keep [0, 1, 6, 11] (.cond (.t 11)
  (.seq (.seq (.ops [.op (some 12) (.mov (.t 6))])
   (.keep [12] (.cond (.t 12)
    (.seq (.ops [.op (some 4) (.mov (.k (.int .i64 0)))])
    (.keep [4] (.ret)))
    (.skip))))
   (.keep [] (.seq (.ops [.op (some 4) (.mov (.k (.int .i64 (-1))))])
   (.keep [4] (.ret)))))
  (.skip))))
 (.keep [0, 1, 6] (.seq (.seq (.ops [.op (some 13) (.mov (.t 6))])
  (.keep [0, 1, 13] (.cond (.t 13)
  (.seq (.ops [.op (some 4) (.mov (.k (.int .i64 1)))])
   (.keep [4] (.ret)))
  (.skip))))
 (.keep [0, 1] (.seq (.seq (.ops [.op (some 14) (.mov (.t 0)),
   .op (some 15) (.mov (.t 1)),
   .op (some 16) (.bin .lss (.t 14) (.t 15))])
  (.keep [0, 1, 16] (.cond (.t 16)
  (.seq (.ops [.op (some 4) (.mov (.k (.int .i64 (-1))))])
   (.keep [4] (.ret)))
  (.skip))))
 (.keep [0, 1] (.seq (.seq (.ops [.op (some 17) (.mov (.t 0)),
   .op (some 18) (.mov (.t 1)),
   .op (some 19) (.bin .gtr (.t 17) (.t 18))])
  (.keep [19] (.cond (.t 19)
  (.seq (.ops [.op (some 4) (.mov (.k (.int .i64 1)))])
   (.keep [4] (.ret)))
  (.skip))))
 (.keep [] (.seq (.ops [.op (some 4) (.mov (.k (.int .i64 0)))])
 (.keep [4] (.ret))))))))))))))))
theorem k_c_Compare_string_fits : fitsF Try.prog 45 ⟨20, k_c_Compare_string, [.t 4]⟩ = true := by kernel_rfl
theorem c_Compare_string {a b : Str} : Con Try.prog noMv 45 [str a, str b] [] (fun r h => r = int (cmpS a b) ∧ h = []) := by
 refine con_of2 k_c_Compare_string_fits rfl fun C hP hmv => ?_
 unfold k_c_Compare_string
 refine cx_seq ?_
 refine cx_ops ?_
 refine ax_q (q_mov rfl) ?_
 refine ax_nil ?_
 refine cx_keep rfl rfl ?_
 refine cx_seq ?_
 refine cx_ops ?_
 refine ax_q (q_mov rfl) ?_
 refine ax_call rfl (vc_pure0 (c_isNaN_string  ) hP rfl rfl ?_)
 refine ax_q (q_mov rfl) ?_
 refine ax_nil ?_
 refine cx_keep rfl rfl ?_
 refine cx_seq ?_
 refine cx_ops ?_
 refine ax_q (q_mov rfl) ?_
 refine ax_call rfl (vc_pure0 (c_isNaN_string  ) hP rfl rfl ?_)
 refine ax_q (q_mov rfl) ?_
 refine ax_nil ?_
 refine cx_keep rfl rfl ?_
 refine cx_seq ?_
 refine cx_seq ?_
 refine cx_ops ?_
 refine ax_q (q_mov rfl) ?_
 refine ax_nil ?_
 refine cx_keep rfl rfl ?_
 refine cx_cond rfl (fun h0 => ?_) (fun h0 => ?_)
 ·
  skip
  exact absurd h0 Bool.false_ne_true
 ·
  skip
  refine cx_skip ?_
  refine cx_keep rfl rfl ?_
  refine cx_seq ?_
  refine cx_seq ?_
  refine cx_ops ?_
  refine ax_q (q_mov rfl) ?_
  refine ax_nil ?_
  refine cx_keep rfl rfl ?_
  refine cx_cond rfl (fun h2 => ?_) (fun h2 => ?_)
  ·
   skip
   exact absurd h2 Bool.false_ne_true
  ·
   skip
   refine cx_skip ?_
   refine cx_keep rfl rfl ?_
   refine cx_seq ?_
   refine cx_seq ?_
   refine cx_ops ?_
   refine ax_q (q_mov rfl) ?_
   refine ax_q (q_mov rfl) ?_
   refine ax_q (q_sbin rfl rfl rfl) ?_
   refine ax_nil ?_
   refine cx_keep rfl rfl ?_
   refine cx_cond rfl (fun h3 => ?_) (fun h3 => ?_)
   ·
    skip
    refine cx_seq ?_
    refine cx_ops ?_
    refine ax_q (q_mov rfl) ?_
    refine ax_nil ?_
    refine cx_keep rfl rfl ?_
    refine cx_ret (ret0 rfl rfl ?_)
    exact ⟨by rw [cmpS_lt h3]; rfl, rfl⟩
   ·
    skip
    refine cx_skip ?_
    refine cx_keep rfl rfl ?_
    refine cx_seq ?_
    refine cx_seq ?_
    refine cx_ops ?_
    refine ax_q (q_mov rfl) ?_
    refine ax_q (q_mov rfl) ?_
    refine ax_q (q_sbin rfl rfl rfl) ?_
    refine ax_nil ?_
    refine cx_keep rfl rfl ?_
    refine cx_cond rfl (fun h4 => ?_) (fun h4 => ?_)
    ·
     skip
     refine cx_seq ?_
     refine cx_ops ?_
     refine ax_q (q_mov rfl) ?_
     refine ax_nil ?_
     refine cx_keep rfl rfl ?_
     refine cx_ret (ret0 rfl rfl ?_)
     exact ⟨by rw [cmpS_gt h4]; rfl, rfl⟩
    ·
     skip
     refine cx_skip ?_
     refine cx_keep rfl rfl ?_
     refine cx_seq ?_
     refine cx_ops ?_
     refine ax_q (q_mov rfl) ?_
     refine ax_nil ?_
     refine cx_keep rfl rfl ?_
     refine cx_ret (ret0 rfl rfl ?_)
     exact ⟨by rw [cmpS_eq h3 h4]; rfl, rfl⟩


/- loop.example/g00332/impl.compareValues -/
def k_c_compareValues : XCode :=
 .seq (.ops [.op (some 2) (.box (.t 0)),
   .op (some 3) (.box (.t 1)),
   .op (some 4) (.mov (.k (.int .i64 0)))])
 (.keep [2, 3] (.seq (.drawE [[], [0], [], [2], [0, 1, 2, 3], [], [5], [], [7], [0, 1, 2, 3, 4, 5, 6, 7, 8], [], [10], [], [12], [0, 1, 2, 3, 4, 5, 6, 7, 8, 9, 10, 11, 12, 13], [0, 1, 2, 3, 4, 5, 6, 7, 8, 9, 10, 11, 12, 13, 14], [0, 1, 2, 3, 4, 5, 6, 7, 8, 9, 10, 11, 12, 13, 14, 15], [0, 1, 2, 3, 4, 5, 6, 7, 8, 9, 10, 11, 12, 13, 14, 15, 16]] [.op (some 5) (.fadr (.t 2) 0),
   .op (some 6) (.load1 (.t 5)),
   .op (some 7) (.fadr (.t 3) 0),
   .op (some 8) (.load1 (.t 7)),
   .call (some 9) 44 [.t 6, .t 8],
   .op (some 10) (.fadr (.t 2) 1),
   .op (some 11) (.load1 (.t 10)),
   .op (some 12) (.fadr (.t 3) 1),
   .op (some 13) (.load1 (.t 12)),
   .call (some 14) 44 [.t 11, .t 13],
   .op (some 15) (.fadr (.t 2) 2),
   .op (some 16) (.load1 (.t 15)),
   .op (some 17) (.fadr (.t 3) 2),
   .op (some 18) (.load1 (.t 17))]
  [.call (some 19) 45 [.t 16, .t 18],
   .op (some 20) (.bslice 1 [.t 9, .t 14, .t 19]),
   .call (some 21) 32 [.t 20],
   .op (some 4) (.mov (.t 21))])
 (.keep [4] (.ret))))
theorem k_c_compareValues_fits : fitsF Try.prog 33 ⟨22, k_c_compareValues, [.t 4]⟩ = true := by kernel_rfl
set_option maxHeartbeats 2000000 in
theorem c_compareValues {a b : GValue} : Con Try.prog noMv 33 [a.av, b.av] [] (fun r h => r = int (cmpV a b) ∧ h = []) := by
 refine con_of2 k_c_compareValues_fits rfl fun C hP hmv => ?_
 unfold k_c_compareValues
 refine cx_seq ?_
 refine cx_ops ?_
 refine ax_e (e_box rfl rfl (by decide) rfl rfl rfl) ?_
 refine ax_e (e_box rfl rfl (by decide) rfl rfl rfl) ?_
 refine ax_q (q_mov rfl) ?_
 refine ax_nil ?_
 refine cx_keep rfl rfl ?_
 refine cx_seq ?_
 refine cx_drawL 0 5 (fun _ => false) (fun _ => true) [] ([]) [[2], [5], [3], [7], [6, 8], [2], [10], [3], [12], [11, 13], [2], [15], [3], [17]] [[], [], [], [], [], [], [], [], [], [], [], [], [], []] rfl ?_
 first | refine ⟨⟨5, _, []⟩, .inl ⟨rfl, rfl, rfl, locl_of (loc_q (q_fadr_ptr rfl))⟩, ?_⟩
 first | refine ⟨_, .inr ⟨rfl, _, rfl, .inr ⟨rfl, rfl, .inl rfl, rfl, rfl⟩, loc_q (q_load1_ptr rfl rfl rfl)⟩, ?_⟩
 first | refine ⟨_, .inr ⟨rfl, _, rfl, .inr ⟨rfl, rfl, .inr rfl, rfl, rfl⟩, loc_q (q_fadr_ptr rfl)⟩, ?_⟩
 first | refine ⟨_, .inr ⟨rfl, _, rfl, .inr ⟨rfl, rfl, .inr rfl, rfl, rfl⟩, loc_q (q_load1_ptr rfl rfl rfl)⟩, ?_⟩
 refine ⟨_, .inr ⟨rfl, _, rfl, .inr ⟨rfl, rfl, .inl rfl, rfl, rfl⟩, loc_call (fun i => 9 + 200 * i) false rfl (c_Compare_int  ) hP (.inr ⟨rfl, rfl, rfl⟩) rfl rfl (fun h => by cases h)⟩, ?_⟩
 first | refine ⟨_, .inr ⟨rfl, _, rfl, .inr ⟨rfl, rfl, .inr rfl, rfl, rfl⟩, loc_q (q_fadr_ptr rfl)⟩, ?_⟩
 first | refine ⟨_, .inr ⟨rfl, _, rfl, .inr ⟨rfl, rfl, .inr rfl, rfl, rfl⟩, loc_q (q_load1_ptr rfl rfl rfl)⟩, ?_⟩
 first | refine ⟨_, .inr ⟨rfl, _, rfl, .inr ⟨rfl, rfl, .inr rfl, rfl, rfl⟩, loc_q (q_fadr_ptr rfl)⟩, ?_⟩
 first | refine ⟨_, .inr ⟨rfl, _, rfl, .inr ⟨rfl, rfl, .inr rfl, rfl, rfl⟩, loc_q (q_load1_ptr rfl rfl rfl)⟩, ?_⟩
 refine ⟨_, .inr ⟨rfl, _, rfl, .inr ⟨rfl, rfl, .inl rfl, rfl, rfl⟩, loc_call (fun i => 14 + 200 * i) false rfl (c_Compare_int  ) hP (.inr ⟨rfl, rfl, rfl⟩) rfl rfl (fun h => by cases h)⟩, ?_⟩
 first | refine ⟨_, .inr ⟨rfl, _, rfl, .inr ⟨rfl, rfl, .inr rfl, rfl, rfl⟩, loc_q (q_fadr_ptr rfl)⟩, ?_⟩
 first | refine ⟨_, .inr ⟨rfl, _, rfl, .inr ⟨rfl, rfl, .inr rfl, rfl, rfl⟩, loc_q (q_load1_ptr rfl rfl rfl)⟩, ?_⟩
 first | refine ⟨_, .inr ⟨rfl, _, rfl, .inr ⟨rfl, rfl, .inr rfl, rfl, rfl⟩, loc_q (q_fadr_ptr rfl)⟩, ?_⟩
 first | refine ⟨_, .inr ⟨rfl, _, rfl, .inr ⟨rfl, rfl, .inr rfl, rfl, rfl⟩, loc_q (q_load1_ptr rfl rfl rfl)⟩, ?_⟩
 refine ⟨rfl, ?_⟩
 refine ax_call rfl (vc_pure0 (c_Compare_string  ) hP rfl rfl ?_)
 refine ax_e (e_bslice rfl (by decide) rfl rfl) ?_
 first | refine ax_call rfl (vc_pure0 (c_Or (xs := [cmpI a.Kind b.Kind, cmpI a.N b.N, cmpS a.T b.T]) ?_) hP rfl rfl ?_) | refine ax_call rfl (vc_lend0 (c_Or (xs := [cmpI a.Kind b.Kind, cmpI a.N b.N, cmpS a.T b.T]) ?_) hP (by repeat (first | exact lal_id _ rfl | exact LAL.nil | refine LAL.cons ?_ ?_ | exact la_id _ rfl | exact LA.lend (lend_whole rfl (by first | (simp; done) | (rw [List.length_map]; rfl))) | refine LA.agg ?_ | refine LA.fn ?_ | refine LA.lend ?_ | exact Lend.d _ | exact Lend.zs _ | exact lend_whole rfl (by first | (simp; done) | (rw [List.length_map]; rfl)) | refine Lend.ptr rfl ?_ | refine Lend.fn ?_ | exact LendL.nil | refine LendL.cons ?_ ?_)) rfl rfl ?_)
 ·
  first | assumption | omega | (simp; done)
 refine ax_q (q_mov rfl) ?_
 refine ax_nil ?_
 refine cx_keep rfl rfl ?_
 refine cx_ret (ret0 rfl rfl ?_)
 exact ⟨by rw [cmpV_or]; rfl, rfl⟩


/- loop.example/g00332/impl.numberValue -/
def k_c_numberValue : XCode :=
 .seq (.ops [.op (some 2) (.alloc [.int .i64 0, .int .i64 0, .str []])])
 (.keep [0, 2] (.seq (.ops [.op (some 3) (.mov (.t 0)),
   .op (some 4) (.build [.int .i64 0, .int .i64 0, .str []] [(0, 1, .k (.int .i64 1)), (1, 1, .t 3)]),
   .op none (.store 3 (.t 2) (.t 4))])
 (.keep [2] (.ret))))
theorem k_c_numberValue_fits : fitsF Try.prog 46 ⟨5, k_c_numberValue, [.cN 2 3]⟩ = true := by kernel_rfl
theorem c_numberValue {n : Int} : Con Try.prog noMv 46 [int n] [] (fun r h => r = (vI n).av ∧ h = []) := by
 refine con_of2 k_c_numberValue_fits rfl fun C hP hmv => ?_
 unfold k_c_numberValue
 refine cx_seq ?_
 refine cx_ops ?_
 refine ax_e (e_alloc (by decide) rfl rfl) ?_
 refine ax_nil ?_
 refine cx_keep rfl rfl ?_
 refine cx_seq ?_
 refine cx_ops ?_
 refine ax_q (q_mov rfl) ?_
 refine ax_q (q_build rfl) ?_
 refine ax_e (e_st rfl rfl rfl rfl rfl rfl rfl) ?_
 refine ax_nil ?_
 refine cx_keep rfl rfl ?_
 refine cx_ret (ret0 rfl rfl ?_)
 exact ⟨rfl, rfl⟩


/- loop.example/g00332/impl.columnOf -/
def k_c_columnOf : XCode :=
 .seq (.ops [.op (some 2) (.box (.t 0)),
   .op (some 4) (.alloc [.int .i64 0, .int .i64 0, .str []])])
 (.keep [1, 2, 4] (.seq (.drawE [[], [0], [0, 1], [], [3], [], [5], [0, 1, 2, 3, 4, 5, 6], [], [0, 1, 2, 3, 4, 5, 6, 7, 8], [0, 1, 2, 3, 4, 5, 6, 7, 8, 9]] [.op (some 5) (.fadr (.t 2) 0),
   .op (some 6) (.load1 (.t 5)),
   .call (some 7) 46 [.t 6],
   .op (some 8) (.fadr (.t 2) 1),
   .op (some 9) (.loadN 3 (.t 8)),
   .op (some 10) (.fadr (.t 2) 4),
   .op (some 11) (.loadN 3 (.t 10)),
   .op (some 12) (.build [.int .i64 0, .int .i64 0, .str [], .int .i64 0, .int .i64 0, .str [], .int .i64 0, .int .i64 0, .str []] [(0, 3, .t 7), (3, 3, .t 9), (6, 3, .t 11)]),
   .op (some 13) (.mov (.t 1))]
  [.op (some 14) (.idxA 3 3 (.t 12) (.t 13)),
   .op none (.store 3 (.t 4) (.t 14))])
 (.keep [4] (.ret))))
theorem k_c_columnOf_fits : fitsF Try.prog 34 ⟨15, k_c_columnOf, [.cN 4 3]⟩ = true := by kernel_rfl
theorem c_columnOf {w : GRow} {k : Int} (hk : 0 ≤ k ∧ k ≤ 2) : Con Try.prog noMv 34 [w.av, int k] [] (fun r h => r = (colF w k).av ∧ h = []) := by
 refine con_of2 k_c_columnOf_fits rfl fun C hP hmv => ?_
 unfold k_c_columnOf
 refine cx_seq ?_
 refine cx_ops ?_
 refine ax_e (e_box rfl rfl (by decide) rfl rfl rfl) ?_
 refine ax_e (e_alloc (by decide) rfl rfl) ?_
 refine ax_nil ?_
 refine cx_keep rfl rfl ?_
 refine cx_seq ?_
 refine cx_drawL 0 5 (fun _ => false) (fun _ => true) [] ([]) [[2], [5], [6], [2], [8], [2], [10], [7, 9, 11], [1]] [[], [], [], [], [], [], [], [], []] rfl ?_
 first | refine ⟨⟨5, _, []⟩, .inl ⟨rfl, rfl, rfl, locl_of (loc_q (q_fadr_ptr rfl))⟩, ?_⟩
 first | refine ⟨_, .inr ⟨rfl, _, rfl, .inr ⟨rfl, rfl, .inl rfl, rfl, rfl⟩, loc_q (q_load1_ptr rfl rfl rfl)⟩, ?_⟩
 refine ⟨_, .inr ⟨rfl, _, rfl, .inr ⟨rfl, rfl, .inl rfl, rfl, rfl⟩, loc_call (fun i => 7 + 200 * i) false rfl (c_numberValue  ) hP (.inr ⟨rfl, rfl, rfl⟩) rfl rfl (fun h => by cases h)⟩, ?_⟩
 first | refine ⟨_, .inr ⟨rfl, _, rfl, .inr ⟨rfl, rfl, .inr rfl, rfl, rfl⟩, loc_q (q_fadr_ptr rfl)⟩, ?_⟩
 first | refine ⟨_, .inr ⟨rfl, _, rfl, .inr ⟨rfl, rfl, .inr rfl, rfl, rfl⟩, loc_q (q_ldN rfl rfl rfl)⟩, ?_⟩
 first | refine ⟨_, .inr ⟨rfl, _, rfl, .inr ⟨rfl, rfl, .inr rfl, rfl, rfl⟩, loc_q (q_fadr_ptr rfl)⟩, ?_⟩
 first | refine ⟨_, .inr ⟨rfl, _, rfl, .inr ⟨rfl, rfl, .inr rfl, rfl, rfl⟩, loc_q (q_ldN rfl rfl rfl)⟩, ?_⟩
 first | refine ⟨_, .inr ⟨rfl, _, rfl, .inr ⟨rfl, rfl, .inl rfl, rfl, rfl⟩, loc_q (q_build rfl)⟩, ?_⟩
 first | refine ⟨_, .inr ⟨rfl, _, rfl, .inr ⟨rfl, rfl, .inr rfl, rfl, rfl⟩, loc_q (q_mov rfl)⟩, ?_⟩
 refine ⟨rfl, ?_⟩
 refine ax_qe (r' := (colF w k).av) (q_idxA rfl rfl (by omega)) (colF_at hk) ?_
 refine ax_e (e_st rfl rfl rfl rfl rfl rfl rfl) ?_
 refine ax_nil ?_
 refine cx_keep rfl rfl ?_
 refine cx_ret (ret0 rfl rfl ?_)
 exact ⟨rfl, rfl⟩


/- loop.example/g00332/impl.compareRows -/
def k_c_compareRows : XCode :=
 .seq (.ops [.op (some 2) (.box (.t 0)),
   .op (some 3) (.box (.t 1)),
   .op (some 4) (.mov (.k (.int .i64 0)))])
 (.keep [2, 3] (.seq (.ops [.op (some 5) (.fadr (.t 2) 0),
   .op (some 6) (.load1 (.t 5)),
   .op (some 7) (.fadr (.t 3) 0),
   .op (some 8) (.load1 (.t 7)),
   .call (some 9) 44 [.t 6, .t 8],
   .op (some 4) (.mov (.t 9))])
 (.keep [4] (.ret))))
theorem k_c_compareRows_fits : fitsF Try.prog 35 ⟨10, k_c_compareRows, [.t 4]⟩ = true := by kernel_rfl
theorem c_compareRows {a b : GRow} : Con Try.prog noMv 35 [a.av, b.av] [] (fun r h => r = int (cmpI a.Id b.Id) ∧ h = []) := by
 refine con_of2 k_c_compareRows_fits rfl fun C hP hmv => ?_
 unfold k_c_compareRows
 refine cx_seq ?_
 refine cx_ops ?_
 refine ax_e (e_box rfl rfl (by decide) rfl rfl rfl) ?_
 refine ax_e (e_box rfl rfl (by decide) rfl rfl rfl) ?_
 refine ax_q (q_mov rfl) ?_
 refine ax_nil ?_
 refine cx_keep rfl rfl ?_
 refine cx_seq ?_
 refine cx_ops ?_
 refine ax_q (q_fadr_ptr rfl) ?_
 refine ax_q (q_load1_ptr rfl rfl rfl) ?_
 refine ax_q (q_fadr_ptr rfl) ?_
 refine ax_q (q_load1_ptr rfl rfl rfl) ?_
 refine ax_call rfl (vc_pure0 (c_Compare_int  ) hP rfl rfl ?_)
 refine ax_q (q_mov rfl) ?_
 refine ax_nil ?_
 refine cx_keep rfl rfl ?_
 refine cx_ret (ret0 rfl rfl ?_)
 exact ⟨rfl, rfl⟩


/- loop.example/g00332/impl.sortRows$1 -/
def k_c_sortRows1 : XCode :=
 .seq (.ops [.op (some 3) (.box (.t 0)),
   .op (some 4) (.box (.t 1)),
   .op (some 5) (.mov (.k (.int .i64 0)))])
 (.keep [2, 3, 4] (.seq (.drawE [[], [], [0, 1], [], [], [0, 1, 2, 3, 4], [0, 1, 2, 3, 4, 5], [], [], [0, 1, 2, 3, 4, 5, 6, 7, 8], [0, 1, 2, 3, 4, 5, 6, 7, 8, 9], [0, 1, 2, 3, 4, 5, 6, 7, 8, 9, 10], [0, 1, 2, 3, 4, 5, 6, 7, 8, 9, 10, 11]] [.op (some 6) (.loadN 7 (.t 3)),
   .op (some 7) (.load1 (.t 2)),
   .call (some 8) 34 [.t 6, .t 7],
   .op (some 9) (.loadN 7 (.t 4)),
   .op (some 10) (.load1 (.t 2)),
   .call (some 11) 34 [.t 9, .t 10],
   .call (some 12) 33 [.t 8, .t 11],
   .op (some 13) (.loadN 7 (.t 3)),
   .op (some 14) (.loadN 7 (.t 4))]
  [.call (some 15) 35 [.t 13, .t 14],
   .op (some 16) (.bslice 1 [.t 12, .t 15]),
   .call (some 17) 32 [.t 16],
   .op (some 5) (.mov (.t 17))])
 (.keep [5] (.ret))))
theorem k_c_sortRows1_fits : fitsF Try.prog 31 ⟨18, k_c_sortRows1, [.t 5]⟩ = true := by kernel_rfl
theorem c_sortRows1 {a b : GRow} {k : Int} (hk : 0 ≤ k ∧ k ≤ 2) : Con Try.prog noMv 31 [a.av, b.av, .d (.ip [.int .i64 k])] [] (fun r h => r = int (cmpR k a b) ∧ h = []) := by
 refine con_of2 k_c_sortRows1_fits rfl fun C hP hmv => ?_
 unfold k_c_sortRows1
 refine cx_seq ?_
 refine cx_ops ?_
 refine ax_e (e_box rfl rfl (by decide) rfl rfl rfl) ?_
 refine ax_e (e_box rfl rfl (by decide) rfl rfl rfl) ?_
 refine ax_q (q_mov rfl) ?_
 refine ax_nil ?_
 refine cx_keep rfl rfl ?_
 refine cx_seq ?_
 refine cx_drawL 0 6 (fun _ => false) (fun _ => true) [] ([]) [[3], [2], [6, 7], [4], [2], [9, 10], [8, 11], [3], [4]] [[], [], [], [], [], [], [], [], []] rfl ?_
 first | refine ⟨⟨6, _, []⟩, .inl ⟨rfl, rfl, rfl, locl_of (loc_q (q_ldN rfl rfl rfl))⟩, ?_⟩
 first | refine ⟨_, .inr ⟨rfl, _, rfl, .inr ⟨rfl, rfl, .inr rfl, rfl, rfl⟩, loc_q (q_load1_ptr rfl rfl rfl)⟩, ?_⟩ | refine ⟨_, .inr ⟨rfl, _, rfl, .inr ⟨rfl, rfl, .inr rfl, rfl, rfl⟩, loc_q (q_load1_ip rfl)⟩, ?_⟩
 refine ⟨_, .inr ⟨rfl, _, rfl, .inr ⟨rfl, rfl, .inl rfl, rfl, rfl⟩, loc_call (fun i => 8 + 200 * i) false rfl (c_columnOf (w := a) (k := k) (by first | assumption | omega | (simp; done) | (simp; omega))) hP (.inr ⟨rfl, rfl, rfl⟩) rfl rfl (fun h => by cases h)⟩, ?_⟩
 first | refine ⟨_, .inr ⟨rfl, _, rfl, .inr ⟨rfl, rfl, .inr rfl, rfl, rfl⟩, loc_q (q_ldN rfl rfl rfl)⟩, ?_⟩
 first | refine ⟨_, .inr ⟨rfl, _, rfl, .inr ⟨rfl, rfl, .inr rfl, rfl, rfl⟩, loc_q (q_load1_ptr rfl rfl rfl)⟩, ?_⟩ | refine ⟨_, .inr ⟨rfl, _, rfl, .inr ⟨rfl, rfl, .inr rfl, rfl, rfl⟩, loc_q (q_load1_ip rfl)⟩, ?_⟩
 refine ⟨_, .inr ⟨rfl, _, rfl, .inr ⟨rfl, rfl, .inl rfl, rfl, rfl⟩, loc_call (fun i => 11 + 200 * i) false rfl (c_columnOf (w := b) (k := k) (by first | assumption | omega | (simp; done) | (simp; omega))) hP (.inr ⟨rfl, rfl, rfl⟩) rfl rfl (fun h => by cases h)⟩, ?_⟩
 refine ⟨_, .inr ⟨rfl, _, rfl, .inr ⟨rfl, rfl, .inl rfl, rfl, rfl⟩, loc_call (fun i => 12 + 200 * i) false rfl (c_compareValues (a := colF a k) (b := colF b k) ) hP (.inr ⟨rfl, rfl, rfl⟩) rfl rfl (fun h => by cases h)⟩, ?_⟩
 first | refine ⟨_, .inr ⟨rfl, _, rfl, .inr ⟨rfl, rfl, .inr rfl, rfl, rfl⟩, loc_q (q_ldN rfl rfl rfl)⟩, ?_⟩
 first | refine ⟨_, .inr ⟨rfl, _, rfl, .inr ⟨rfl, rfl, .inr rfl, rfl, rfl⟩, loc_q (q_ldN rfl rfl rfl)⟩, ?_⟩
 refine ⟨rfl, ?_⟩
 refine ax_call rfl (vc_pure0 (c_compareRows (a := a) (b := b) ) hP rfl rfl ?_)
 refine ax_e (e_bslice rfl (by decide) rfl rfl) ?_
 first | refine ax_call rfl (vc_pure0 (c_Or (xs := [cmpV (colF a k) (colF b k), cmpI a.Id b.Id]) ?_) hP rfl rfl ?_) | refine ax_call rfl (vc_lend0 (c_Or (xs := [cmpV (colF a k) (colF b k), cmpI a.Id b.Id]) ?_) hP (by repeat (first | exact lal_id _ rfl | exact LAL.nil | refine LAL.cons ?_ ?_ | exact la_id _ rfl | exact LA.lend (lend_whole rfl (by first | (simp; done) | (rw [List.length_map]; rfl))) | refine LA.agg ?_ | refine LA.fn ?_ | refine LA.lend ?_ | exact Lend.d _ | exact Lend.zs _ | exact lend_whole rfl (by first | (simp; done) | (rw [List.length_map]; rfl)) | refine Lend.ptr rfl ?_ | refine Lend.fn ?_ | exact LendL.nil | refine LendL.cons ?_ ?_)) rfl rfl ?_)
 ·
  first | assumption | omega | (simp; done)
 refine ax_q (q_mov rfl) ?_
 refine ax_nil ?_
 refine cx_keep rfl rfl ?_
 refine cx_ret (ret0 rfl rfl ?_)
 exact ⟨rfl, rfl⟩


/- slices.Reverse[[]loop.example/g00332/impl.Row,loop.example/g00332/impl.Row] -/
def k_c_Reverse : XCode :=
 .seq (.ops [.op (some 4) (.mov (.t 0)),
   .op (some 5) (.lenS (.t 4)),
   .op (some 6) (.bin .sub (.t 5) (.k (.int .i64 1))),
   .op (some 2) (.mov (.k (.int .i64 0))),
   .op (some 3) (.mov (.t 6))])
 (.keep [0, 2, 3] (.block 0 (.loop (.seq (.seq (.ops [.op (some 7) (.mov (.t 2)),
    .op (some 8) (.mov (.t 3)),
    .op (some 9) (.bin .lss (.t 7) (.t 8))])
   (.keep [0, 2, 3, 9] (.cond (.t 9)
   (.skip)
   (.exit 0))))
  (.keep [0, 2, 3] (.seq (.block 1 (.drawE [[], [], [], [], [], [], [4, 5], [4, 5, 6], [], [], [8, 9], [8, 9, 10], [0, 1, 4, 5, 6, 7, 8, 9, 10, 11], [0, 1, 4, 5, 6, 7, 8, 9, 10, 11, 12], [0, 1, 2, 3, 4, 5, 6, 7, 8, 9, 10, 11, 12, 13], [0, 1, 2, 3, 4, 5, 6, 7, 8, 9, 10, 11, 12, 13, 14]] [.op (some 14) (.mov (.t 0)),
    .op (some 15) (.mov (.t 2)),
    .op (some 16) (.mov (.t 0)),
    .op (some 17) (.mov (.t 3)),
    .op (some 18) (.mov (.t 0)),
    .op (some 19) (.mov (.t 3)),
    .op (some 20) (.iadr 7 (.t 18) (.t 19)),
    .op (some 21) (.loadN 7 (.t 20)),
    .op (some 22) (.mov (.t 0)),
    .op (some 23) (.mov (.t 2)),
    .op (some 24) (.iadr 7 (.t 22) (.t 23)),
    .op (some 25) (.loadN 7 (.t 24)),
    .op (some 26) (.iadr 7 (.t 14) (.t 15)),
    .op none (.store 7 (.t 26) (.t 21))]
    [.op (some 27) (.iadr 7 (.t 16) (.t 17)),
    .op none (.store 7 (.t 27) (.t 25))]))
  (.keep [0, 2, 3] (.ops [.op (some 10) (.mov (.t 2)),
   .op (some 11) (.bin .add (.t 10) (.k (.int .i64 1))),
   .op (some 12) (.mov (.t 3)),
   .op (some 13) (.bin .sub (.t 12) (.k (.int .i64 1))),
   .op (some 2) (.mov (.t 11)),
   .op (some 3) (.mov (.t 13))]))))))))
theorem k_c_Reverse_fits : fitsF Try.prog 36 ⟨28, k_c_Reverse, []⟩ = true := by kernel_rfl
set_option maxHeartbeats 2000000 in
theorem c_Reverse {xs : List GRow} (hl : xs.length ≤ 1048576) : Con Try.prog noMv 36 [.osl 1000 7 0 xs.length] [(1000, .rows 7 (xs.map GRow.row))] (fun r h => r = .tup [] ∧ h = [(1000, .rows 7 (xs.reverse.map GRow.row))]) := by
 refine con_of2 k_c_Reverse_fits rfl fun C hP hmv => ?_
 unfold k_c_Reverse
 refine cx_seq ?_
 refine cx_ops ?_
 refine ax_q (q_mov rfl) ?_
 first | refine ax_q (q_lenS_map rfl) ?_ | refine ax_q (q_lenS_osl rfl) ?_
 refine ax_qe (r' := int ((xs.length : Int) - 1 - (0 : Nat))) (q_ibin rfl rfl rfl) (by rw [wi (by omega) (by omega)]; exact congrArg AM.int (by omega)) ?_
 refine ax_q (q_mov rfl) ?_
 refine ax_q (q_mov rfl) ?_
 refine ax_nil ?_
 refine cx_keep rfl rfl ?_
 refine cx_block ?_
 refine cx_loopU (fun n i => 2 * i ≤ xs.length ∧ n = xs.length - i) (fun i : Nat => [(2, int i), (3, int ((xs.length : Int) - 1 - i))]) (fun i => [(1000, .rows 7 ((revK xs i).map GRow.row))]) ⟨_, 0, ⟨Nat.zero_le _, rfl⟩, by repeat (first | exact trivial | refine ⟨rfl, ?_⟩ | refine ⟨?_, ?_⟩)⟩ ?_
 rintro n i ⟨hi, rfl⟩
 have hrl := @revK_len _ xs i
 refine cx_seq ?_
 refine cx_seq ?_
 refine cx_ops ?_
 refine ax_q (q_mov rfl) ?_
 refine ax_q (q_mov rfl) ?_
 refine ax_q (q_ibin rfl rfl rfl) ?_
 refine ax_nil ?_
 refine cx_keep rfl rfl ?_
 refine cx_cond rfl (fun h0 => ?_) (fun h0 => ?_)
 ·
  have h0 := dT h0
  refine cx_skip ?_
  refine cx_keep rfl rfl ?_
  refine cx_seq ?_
  refine cx_block ?_
  refine cx_drawL 13 5000 (fun _ => false) (fun _ => true) [] ([(1000, .rows 7 (((revK xs i).set i ((revK xs i)[(xs.length - 1 - i)]'(by omega))).map GRow.row))]) [[0], [2], [0], [3], [0], [3], [18, 19], [20], [0], [2], [22, 23], [24], [14, 15], [21, 26]] [[], [], [1000], [1000], [], [], [], [], [], [], [], [], [], [1000]] rfl ?_
  first | refine ⟨_, .inr ⟨rfl, _, rfl, .inl rfl, loc_q (q_mov rfl)⟩, ?_⟩
  first | refine ⟨_, .inr ⟨rfl, _, rfl, .inl rfl, loc_q (q_mov rfl)⟩, ?_⟩
  first | refine ⟨_, .inr ⟨rfl, _, rfl, .inr ⟨rfl, rfl, .inr rfl, rfl, rfl⟩, loc_q (q_mov rfl)⟩, ?_⟩
  first | refine ⟨_, .inr ⟨rfl, _, rfl, .inr ⟨rfl, rfl, .inr rfl, rfl, rfl⟩, loc_q (q_mov rfl)⟩, ?_⟩
  first | refine ⟨_, .inr ⟨rfl, _, rfl, .inl rfl, loc_q (q_mov rfl)⟩, ?_⟩
  first | refine ⟨_, .inr ⟨rfl, _, rfl, .inl rfl, loc_q (q_mov rfl)⟩, ?_⟩
  first | refine ⟨_, .inr ⟨rfl, _, rfl, .inl rfl, loc_q (q_ixoI rfl rfl (by omega) (by omega))⟩, ?_⟩
  first | refine ⟨_, .inr ⟨rfl, _, rfl, .inl rfl, loc_q (q_loadN_rptr (r := GRow.row ((revK xs i)[(xs.length - 1 - i)]'(by omega))) rfl rfl (by rw [show ((xs.length : Int) - 1 - i).toNat = (xs.length - 1 - i) from by omega]; exact mapAt (by omega)) (by decide))⟩, ?_⟩
  first | refine ⟨_, .inr ⟨rfl, _, rfl, .inl rfl, loc_q (q_mov rfl)⟩, ?_⟩
  first | refine ⟨_, .inr ⟨rfl, _, rfl, .inl rfl, loc_q (q_mov rfl)⟩, ?_⟩
  first | refine ⟨_, .inr ⟨rfl, _, rfl, .inl rfl, loc_q (q_ixo rfl rfl (by omega))⟩, ?_⟩
  first | refine ⟨_, .inr ⟨rfl, _, rfl, .inl rfl, loc_q (q_loadN_rptr (r := GRow.row ((revK xs i)[i]'(by omega))) rfl rfl (mapAt (by omega)) (by decide))⟩, ?_⟩
  first | refine ⟨_, .inr ⟨rfl, _, rfl, .inl rfl, loc_q (q_ixo rfl rfl (by omega))⟩, ?_⟩
  refine ⟨⟨5000, .dead, []⟩, .inl ⟨rfl, rfl, rfl, locl_str (row := GRow.row ((revK xs i)[i]'(by omega))) (q := GRow.row ((revK xs i)[(xs.length - 1 - i)]'(by omega))) rfl rfl rfl rfl rfl rfl (mapAt (by omega)) rfl rfl List.map_set.symm⟩, ?_⟩
  refine ⟨rfl, ?_⟩
  refine ax_q (q_ixoI rfl rfl (by omega) (by omega)) ?_
  refine ax_e (e_str (i := ((xs.length : Int) - 1 - i).toNat) (rs' := (((revK xs i).set i ((revK xs i)[(xs.length - 1 - i)]'(by omega))).set (xs.length - 1 - i) ((revK xs i)[i]'(by omega))).map GRow.row) (row := GRow.row (((revK xs i).set i ((revK xs i)[(xs.length - 1 - i)]'(by omega)))[(xs.length - 1 - i)]'(by rw [List.length_set]; omega))) (q := GRow.row ((revK xs i)[i]'(by omega))) rfl rfl rfl rfl rfl rfl (by rw [show ((xs.length : Int) - 1 - i).toNat = (xs.length - 1 - i) from by omega]; exact mapAt (by rw [List.length_set]; omega)) rfl rfl (by rw [show ((xs.length : Int) - 1 - i).toNat = (xs.length - 1 - i) from by omega]; exact List.map_set.symm)) ?_
  refine ax_nil ?_
  refine cx_keep rfl rfl ?_
  refine cx_ops ?_
  refine ax_q (q_mov rfl) ?_
  refine ax_qe (r' := int ((i + 1 : Nat) : Int)) (q_ibin rfl rfl rfl) (by rw [wi (by omega) (by omega)]; rfl) ?_
  refine ax_q (q_mov rfl) ?_
  refine ax_qe (r' := int ((xs.length : Int) - 1 - ((i + 1 : Nat) : Int))) (q_ibin rfl rfl rfl) (by rw [wi (by omega) (by omega)]; exact congrArg AM.int (by omega)) ?_
  refine ax_q (q_mov rfl) ?_
  refine ax_q (q_mov rfl) ?_
  refine ax_nil ?_
  exact ⟨_, i + 1, by omega, ⟨by omega, rfl⟩, by rw [show revK xs (i + 1) = _ from swpL_at (l := revK xs i) (by omega) (by omega)]; exact (by repeat (first | exact trivial | refine ⟨rfl, ?_⟩ | refine ⟨?_, ?_⟩))⟩
 ·
  have h0 := dF h0
  have he : revK xs i = xs.reverse := revK_all hi (by omega)
  rw [he]
  refine cx_exit rfl ?_
  refine retN id [1000] rfl rfl rfl rfl rfl ?_
  exact ⟨rfl, rfl⟩


/- loop.example/g00332/impl.sortRows -/
def k_c_sortRows : XCode :=
 .seq (.ops [.op (some 4) (.box (.t 1)),
   .op (some 6) (.mov (.k (.nils 7)))])
 (.keep [0, 2, 4] (.seq (.ops [.op (some 8) (.mov (.t 0)),
   .call (some 9) 29 [.t 8],
   .op (some 7) (.mov (.t 9))])
 (.keep [2, 4, 7] (.seq (.ops [.op (some 10) (.mov (.t 7)),
   .op (some 11) (.mkfn 31 [.t 4]),
   .call (some 12) 30 [.t 10, .t 11]])
 (.keep [2, 7] (.seq (.seq (.ops [.op (some 13) (.mov (.t 2))])
  (.keep [7, 13] (.cond (.t 13)
  (.ops [.op (some 14) (.mov (.t 7)),
    .call (some 15) 36 [.t 14]])
  (.skip))))
 (.keep [7] (.seq (.ops [.op (some 16) (.mov (.t 7)),
   .op (some 6) (.mov (.t 16))])
 (.keep [6] (.ret))))))))))
theorem k_c_sortRows_fits : fitsF Try.prog 18 ⟨17, k_c_sortRows, [.t 6]⟩ = true := by kernel_rfl
theorem c_sortRows {xs : List GRow} {k : Int} {down : Bool} (hl : xs.length ≤ 100) (hn : ndId xs) (hk : 0 ≤ k ∧ k ≤ 2) : Con Try.prog noMv 18 [.d (.sl 7 (xs.map GRow.row)), int k, bool down] [] (fun r h => r = .osl 0 7 0 (srtF xs k down).length ∧ h = [(0, .rows 7 ((srtF xs k down).map GRow.row))]) := by
 refine con_of2 k_c_sortRows_fits rfl fun C hP hmv => ?_
 unfold k_c_sortRows
 refine cx_seq ?_
 refine cx_ops ?_
 refine ax_e (e_box rfl rfl (by decide) rfl rfl rfl) ?_
 refine ax_q (q_mov rfl) ?_
 refine ax_nil ?_
 refine cx_keep rfl rfl ?_
 refine cx_seq ?_
 refine cx_ops ?_
 refine ax_q (q_mov rfl) ?_
 refine ax_call rfl (vc_pure (c_Clone_Row  ?_) hP rfl ?_)
 ·
  first | assumption | omega
 rintro r h ⟨rfl, rfl⟩
 refine ⟨fun i => 9 + 200 * i, [0], ⟨rfl, rfl, rfl, rfl, rfl, (by first | exact (fun h => absurd h Bool.false_ne_true) | exact (fun _ => ⟨rfl, (noisl_of (by repeat (first | exact trivial | refine ⟨noisl_map (fun _ => rfl), ?_⟩ | refine ⟨?_, ?_⟩)))⟩))⟩, ?_⟩
 skip
 refine ax_q (q_mov rfl) ?_
 refine ax_nil ?_
 refine cx_keep rfl rfl ?_
 refine cx_seq ?_
 refine cx_ops ?_
 refine ax_q (q_mov rfl) ?_
 refine ax_q (q_mkfn rfl) ?_
 have cS : Con Try.prog noMv 30 [.osl 1000 7 0 xs.length, .d (.fn (.func 31) [.ip [.int .i64 k]])] [(1000, .rows 7 (xs.map GRow.row))] (fun r h => r = .tup [] ∧ h = [(1000, .rows 7 ((sortS (ltR k) xs).map GRow.row))]) := by
  by_cases h12 : xs.length ≤ 12
  ·
   exact c_SortFunc (ds := [.ip [.int .i64 k]]) (cmpR k) h12 (by kernel_rfl) (fun a _ b _ => c_sortRows1 hk)
  ·
   exact (c_SortBig (ds := [.ip [.int .i64 k]]) (cmp := cmpR k) (by omega) (by omega) (by kernel_rfl) (gc_R k) (fun a b => c_sortRows1 hk)).mono (fun r h ⟨h1, l, h2, h3, h4⟩ => ⟨h1, by rw [← sort_uniq hn h2 h3]; exact h4⟩)
 refine ax_call rfl (vcall_own (cS) hP hmv true (fun _ => 9) [1000] ⟨rfl, rfl, rfl, rfl, ⟨rfl, trivial⟩, rfl, rfl, rfl⟩ (.pass rfl rfl (.lend (LA.lend (Lend.fn (LendL.cons (Lend.ptr rfl (LendL.cons (Lend.d _) LendL.nil)) LendL.nil))) .nil)) ?_)
 rintro r h ⟨rfl, rfl⟩
 refine ⟨fun _ => 9, [], ⟨rfl, rfl, rfl, rfl, mem1 rfl, rfl, rfl, fun _ => ⟨rfl, noisl_of (show noislL [_] from ⟨noisl_map (fun _ => rfl), trivial⟩)⟩⟩, ?_⟩
 have hsl : (sortS (ltR k) xs).length = xs.length := sortS_len
 refine ax_nil ?_
 refine cx_keep rfl rfl ?_
 refine cx_seq ?_
 refine cx_seq ?_
 refine cx_ops ?_
 refine ax_q (q_mov rfl) ?_
 refine ax_nil ?_
 refine cx_keep rfl rfl ?_
 refine cx_cond rfl (fun h0 => ?_) (fun h0 => ?_)
 ·
  skip
  refine cx_ops ?_
  refine ax_q (q_mov rfl) ?_
  rw [← hsl]
  refine ax_call rfl (vcall_own (c_Reverse (xs := (sortS (ltR k) xs)) (by omega)) hP hmv false (fun _ => 9) [1000] ⟨rfl, rfl, rfl, rfl, ⟨rfl, trivial⟩, rfl, rfl, rfl⟩ (.pass rfl rfl .nil) ?_)
  rintro r h ⟨rfl, rfl⟩
  refine ⟨fun _ => 9, [], ⟨rfl, rfl, rfl, rfl, mem1 rfl, rfl, rfl, fun h => absurd h Bool.false_ne_true⟩, ?_⟩
  refine ax_nil ?_
  refine cx_keep rfl rfl ?_
  refine cx_seq ?_
  refine cx_ops ?_
  refine ax_q (q_mov rfl) ?_
  refine ax_q (q_mov rfl) ?_
  refine ax_nil ?_
  refine cx_keep rfl rfl ?_
  refine cx_ret (retN (fun _ => 0) [9] rfl rfl rfl rfl rfl ?_)
  unfold srtF; rw [if_pos h0]; exact ⟨by rw [List.length_reverse]; rfl, rfl⟩
 ·
  skip
  refine cx_skip ?_
  refine cx_keep rfl rfl ?_
  refine cx_seq ?_
  refine cx_ops ?_
  refine ax_q (q_mov rfl) ?_
  refine ax_q (q_mov rfl) ?_
  refine ax_nil ?_
  refine cx_keep rfl rfl ?_
  refine cx_ret (retN (fun _ => 0) [9] rfl rfl rfl rfl rfl ?_)
  unfold srtF; rw [if_neg (by rw [h0]; simp)]; exact ⟨by rw [hsl]; rfl, rfl⟩


/- loop.example/g00332/impl.SortRows -/
def k_c_SortRows : XCode :=
 .seq (.ops [.op (some 6) (.mov (.k (.nils 7))),
   .op (some 7) (.mov (.k (.int .i64 0)))])
 (.keep [0, 1, 2] (.seq (.block 0 (.seq (.ops [.op (some 9) (.mov (.t 0)),
    .op (some 10) (.lenS (.t 9)),
    .op (some 11) (.bin .gtr (.t 10) (.k (.int .i64 4096))),
    .op (some 8) (.mov (.t 11))])
  (.keep [0, 1, 2, 8] (.cond (.t 8)
   (.seq (.ops [.op (some 6) (.mov (.k (.nils 7))),
     .op (some 7) (.mov (.k (.int .i64 2)))])
   (.keep [6, 7] (.ret)))
   (.seq (.ops [.op (some 13) (.mov (.t 0)),
     .op (some 14) (.lenS (.t 13)),
     .op (some 15) (.bin .gtr (.t 14) (.k (.int .i64 100))),
     .op (some 12) (.mov (.t 15))])
   (.keep [0, 1, 2, 12] (.cond (.t 12)
    (.seq (.ops [.op (some 6) (.mov (.k (.nils 7))),
      .op (some 7) (.mov (.k (.int .i64 6)))])
    (.keep [6, 7] (.ret)))
    (.seq (.ops [.op (some 17) (.mov (.t 0)),
      .call (some 18) 16 [.t 17],
      .op (some 19) (.not (.t 18)),
      .op (some 16) (.mov (.t 19))])
    (.keep [0, 1, 2, 16] (.cond (.t 16)
     (.seq (.ops [.op (some 6) (.mov (.k (.nils 7))),
       .op (some 7) (.mov (.k (.int .i64 1)))])
     (.keep [6, 7] (.ret)))
     (.seq (.ops [.op (some 21) (.mov (.t 1)),
       .call (some 22) 17 [.t 21, .k (.int .i64 3)],
       .op (some 23) (.not (.t 22)),
       .op (some 20) (.mov (.t 23))])
     (.keep [0, 1, 2, 20] (.cond (.t 20)
      (.seq (.ops [.op (some 6) (.mov (.k (.nils 7))),
        .op (some 7) (.mov (.k (.int .i64 4)))])
      (.keep [6, 7] (.ret)))
      (.skip))))))))))))))
 (.keep [0, 1, 2] (.seq (.ops [.op (some 24) (.mov (.t 0)),
   .op (some 25) (.mov (.t 1)),
   .op (some 26) (.mov (.t 2)),
   .call (some 27) 18 [.t 24, .t 25, .t 26],
   .op (some 6) (.mov (.t 27)),
   .op (some 7) (.mov (.k (.int .i64 0)))])
 (.keep [6, 7] (.ret))))))
theorem k_c_SortRows_fits : fitsF Try.prog 7 ⟨28, k_c_SortRows, [.t 6, .t 7]⟩ = true := by kernel_rfl
theorem c_SortRows {xs : List GRow} {k : Int} {down : Bool} (hl : xs.length ≤ 1048576) (hsz : ∀ x ∈ xs, x.N.T.length ≤ 1048576 ∧ x.Name.T.length ≤ 1048576) : Con Try.prog noMv 7 [.d (.sl 7 (xs.map GRow.row)), int k, bool down] [] (fun r h => r = .tup [.osl 0 7 0 (srtRF xs k down).1.length, int (srtRF xs k down).2] ∧ h = [(0, .rows 7 ((srtRF xs k down).1.map GRow.row))]) := by
 refine con_of2 k_c_SortRows_fits rfl fun C hP hmv => ?_
 unfold k_c_SortRows
 refine cx_seq ?_
 refine cx_ops ?_
 refine ax_q (q_mov rfl) ?_
 refine ax_q (q_mov rfl) ?_
 refine ax_nil ?_
 refine cx_keep rfl rfl ?_
 refine cx_seq ?_
 refine cx_block ?_
 refine cx_seq ?_
 refine cx_ops ?_
 refine ax_q (q_mov rfl) ?_
 refine ax_q (q_lenS_map rfl) ?_
 refine ax_q (q_ibin rfl rfl rfl) ?_
 refine ax_q (q_mov rfl) ?_
 refine ax_nil ?_
 refine cx_keep rfl rfl ?_
 refine cx_cond rfl (fun h0 => ?_) (fun h0 => ?_)
 ·
  have h0 := dT h0
  refine cx_seq ?_
  refine cx_ops ?_
  refine ax_q (q_mov rfl) ?_
  refine ax_q (q_mov rfl) ?_
  refine ax_nil ?_
  refine cx_keep rfl rfl ?_
  refine cx_wk (wk_virt 901 7 rfl rfl rfl) ?_
  refine cx_wk (wk_zs 6 901 [] rfl rfl) ?_
  refine cx_ret (retN (fun _ => 0) [901] rfl rfl rfl rfl rfl ?_)
  rw [srtR_1 (by omega)]; exact ⟨rfl, rfl⟩
 ·
  have h0 := dF h0
  refine cx_seq ?_
  refine cx_ops ?_
  refine ax_q (q_mov rfl) ?_
  refine ax_q (q_lenS_map rfl) ?_
  refine ax_q (q_ibin rfl rfl rfl) ?_
  refine ax_q (q_mov rfl) ?_
  refine ax_nil ?_
  refine cx_keep rfl rfl ?_
  refine cx_cond rfl (fun h1 => ?_) (fun h1 => ?_)
  ·
   have h1 := dT h1
   refine cx_seq ?_
   refine cx_ops ?_
   refine ax_q (q_mov rfl) ?_
   refine ax_q (q_mov rfl) ?_
   refine ax_nil ?_
   refine cx_keep rfl rfl ?_
   refine cx_wk (wk_virt 901 7 rfl rfl rfl) ?_
   refine cx_wk (wk_zs 6 901 [] rfl rfl) ?_
   refine cx_ret (retN (fun _ => 0) [901] rfl rfl rfl rfl rfl ?_)
   rw [srtR_2 (by omega) (by omega)]; exact ⟨rfl, rfl⟩
  ·
   have h1 := dF h1
   refine cx_seq ?_
   refine cx_ops ?_
   refine ax_q (q_mov rfl) ?_
   refine ax_call rfl (vc_pure0 (c_areRows (xs := xs) ?_ ?_) hP rfl rfl ?_)
   ·
    first | assumption | omega
   ·
    assumption
   refine ax_q (q_not rfl) ?_
   refine ax_q (q_mov rfl) ?_
   refine ax_nil ?_
   refine cx_keep rfl rfl ?_
   refine cx_cond rfl (fun h2 => ?_) (fun h2 => ?_)
   ·
    have h2 := bT h2
    refine cx_seq ?_
    refine cx_ops ?_
    refine ax_q (q_mov rfl) ?_
    refine ax_q (q_mov rfl) ?_
    refine ax_nil ?_
    refine cx_keep rfl rfl ?_
    refine cx_wk (wk_virt 901 7 rfl rfl rfl) ?_
    refine cx_wk (wk_zs 6 901 [] rfl rfl) ?_
    refine cx_ret (retN (fun _ => 0) [901] rfl rfl rfl rfl rfl ?_)
    rw [srtR_3 (by omega) h2]; exact ⟨rfl, rfl⟩
   ·
    have h2 := bF h2
    refine cx_seq ?_
    refine cx_ops ?_
    refine ax_q (q_mov rfl) ?_
    refine ax_call rfl (vc_pure0 (c_isPlace  ?_) hP rfl rfl ?_)
    ·
     first | assumption | omega
    refine ax_q (q_not rfl) ?_
    refine ax_q (q_mov rfl) ?_
    refine ax_nil ?_
    refine cx_keep rfl rfl ?_
    refine cx_cond rfl (fun h3 => ?_) (fun h3 => ?_)
    ·
     have h3 := bT h3
     refine cx_seq ?_
     refine cx_ops ?_
     refine ax_q (q_mov rfl) ?_
     refine ax_q (q_mov rfl) ?_
     refine ax_nil ?_
     refine cx_keep rfl rfl ?_
     refine cx_wk (wk_virt 901 7 rfl rfl rfl) ?_
     refine cx_wk (wk_zs 6 901 [] rfl rfl) ?_
     refine cx_ret (retN (fun _ => 0) [901] rfl rfl rfl rfl rfl ?_)
     rw [srtR_4 (by omega) h2 h3]; exact ⟨rfl, rfl⟩
    ·
     have h3 := bF h3
     have hn := good_nd h2
     have hkk := inR_iff.1 h3
     refine cx_skip ?_
     refine cx_keep rfl rfl ?_
     refine cx_seq ?_
     refine cx_ops ?_
     refine ax_q (q_mov rfl) ?_
     refine ax_q (q_mov rfl) ?_
     refine ax_q (q_mov rfl) ?_
     refine ax_call rfl (vc_pure (c_sortRows (xs := xs) (k := k) (down := down) ?_ ?_ ?_) hP rfl ?_)
     ·
      first | assumption | omega
     ·
      assumption
     ·
      assumption
     rintro r h ⟨rfl, rfl⟩
     refine ⟨fun i => 27 + 200 * i, [0], ⟨rfl, rfl, rfl, rfl, rfl, (by first | exact (fun h => absurd h Bool.false_ne_true) | exact (fun _ => ⟨rfl, (noisl_of (by repeat (first | exact trivial | refine ⟨noisl_map (fun _ => rfl), ?_⟩ | refine ⟨?_, ?_⟩)))⟩))⟩, ?_⟩
     skip
     refine ax_q (q_mov rfl) ?_
     refine ax_q (q_mov rfl) ?_
     refine ax_nil ?_
     refine cx_keep rfl rfl ?_
     have e := @srtF_len xs k down
     refine cx_ret (retN (fun _ => 0) [27] rfl rfl rfl rfl rfl ?_)
     rw [srtR_5 (by omega) h2 h3]; exact ⟨rfl, rfl⟩


/- loop.example/g00332/laws.eqValue -/
def k_c_eqValue : XCode :=
 .seq (.ops [.op (some 2) (.box (.t 0)),
   .op (some 3) (.box (.t 1)),
   .op (some 4) (.mov (.k (.bool false)))])
 (.keep [2, 3] (.seq (.seq (.ops [.op (some 5) (.fadr (.t 2) 0),
   .op (some 6) (.load1 (.t 5)),
   .op (some 7) (.fadr (.t 3) 0),
   .op (some 8) (.load1 (.t 7)),
   .op (some 9) (.bin .neq (.t 6) (.t 8))])
  (.keep [2, 3, 9] (.cond (.t 9)
  (.seq (.ops [.op (some 4) (.mov (.k (.bool false)))])
   (.keep [4] (.ret)))
  (.skip))))
 (.keep [2, 3] (.seq (.seq (.ops [.op (some 10) (.fadr (.t 2) 1),
   .op (some 11) (.load1 (.t 10)),
   .op (some 12) (.fadr (.t 3) 1),
   .op (some 13) (.load1 (.t 12)),
   .op (some 14) (.bin .neq (.t 11) (.t 13))])
  (.keep [2, 3, 14] (.cond (.t 14)
  (.seq (.ops [.op (some 4) (.mov (.k (.bool false)))])
   (.keep [4] (.ret)))
  (.skip))))
 (.keep [2, 3] (.seq (.seq (.ops [.op (some 15) (.fadr (.t 2) 2),
   .op (some 16) (.load1 (.t 15)),
   .op (some 17) (.fadr (.t 3) 2),
   .op (some 18) (.load1 (.t 17)),
   .op (some 19) (.bin .neq (.t 16) (.t 18))])
  (.keep [19] (.cond (.t 19)
  (.seq (.ops [.op (some 4) (.mov (.k (.bool false)))])
   (.keep [4] (.ret)))
  (.skip))))
 (.keep [] (.seq (.ops [.op (some 4) (.mov (.k (.bool true)))])
 (.keep [4] (.ret))))))))))
theorem k_c_eqValue_fits : fitsF Try.prog 37 ⟨20, k_c_eqValue, [.t 4]⟩ = true := by kernel_rfl
theorem c_eqValue {a b : GValue}  : Con Try.prog noMv 37 [a.av, b.av] [] (fun r h => r = bool (eqb a b) ∧ h = []) := by
 refine con_of2 k_c_eqValue_fits rfl fun C hP hmv => ?_
 unfold k_c_eqValue
 refine cx_seq ?_
 refine cx_ops ?_
 refine ax_e (e_box rfl rfl (by decide) rfl rfl rfl) ?_
 refine ax_e (e_box rfl rfl (by decide) rfl rfl rfl) ?_
 refine ax_q (q_mov rfl) ?_
 refine ax_nil ?_
 refine cx_keep rfl rfl ?_
 refine cx_seq ?_
 refine cx_seq ?_
 refine cx_ops ?_
 refine ax_q (q_fadr_ptr rfl) ?_
 refine ax_q (q_load1_ptr rfl rfl rfl) ?_
 refine ax_q (q_fadr_ptr rfl) ?_
 refine ax_q (q_load1_ptr rfl rfl rfl) ?_
 refine ax_q (q_ibin rfl rfl rfl) ?_
 refine ax_nil ?_
 refine cx_keep rfl rfl ?_
 refine cx_cond rfl (fun h0 => ?_) (fun h0 => ?_)
 ·
  have h0 := nT h0
  refine cx_seq ?_
  refine cx_ops ?_
  refine ax_q (q_mov rfl) ?_
  refine ax_nil ?_
  refine cx_keep rfl rfl ?_
  refine cx_ret (ret0 rfl rfl ?_)
  exact ⟨congrArg AM.bool (eqb_f (fun h => h0 (by rw [h]))).symm, rfl⟩
 ·
  have h0 := nF h0
  refine cx_skip ?_
  refine cx_keep rfl rfl ?_
  refine cx_seq ?_
  refine cx_seq ?_
  refine cx_ops ?_
  refine ax_q (q_fadr_ptr rfl) ?_
  refine ax_q (q_load1_ptr rfl rfl rfl) ?_
  refine ax_q (q_fadr_ptr rfl) ?_
  refine ax_q (q_load1_ptr rfl rfl rfl) ?_
  refine ax_q (q_ibin rfl rfl rfl) ?_
  refine ax_nil ?_
  refine cx_keep rfl rfl ?_
  refine cx_cond rfl (fun h1 => ?_) (fun h1 => ?_)
  ·
   have h1 := nT h1
   refine cx_seq ?_
   refine cx_ops ?_
   refine ax_q (q_mov rfl) ?_
   refine ax_nil ?_
   refine cx_keep rfl rfl ?_
   refine cx_ret (ret0 rfl rfl ?_)
   exact ⟨congrArg AM.bool (eqb_f (fun h => h1 (by rw [h]))).symm, rfl⟩
  ·
   have h1 := nF h1
   refine cx_skip ?_
   refine cx_keep rfl rfl ?_
   refine cx_seq ?_
   refine cx_seq ?_
   refine cx_ops ?_
   refine ax_q (q_fadr_ptr rfl) ?_
   refine ax_q (q_load1_ptr rfl rfl rfl) ?_
   refine ax_q (q_fadr_ptr rfl) ?_
   refine ax_q (q_load1_ptr rfl rfl rfl) ?_
   refine ax_q (q_sbin rfl rfl rfl) ?_
   refine ax_nil ?_
   refine cx_keep rfl rfl ?_
   refine cx_cond rfl (fun h2 => ?_) (fun h2 => ?_)
   ·
    have h2 := nT h2
    refine cx_seq ?_
    refine cx_ops ?_
    refine ax_q (q_mov rfl) ?_
    refine ax_nil ?_
    refine cx_keep rfl rfl ?_
    refine cx_ret (ret0 rfl rfl ?_)
    exact ⟨congrArg AM.bool (eqb_f (fun h => h2 (by rw [h]))).symm, rfl⟩
   ·
    have h2 := nF h2
    refine cx_skip ?_
    refine cx_keep rfl rfl ?_
    refine cx_seq ?_
    refine cx_ops ?_
    refine ax_q (q_mov rfl) ?_
    refine ax_nil ?_
    refine cx_keep rfl rfl ?_
    refine cx_ret (ret0 rfl rfl ?_)
    exact ⟨congrArg AM.bool (eqb_t (GValue.ext1 h0 h1 h2)).symm, rfl⟩


/- loop.example/g00332/laws.eqRow -/
def k_c_eqRow : XCode :=
 .seq (.ops [.op (some 2) (.box (.t 0)),
   .op (some 3) (.box (.t 1)),
   .op (some 4) (.mov (.k (.bool false)))])
 (.keep [2, 3] (.seq (.seq (.ops [.op (some 5) (.fadr (.t 2) 0),
   .op (some 6) (.load1 (.t 5)),
   .op (some 7) (.fadr (.t 3) 0),
   .op (some 8) (.load1 (.t 7)),
   .op (some 9) (.bin .neq (.t 6) (.t 8))])
  (.keep [2, 3, 9] (.cond (.t 9)
  (.seq (.ops [.op (some 4) (.mov (.k (.bool false)))])
   (.keep [4] (.ret)))
  (.skip))))
 (.keep [2, 3] (.seq (.seq (.ops [.op (some 10) (.fadr (.t 2) 1),
   .op (some 11) (.loadN 3 (.t 10)),
   .op (some 12) (.fadr (.t 3) 1),
   .op (some 13) (.loadN 3 (.t 12)),
   .call (some 14) 37 [.t 11, .t 13],
   .op (some 15) (.not (.t 14))])
  (.keep [2, 3, 15] (.cond (.t 15)
  (.seq (.ops [.op (some 4) (.mov (.k (.bool false)))])
   (.keep [4] (.ret)))
  (.skip))))
 (.keep [2, 3] (.seq (.seq (.ops [.op (some 16) (.fadr (.t 2) 4),
   .op (some 17) (.loadN 3 (.t 16)),
   .op (some 18) (.fadr (.t 3) 4),
   .op (some 19) (.loadN 3 (.t 18)),
   .call (some 20) 37 [.t 17, .t 19],
   .op (some 21) (.not (.t 20))])
  (.keep [21] (.cond (.t 21)
  (.seq (.ops [.op (some 4) (.mov (.k (.bool false)))])
   (.keep [4] (.ret)))
  (.skip))))
 (.keep [] (.seq (.ops [.op (some 4) (.mov (.k (.bool true)))])
 (.keep [4] (.ret))))))))))
theorem k_c_eqRow_fits : fitsF Try.prog 19 ⟨22, k_c_eqRow, [.t 4]⟩ = true := by kernel_rfl
theorem c_eqRow {a b : GRow}  : Con Try.prog noMv 19 [a.av, b.av] [] (fun r h => r = bool (eqb a b) ∧ h = []) := by
 refine con_of2 k_c_eqRow_fits rfl fun C hP hmv => ?_
 unfold k_c_eqRow
 refine cx_seq ?_
 refine cx_ops ?_
 refine ax_e (e_box rfl rfl (by decide) rfl rfl rfl) ?_
 refine ax_e (e_box rfl rfl (by decide) rfl rfl rfl) ?_
 refine ax_q (q_mov rfl) ?_
 refine ax_nil ?_
 refine cx_keep rfl rfl ?_
 refine cx_seq ?_
 refine cx_seq ?_
 refine cx_ops ?_
 refine ax_q (q_fadr_ptr rfl) ?_
 refine ax_q (q_load1_ptr rfl rfl rfl) ?_
 refine ax_q (q_fadr_ptr rfl) ?_
 refine ax_q (q_load1_ptr rfl rfl rfl) ?_
 refine ax_q (q_ibin rfl rfl rfl) ?_
 refine ax_nil ?_
 refine cx_keep rfl rfl ?_
 refine cx_cond rfl (fun h0 => ?_) (fun h0 => ?_)
 ·
  have h0 := nT h0
  refine cx_seq ?_
  refine cx_ops ?_
  refine ax_q (q_mov rfl) ?_
  refine ax_nil ?_
  refine cx_keep rfl rfl ?_
  refine cx_ret (ret0 rfl rfl ?_)
  exact ⟨congrArg AM.bool (eqb_f (fun h => h0 (by rw [h]))).symm, rfl⟩
 ·
  have h0 := nF h0
  refine cx_skip ?_
  refine cx_keep rfl rfl ?_
  refine cx_seq ?_
  refine cx_seq ?_
  refine cx_ops ?_
  refine ax_q (q_fadr_ptr rfl) ?_
  refine ax_q (q_ldN rfl rfl rfl) ?_
  refine ax_q (q_fadr_ptr rfl) ?_
  refine ax_q (q_ldN rfl rfl rfl) ?_
  refine ax_call rfl (vc_pure0 (c_eqValue  ) hP rfl rfl ?_)
  refine ax_q (q_not rfl) ?_
  refine ax_nil ?_
  refine cx_keep rfl rfl ?_
  refine cx_cond rfl (fun h1 => ?_) (fun h1 => ?_)
  ·
   have h1 := bT h1
   refine cx_seq ?_
   refine cx_ops ?_
   refine ax_q (q_mov rfl) ?_
   refine ax_nil ?_
   refine cx_keep rfl rfl ?_
   refine cx_ret (ret0 rfl rfl ?_)
   exact ⟨congrArg AM.bool (eqb_f (fun h => by rw [h, eqb_rfl] at h1; cases h1)).symm, rfl⟩
  ·
   have h1 := bF h1
   refine cx_skip ?_
   refine cx_keep rfl rfl ?_
   refine cx_seq ?_
   refine cx_seq ?_
   refine cx_ops ?_
   refine ax_q (q_fadr_ptr rfl) ?_
   refine ax_q (q_ldN rfl rfl rfl) ?_
   refine ax_q (q_fadr_ptr rfl) ?_
   refine ax_q (q_ldN rfl rfl rfl) ?_
   refine ax_call rfl (vc_pure0 (c_eqValue  ) hP rfl rfl ?_)
   refine ax_q (q_not rfl) ?_
   refine ax_nil ?_
   refine cx_keep rfl rfl ?_
   refine cx_cond rfl (fun h2 => ?_) (fun h2 => ?_)
   ·
    have h2 := bT h2
    refine cx_seq ?_
    refine cx_ops ?_
    refine ax_q (q_mov rfl) ?_
    refine ax_nil ?_
    refine cx_keep rfl rfl ?_
    refine cx_ret (ret0 rfl rfl ?_)
    exact ⟨congrArg AM.bool (eqb_f (fun h => by rw [h, eqb_rfl] at h2; cases h2)).symm, rfl⟩
   ·
    have h2 := bF h2
    refine cx_skip ?_
    refine cx_keep rfl rfl ?_
    refine cx_seq ?_
    refine cx_ops ?_
    refine ax_q (q_mov rfl) ?_
    refine ax_nil ?_
    refine cx_keep rfl rfl ?_
    refine cx_ret (ret0 rfl rfl ?_)
    exact ⟨congrArg AM.bool (eqb_t (GRow.ext1 h0 (eqb_iff.1 h1) (eqb_iff.1 h2))).symm, rfl⟩


/- loop.example/g00332/laws.eqRowS -/
def k_c_eqRowS : XCode :=
 .seq (.ops [.op (some 4) (.mov (.k (.bool false)))])
 (.keep [0, 1] (.seq (.seq (.ops [.op (some 6) (.mov (.t 0)),
   .op (some 7) (.lenS (.t 6)),
   .op (some 8) (.mov (.t 1)),
   .op (some 9) (.lenS (.t 8)),
   .op (some 10) (.bin .neq (.t 7) (.t 9))])
  (.keep [0, 1, 10] (.cond (.t 10)
  (.seq (.ops [.op (some 4) (.mov (.k (.bool false)))])
   (.keep [4] (.ret)))
  (.skip))))
 (.keep [0, 1] (.seq (.seq (.ops [.op (some 5) (.mov (.k (.int .i64 0)))])
  (.keep [0, 1, 5] (.block 0 (.loop (.seq (.seq (.ops [.op (some 11) (.mov (.t 5)),
     .op (some 12) (.mov (.t 0)),
     .op (some 13) (.lenS (.t 12)),
     .op (some 14) (.bin .lss (.t 11) (.t 13))])
   (.keep [0, 1, 5, 14] (.cond (.t 14)
    (.skip)
    (.exit 0))))
   (.keep [0, 1, 5] (.seq (.block 1 (.seq (.draw [.op (some 17) (.mov (.t 0)),
     .op (some 18) (.mov (.t 5)),
     .op (some 19) (.iadr 7 (.t 17) (.t 18)),
     .op (some 20) (.loadN 7 (.t 19)),
     .op (some 21) (.mov (.t 1)),
     .op (some 22) (.mov (.t 5)),
     .op (some 23) (.iadr 7 (.t 21) (.t 22)),
     .op (some 24) (.loadN 7 (.t 23)),
     .call (some 25) 19 [.t 20, .t 24],
     .op (some 26) (.not (.t 25))])
    (.keep [0, 1, 5, 26] (.cond (.t 26)
    (.seq (.ops [.op (some 4) (.mov (.k (.bool false)))])
     (.keep [4] (.ret)))
    (.skip)))))
   (.keep [0, 1, 5] (.ops [.op (some 15) (.mov (.t 5)),
    .op (some 16) (.bin .add (.t 15) (.k (.int .i64 1))),
    .op (some 5) (.mov (.t 16))])))))))))
 (.keep [] (.seq (.ops [.op (some 4) (.mov (.k (.bool true)))])
 (.keep [4] (.ret))))))))
theorem k_c_eqRowS_fits : fitsF Try.prog 8 ⟨27, k_c_eqRowS, [.t 4]⟩ = true := by kernel_rfl
theorem c_eqRowS {xs ys : List GRow} (hw : xs.length ≤ 9223372036854775807) : Con Try.prog noMv 8 [.d (.sl 7 (xs.map GRow.row)), .d (.sl 7 (ys.map GRow.row))] [] (fun r h => r = bool (eqb xs ys) ∧ h = []) := by
 refine con_of2 k_c_eqRowS_fits rfl fun C hP hmv => ?_
 unfold k_c_eqRowS
 refine cx_seq ?_
 refine cx_ops ?_
 refine ax_q (q_mov rfl) ?_
 refine ax_nil ?_
 refine cx_keep rfl rfl ?_
 refine cx_seq ?_
 refine cx_seq ?_
 refine cx_ops ?_
 refine ax_q (q_mov rfl) ?_
 refine ax_q (q_lenS_map rfl) ?_
 refine ax_q (q_mov rfl) ?_
 refine ax_q (q_lenS_map rfl) ?_
 refine ax_q (q_ibin rfl rfl rfl) ?_
 refine ax_nil ?_
 refine cx_keep rfl rfl ?_
 refine cx_cond rfl (fun h0 => ?_) (fun h0 => ?_)
 ·
  have h0 := nT h0
  refine cx_seq ?_
  refine cx_ops ?_
  refine ax_q (q_mov rfl) ?_
  refine ax_nil ?_
  refine cx_keep rfl rfl ?_
  refine cx_ret (ret0 rfl rfl ?_)
  exact ⟨congrArg AM.bool (eqb_f (fun h => h0 (by rw [h]))).symm, rfl⟩
 ·
  have h0 := nF h0
  refine cx_skip ?_
  refine cx_keep rfl rfl ?_
  refine cx_seq ?_
  refine cx_seq ?_
  refine cx_ops ?_
  refine ax_q (q_mov rfl) ?_
  refine ax_nil ?_
  refine cx_keep rfl rfl ?_
  refine cx_block ?_
  have hl : xs.length = ys.length := by omega
  refine cx_loopU (fun n k => k ≤ xs.length ∧ n = xs.length - k ∧ xs.take k = ys.take k) (fun k : Nat => [(5, int k)]) (fun _ => []) ⟨_, 0, ⟨Nat.zero_le _, rfl, rfl⟩, by repeat (first | exact trivial | refine ⟨rfl, ?_⟩ | refine ⟨?_, ?_⟩)⟩ ?_
  rintro n k ⟨hk, rfl, ht⟩
  refine cx_seq ?_
  refine cx_seq ?_
  refine cx_ops ?_
  refine ax_q (q_mov rfl) ?_
  refine ax_q (q_mov rfl) ?_
  refine ax_q (q_lenS_map rfl) ?_
  refine ax_q (q_ibin rfl rfl rfl) ?_
  refine ax_nil ?_
  refine cx_keep rfl rfl ?_
  refine cx_cond rfl (fun h1 => ?_) (fun h1 => ?_)
  ·
   have h1 := dT h1
   have h1x : k < xs.length := by omega
   have h1y : k < ys.length := by omega
   refine cx_skip ?_
   refine cx_keep rfl rfl ?_
   refine cx_seq ?_
   refine cx_block ?_
   refine cx_seq ?_
   refine cx_draw ?_
   refine ax_q (q_mov rfl) ?_
   refine ax_q (q_mov rfl) ?_
   refine ax_q (q_ix rfl rfl (mapAt h1x)) ?_
   first | refine ax_q (q_ldN rfl rfl rfl) ?_ | refine ax_q (q_loadN_ip rfl (Nat.le_refl _)) ?_
   refine ax_q (q_mov rfl) ?_
   refine ax_q (q_mov rfl) ?_
   refine ax_q (q_ix rfl rfl (mapAt h1y)) ?_
   first | refine ax_q (q_ldN rfl rfl rfl) ?_ | refine ax_q (q_loadN_ip rfl (Nat.le_refl _)) ?_
   refine ax_callq rfl (c_eqRow) hP (lal_id _ rfl) rfl ?_
   refine ax_q (q_not rfl) ?_
   refine ax_nil ?_
   refine cx_keep rfl rfl ?_
   refine cx_cond rfl (fun h2 => ?_) (fun h2 => ?_)
   ·
    have h2 := bT h2
    refine cx_seq ?_
    refine cx_ops ?_
    refine ax_q (q_mov rfl) ?_
    refine ax_nil ?_
    refine cx_keep rfl rfl ?_
    refine cx_ret (ret0 rfl rfl ?_)
    exact ⟨congrArg AM.bool (eqbL_no h1x h1y h2).symm, rfl⟩
   ·
    have h2 := bF h2
    refine cx_skip ?_
    refine cx_keep rfl rfl ?_
    refine cx_ops ?_
    refine ax_q (q_mov rfl) ?_
    refine ax_q (q_add rfl rfl (by omega)) ?_
    refine ax_q (q_mov rfl) ?_
    refine ax_nil ?_
    exact ⟨_, k + 1, by omega, ⟨by omega, rfl, eqbL_step h1x h1y ht h2⟩, by repeat (first | exact trivial | refine ⟨rfl, ?_⟩ | refine ⟨?_, ?_⟩)⟩
  ·
   have h1 := dF h1
   refine cx_exit rfl ?_
   refine cx_keep rfl rfl ?_
   refine cx_seq ?_
   refine cx_ops ?_
   refine ax_q (q_mov rfl) ?_
   refine ax_nil ?_
   refine cx_keep rfl rfl ?_
   refine cx_ret (ret0 rfl rfl ?_)
   exact ⟨congrArg AM.bool (eqb_t (eq_of_take hl (by rwa [show k = xs.length from by omega] at ht))).symm, rfl⟩


/- loop.example/g00332/laws.markText -/
def k_c_markText : XCode :=
 .seq (.ops [.op (some 2) (.mov (.k (.str [])))])
 (.keep [0] (.seq (.seq (.ops [.op (some 4) (.mov (.t 0)),
   .op (some 5) (.bin .leq (.t 4) (.k (.int .i64 0)))])
  (.keep [0, 5] (.cond (.t 5)
  (.seq (.ops [.op (some 2) (.mov (.k (.str [109, 48])))])
   (.keep [2] (.ret)))
  (.skip))))
 (.keep [0] (.seq (.ops [.op (some 3) (.mov (.k (.str [])))])
 (.keep [0, 3] (.seq (.block 0 (.loop (.seq (.seq (.ops [.op (some 6) (.mov (.t 0)),
     .op (some 7) (.bin .gtr (.t 6) (.k (.int .i64 0)))])
   (.keep [0, 3, 7] (.cond (.t 7)
    (.skip)
    (.exit 0))))
   (.keep [0, 3] (.block 1 (.seq (.ops [.op (some 8) (.mov (.t 0)),
     .op (some 9) (.bin .rem (.t 8) (.k (.int .i64 10))),
     .op (some 10) (.bin .add (.k (.int .i64 48)) (.t 9)),
     .op (some 11) (.conv .u8 (.t 10)),
     .op (some 12) (.bslice 1 [.t 11]),
     .op (some 13) (.b2s (.t 12)),
     .op (some 14) (.mov (.t 3)),
     .op (some 15) (.bin .add (.t 13) (.t 14)),
     .op (some 3) (.mov (.t 15))])
   (.keep [0, 3] (.ops [.op (some 16) (.mov (.t 0)),
    .op (some 17) (.bin .quo (.t 16) (.k (.int .i64 10))),
    .op (some 0) (.mov (.t 17))]))))))))
 (.keep [3] (.seq (.ops [.op (some 18) (.mov (.t 3)),
   .op (some 19) (.bin .add (.k (.str [109])) (.t 18)),
   .op (some 2) (.mov (.t 19))])
 (.keep [2] (.ret))))))))))
theorem k_c_markText_fits : fitsF Try.prog 20 ⟨20, k_c_markText, [.t 2]⟩ = true := by kernel_rfl
theorem c_markText {k : Nat} (hk : k ≤ 1000000000000000000) : Con Try.prog noMv 20 [int k] [] (fun r h => r = str (mkT k) ∧ h = []) := by
 refine con_of2 k_c_markText_fits rfl fun C hP hmv => ?_
 unfold k_c_markText
 refine cx_seq ?_
 refine cx_ops ?_
 refine ax_q (q_mov rfl) ?_
 refine ax_nil ?_
 refine cx_keep rfl rfl ?_
 refine cx_seq ?_
 refine cx_seq ?_
 refine cx_ops ?_
 refine ax_q (q_mov rfl) ?_
 refine ax_q (q_ibin rfl rfl rfl) ?_
 refine ax_nil ?_
 refine cx_keep rfl rfl ?_
 refine cx_cond rfl (fun h1 => ?_) (fun h1 => ?_)
 ·
  have h1 : k = 0 := by have := of_decide_eq_true h1; omega
  refine cx_seq ?_
  refine cx_ops ?_
  refine ax_q (q_mov rfl) ?_
  refine ax_nil ?_
  refine cx_keep rfl rfl ?_
  refine cx_ret (ret0 rfl rfl ?_)
  exact ⟨by rw [mkT, if_pos h1]; rfl, rfl⟩
 ·
  have h1 : k ≠ 0 := by have := of_decide_eq_false h1; omega
  refine cx_skip ?_
  refine cx_keep rfl rfl ?_
  refine cx_seq ?_
  refine cx_ops ?_
  refine ax_q (q_mov rfl) ?_
  refine ax_nil ?_
  refine cx_keep rfl rfl ?_
  refine cx_seq ?_
  refine cx_block ?_
  refine cx_loopU (fun n (p : Nat × Str) => n = p.1 ∧ ∃ f, digs f p.1 p.2 = digs 20 k [] ∧ p.1 < 10 ^ f ∧ f + p.2.length ≤ 20 ∧ p.1 ≤ k) (fun p => [(0, int p.1), (3, str p.2)]) (fun _ => []) ⟨_, (k, []), ⟨rfl, 20, rfl, by omega, by simp, Nat.le_refl _⟩, by repeat (first | exact trivial | refine ⟨rfl, ?_⟩ | refine ⟨?_, ?_⟩)⟩ ?_
  rintro m ⟨m2, o⟩ ⟨rfl, f, hd, hm, hf, hmk⟩
  simp only at hd hm hf hmk ⊢
  refine cx_seq ?_
  refine cx_seq ?_
  refine cx_ops ?_
  refine ax_q (q_mov rfl) ?_
  refine ax_q (q_ibin rfl rfl rfl) ?_
  refine ax_nil ?_
  refine cx_keep rfl rfl ?_
  refine cx_cond rfl (fun h2 => ?_) (fun h2 => ?_)
  ·
   have h2 : 0 < m := by have := of_decide_eq_true h2; omega
   obtain ⟨f, rfl⟩ : ∃ g, f = g + 1 := ⟨f - 1, by cases f with
    | zero => simp at hm; omega
    | succ f => rfl⟩
   have hd2 : ∃ f', digs f' (m / 10) (UInt8.ofNat (48 + m % 10) :: o) = digs 20 k [] ∧ m / 10 < 10 ^ f' ∧ f' + (UInt8.ofNat (48 + m % 10) :: o).length ≤ 20 ∧ m / 10 ≤ k := ⟨f, by rw [← hd, digs, if_neg (by omega)], by rw [Nat.pow_succ] at hm; omega, by simp only [List.length_cons]; omega, by omega⟩
   refine cx_skip ?_
   refine cx_keep rfl rfl ?_
   refine cx_block ?_
   refine cx_seq ?_
   refine cx_ops ?_
   refine ax_q (q_mov rfl) ?_
   refine ax_qe (r' := int ((m % 10 : Nat) : Int)) (q_idiv rfl rfl rfl (by decide)) (by rw [Int.tmod_eq_emod_of_nonneg (by omega)]; rfl) ?_
   refine ax_qe (r' := int ((48 + m % 10 : Nat) : Int)) (q_ibin rfl rfl rfl) (by rw [wi (by omega) (by omega)]; rfl) ?_
   refine ax_qe (r' := .d (.int .u8 ((UInt8.ofNat (48 + m % 10)).toNat : Int))) (q_conv rfl) (by rw [byteConv (by omega)]) ?_
   refine ax_e (e_bslice rfl (by decide) rfl rfl) ?_
   refine ax_q (q_b2s (bs := [UInt8.ofNat (48 + m % 10)]) rfl (src_osl rfl (by simp)) (by simp [byteRow]) ⟨_, _, _, _, .inl rfl⟩) ?_
   refine ax_q (q_mov rfl) ?_
   refine ax_qe (r' := str (UInt8.ofNat (48 + m % 10) :: o)) (q_sbin_add rfl rfl (by simp; omega)) (rfl) ?_
   refine ax_q (q_mov rfl) ?_
   refine ax_nil ?_
   refine cx_keep rfl rfl ?_
   refine cx_ops ?_
   refine ax_q (q_mov rfl) ?_
   refine ax_qe (r' := int ((m / 10 : Nat) : Int)) (q_idiv rfl rfl rfl (by decide)) (by rw [Int.tdiv_eq_ediv_of_nonneg (by omega), wi (by omega) (by omega)]; rfl) ?_
   refine ax_q (q_mov rfl) ?_
   refine ax_nil ?_
   exact ⟨_, (m / 10, UInt8.ofNat (48 + m % 10) :: o), by simp only; omega, ⟨rfl, hd2⟩, by repeat (first | exact trivial | refine ⟨rfl, ?_⟩ | refine ⟨?_, ?_⟩)⟩
  ·
   have h2 : m = 0 := by have := of_decide_eq_false h2; omega
   refine cx_exit rfl ?_
   refine cx_keep rfl rfl ?_
   refine cx_seq ?_
   refine cx_ops ?_
   refine ax_q (q_mov rfl) ?_
   refine ax_q (q_sbin_add rfl rfl (by simp; omega)) ?_
   refine ax_q (q_mov rfl) ?_
   refine ax_nil ?_
   refine cx_keep rfl rfl ?_
   refine cx_ret (ret0 rfl rfl ?_)
   exact ⟨by subst h2; rw [digs0] at hd; rw [hd, mkT, if_neg h1]; rfl, rfl⟩


/- loop.example/g00332/laws.markRowS -/
def k_c_markRowS : XCode :=
 .seq (.ops [.op (some 4) (.mov (.k (.int .i64 0)))])
 (.keep [0, 1] (.seq (.seq (.ops [.op (some 5) (.mov (.k (.int .i64 0)))])
  (.keep [0, 1, 5] (.block 0 (.loop (.seq (.seq (.ops [.op (some 6) (.mov (.t 5)),
     .op (some 7) (.mov (.t 0)),
     .op (some 8) (.lenS (.t 7)),
     .op (some 9) (.bin .lss (.t 6) (.t 8))])
   (.keep [0, 1, 5, 9] (.cond (.t 9)
    (.skip)
    (.exit 0))))
   (.keep [0, 1, 5] (.seq (.block 1 (.seq (.ops [.op (some 12) (.mov (.t 0)),
     .op (some 13) (.mov (.t 5)),
     .op (some 14) (.mov (.t 1)),
     .op (some 15) (.iadr 7 (.t 12) (.t 13)),
     .op (some 16) (.fadr (.t 15) 0),
     .op none (.store 1 (.t 16) (.t 14))])
    (.keep [0, 1, 5] (.seq (.ops [.op (some 17) (.mov (.t 1)),
     .op (some 18) (.bin .add (.t 17) (.k (.int .i64 1))),
     .op (some 1) (.mov (.t 18))])
    (.keep [0, 1, 5] (.seq (.ops [.op (some 19) (.mov (.t 0)),
     .op (some 20) (.mov (.t 5)),
     .op (some 21) (.mov (.t 1)),
     .op (some 22) (.iadr 7 (.t 19) (.t 20)),
     .op (some 23) (.fadr (.t 22) 1),
     .op (some 24) (.fadr (.t 23) 0),
     .op none (.store 1 (.t 24) (.t 21))])
    (.keep [0, 1, 5] (.seq (.ops [.op (some 25) (.mov (.t 1)),
     .op (some 26) (.bin .add (.t 25) (.k (.int .i64 1))),
     .op (some 1) (.mov (.t 26))])
    (.keep [0, 1, 5] (.seq (.ops [.op (some 27) (.mov (.t 0)),
     .op (some 28) (.mov (.t 5)),
     .op (some 29) (.mov (.t 1)),
     .op (some 30) (.iadr 7 (.t 27) (.t 28)),
     .op (some 31) (.fadr (.t 30) 1),
     .op (some 32) (.fadr (.t 31) 1),
     .op none (.store 1 (.t 32) (.t 29))])
    (.keep [0, 1, 5] (.seq (.ops [.op (some 33) (.mov (.t 1)),
     .op (some 34) (.bin .add (.t 33) (.k (.int .i64 1))),
     .op (some 1) (.mov (.t 34))])
    (.keep [0, 1, 5] (.seq (.ops [.op (some 35) (.mov (.t 0)),
     .op (some 36) (.mov (.t 5)),
     .op (some 37) (.mov (.t 1)),
     .call (some 38) 20 [.t 37],
     .op (some 39) (.iadr 7 (.t 35) (.t 36)),
     .op (some 40) (.fadr (.t 39) 1),
     .op (some 41) (.fadr (.t 40) 2),
     .op none (.store 1 (.t 41) (.t 38))])
    (.keep [0, 1, 5] (.seq (.ops [.op (some 42) (.mov (.t 1)),
     .op (some 43) (.bin .add (.t 42) (.k (.int .i64 1))),
     .op (some 1) (.mov (.t 43))])
    (.keep [0, 1, 5] (.seq (.ops [.op (some 44) (.mov (.t 0)),
     .op (some 45) (.mov (.t 5)),
     .op (some 46) (.mov (.t 1)),
     .op (some 47) (.iadr 7 (.t 44) (.t 45)),
     .op (some 48) (.fadr (.t 47) 4),
     .op (some 49) (.fadr (.t 48) 0),
     .op none (.store 1 (.t 49) (.t 46))])
    (.keep [0, 1, 5] (.seq (.ops [.op (some 50) (.mov (.t 1)),
     .op (some 51) (.bin .add (.t 50) (.k (.int .i64 1))),
     .op (some 1) (.mov (.t 51))])
    (.keep [0, 1, 5] (.seq (.ops [.op (some 52) (.mov (.t 0)),
     .op (some 53) (.mov (.t 5)),
     .op (some 54) (.mov (.t 1)),
     .op (some 55) (.iadr 7 (.t 52) (.t 53)),
     .op (some 56) (.fadr (.t 55) 4),
     .op (some 57) (.fadr (.t 56) 1),
     .op none (.store 1 (.t 57) (.t 54))])
    (.keep [0, 1, 5] (.seq (.ops [.op (some 58) (.mov (.t 1)),
     .op (some 59) (.bin .add (.t 58) (.k (.int .i64 1))),
     .op (some 1) (.mov (.t 59))])
    (.keep [0, 1, 5] (.seq (.ops [.op (some 60) (.mov (.t 0)),
     .op (some 61) (.mov (.t 5)),
     .op (some 62) (.mov (.t 1)),
     .call (some 63) 20 [.t 62],
     .op (some 64) (.iadr 7 (.t 60) (.t 61)),
     .op (some 65) (.fadr (.t 64) 4),
     .op (some 66) (.fadr (.t 65) 2),
     .op none (.store 1 (.t 66) (.t 63))])
    (.keep [0, 1, 5] (.ops [.op (some 67) (.mov (.t 1)),
     .op (some 68) (.bin .add (.t 67) (.k (.int .i64 1))),
     .op (some 1) (.mov (.t 68))]))))))))))))))))))))))))))))
   (.keep [0, 1, 5] (.ops [.op (some 10) (.mov (.t 5)),
    .op (some 11) (.bin .add (.t 10) (.k (.int .i64 1))),
    .op (some 5) (.mov (.t 11))])))))))))
 (.keep [1] (.seq (.ops [.op (some 69) (.mov (.t 1)),
   .op (some 4) (.mov (.t 69))])
 (.keep [4] (.ret))))))
theorem k_c_markRowS_fits : fitsF Try.prog 9 ⟨70, k_c_markRowS, [.t 4]⟩ = true := by kernel_rfl
theorem c_markRowS {xs : List GRow} {k0 : Nat} (hw : k0 + 7 * xs.length ≤ 1000000000000000000) : Con Try.prog noMv 9 [.osl 1000 7 0 xs.length, int k0] [(1000, .rows 7 (xs.map GRow.row))] (fun r h => r = int ((k0 + 7 * xs.length : Nat) : Int) ∧ h = [(1000, .rows 7 ((markL GRow.mk1 7 k0 xs).map GRow.row))]) := by
 refine con_of2 k_c_markRowS_fits rfl fun C hP hmv => ?_
 unfold k_c_markRowS
 refine cx_seq ?_
 refine cx_ops ?_
 refine ax_q (q_mov rfl) ?_
 refine ax_nil ?_
 refine cx_keep rfl rfl ?_
 refine cx_seq ?_
 refine cx_seq ?_
 refine cx_ops ?_
 refine ax_q (q_mov rfl) ?_
 refine ax_nil ?_
 refine cx_keep rfl rfl ?_
 refine cx_block ?_
 refine cx_loopU (fun n k => k ≤ xs.length ∧ n = xs.length - k) (fun k : Nat => [(1, int ((k0 + 7 * k : Nat) : Int)), (5, int k)]) (fun k => [(1000, .rows 7 ((markL GRow.mk1 7 k0 (xs.take k) ++ xs.drop k).map GRow.row))]) ⟨_, 0, ⟨Nat.zero_le _, rfl⟩, by repeat (first | exact trivial | refine ⟨rfl, ?_⟩ | refine ⟨?_, ?_⟩)⟩ ?_
 rintro n k ⟨hk, rfl⟩
 refine cx_seq ?_
 refine cx_seq ?_
 refine cx_ops ?_
 refine ax_q (q_mov rfl) ?_
 refine ax_q (q_mov rfl) ?_
 first | refine ax_q (q_lenS_map rfl) ?_ | refine ax_q (q_lenS_osl rfl) ?_
 refine ax_q (q_ibin rfl rfl rfl) ?_
 refine ax_nil ?_
 refine cx_keep rfl rfl ?_
 refine cx_cond rfl (fun h0 => ?_) (fun h0 => ?_)
 ·
  have h0 := dT h0
  have h1x : k < xs.length := by omega
  have h1l : k < ((markL GRow.mk1 7 k0 (xs.take k) ++ xs.drop k).map GRow.row).length := by rw [markL_mlen]; exact h1x
  refine cx_skip ?_
  refine cx_keep rfl rfl ?_
  refine cx_seq ?_
  refine cx_block ?_
  refine cx_seq ?_
  refine cx_ops ?_
  refine ax_q (q_mov rfl) ?_
  refine ax_q (q_mov rfl) ?_
  refine ax_q (q_mov rfl) ?_
  refine ax_q (q_ixo rfl rfl h1x) ?_
  first | refine ax_q (q_fadr_ptr rfl) ?_ | refine ax_q (q_fadr_rptr rfl) ?_
  refine ax_e (e_str (q := [.int .i64 ((k0 + 7 * k : Nat) : Int), .int .i64 xs[k].N.Kind, .int .i64 xs[k].N.N, .str xs[k].N.T, .int .i64 xs[k].Name.Kind, .int .i64 xs[k].Name.N, .str xs[k].Name.T]) rfl rfl rfl rfl rfl rfl (markL_at h1x) rfl rfl (rfl)) ?_
  refine ax_nil ?_
  refine cx_keep rfl rfl ?_
  refine cx_seq ?_
  refine cx_ops ?_
  refine ax_q (q_mov rfl) ?_
  refine ax_qe (r' := int ((k0 + 7 * k + 1 : Nat) : Int)) (q_ibin rfl rfl rfl) (by rw [wi (by omega) (by omega)]; rfl) ?_
  refine ax_q (q_mov rfl) ?_
  refine ax_nil ?_
  refine cx_keep rfl rfl ?_
  refine cx_seq ?_
  refine cx_ops ?_
  refine ax_q (q_mov rfl) ?_
  refine ax_q (q_mov rfl) ?_
  refine ax_q (q_mov rfl) ?_
  refine ax_q (q_ixo rfl rfl h1x) ?_
  first | refine ax_q (q_fadr_ptr rfl) ?_ | refine ax_q (q_fadr_rptr rfl) ?_
  first | refine ax_q (q_fadr_ptr rfl) ?_ | refine ax_q (q_fadr_rptr rfl) ?_
  refine ax_e (e_str (q := [.int .i64 ((k0 + 7 * k : Nat) : Int), .int .i64 ((k0 + 7 * k + 1 : Nat) : Int), .int .i64 xs[k].N.N, .str xs[k].N.T, .int .i64 xs[k].Name.Kind, .int .i64 xs[k].Name.N, .str xs[k].Name.T]) rfl rfl rfl rfl rfl rfl (setAt h1l) rfl rfl (set_set' rfl)) ?_
  refine ax_nil ?_
  refine cx_keep rfl rfl ?_
  refine cx_seq ?_
  refine cx_ops ?_
  refine ax_q (q_mov rfl) ?_
  refine ax_qe (r' := int ((k0 + 7 * k + 2 : Nat) : Int)) (q_ibin rfl rfl rfl) (by rw [wi (by omega) (by omega)]; rfl) ?_
  refine ax_q (q_mov rfl) ?_
  refine ax_nil ?_
  refine cx_keep rfl rfl ?_
  refine cx_seq ?_
  refine cx_ops ?_
  refine ax_q (q_mov rfl) ?_
  refine ax_q (q_mov rfl) ?_
  refine ax_q (q_mov rfl) ?_
  refine ax_q (q_ixo rfl rfl h1x) ?_
  first | refine ax_q (q_fadr_ptr rfl) ?_ | refine ax_q (q_fadr_rptr rfl) ?_
  first | refine ax_q (q_fadr_ptr rfl) ?_ | refine ax_q (q_fadr_rptr rfl) ?_
  refine ax_e (e_str (q := [.int .i64 ((k0 + 7 * k : Nat) : Int), .int .i64 ((k0 + 7 * k + 1 : Nat) : Int), .int .i64 ((k0 + 7 * k + 2 : Nat) : Int), .str xs[k].N.T, .int .i64 xs[k].Name.Kind, .int .i64 xs[k].Name.N, .str xs[k].Name.T]) rfl rfl rfl rfl rfl rfl (setAt h1l) rfl rfl (set_set' rfl)) ?_
  refine ax_nil ?_
  refine cx_keep rfl rfl ?_
  refine cx_seq ?_
  refine cx_ops ?_
  refine ax_q (q_mov rfl) ?_
  refine ax_qe (r' := int ((k0 + 7 * k + 3 : Nat) : Int)) (q_ibin rfl rfl rfl) (by rw [wi (by omega) (by omega)]; rfl) ?_
  refine ax_q (q_mov rfl) ?_
  refine ax_nil ?_
  refine cx_keep rfl rfl ?_
  refine cx_seq ?_
  refine cx_ops ?_
  refine ax_q (q_mov rfl) ?_
  refine ax_q (q_mov rfl) ?_
  refine ax_q (q_mov rfl) ?_
  refine ax_call rfl (vc_pure0 (c_markText (by omega)) hP rfl rfl ?_)
  refine ax_q (q_ixo rfl rfl h1x) ?_
  first | refine ax_q (q_fadr_ptr rfl) ?_ | refine ax_q (q_fadr_rptr rfl) ?_
  first | refine ax_q (q_fadr_ptr rfl) ?_ | refine ax_q (q_fadr_rptr rfl) ?_
  refine ax_e (e_str (q := [.int .i64 ((k0 + 7 * k : Nat) : Int), .int .i64 ((k0 + 7 * k + 1 : Nat) : Int), .int .i64 ((k0 + 7 * k + 2 : Nat) : Int), .str (mkT (k0 + 7 * k + 3)), .int .i64 xs[k].Name.Kind, .int .i64 xs[k].Name.N, .str xs[k].Name.T]) rfl rfl rfl rfl rfl rfl (setAt h1l) rfl rfl (set_set' rfl)) ?_
  refine ax_nil ?_
  refine cx_keep rfl rfl ?_
  refine cx_seq ?_
  refine cx_ops ?_
  refine ax_q (q_mov rfl) ?_
  refine ax_qe (r' := int ((k0 + 7 * k + 4 : Nat) : Int)) (q_ibin rfl rfl rfl) (by rw [wi (by omega) (by omega)]; rfl) ?_
  refine ax_q (q_mov rfl) ?_
  refine ax_nil ?_
  refine cx_keep rfl rfl ?_
  refine cx_seq ?_
  refine cx_ops ?_
  refine ax_q (q_mov rfl) ?_
  refine ax_q (q_mov rfl) ?_
  refine ax_q (q_mov rfl) ?_
  refine ax_q (q_ixo rfl rfl h1x) ?_
  first | refine ax_q (q_fadr_ptr rfl) ?_ | refine ax_q (q_fadr_rptr rfl) ?_
  first | refine ax_q (q_fadr_ptr rfl) ?_ | refine ax_q (q_fadr_rptr rfl) ?_
  refine ax_e (e_str (q := [.int .i64 ((k0 + 7 * k : Nat) : Int), .int .i64 ((k0 + 7 * k + 1 : Nat) : Int), .int .i64 ((k0 + 7 * k + 2 : Nat) : Int), .str (mkT (k0 + 7 * k + 3)), .int .i64 ((k0 + 7 * k + 4 : Nat) : Int), .int .i64 xs[k].Name.N, .str xs[k].Name.T]) rfl rfl rfl rfl rfl rfl (setAt h1l) rfl rfl (set_set' rfl)) ?_
  refine ax_nil ?_
  refine cx_keep rfl rfl ?_
  refine cx_seq ?_
  refine cx_ops ?_
  refine ax_q (q_mov rfl) ?_
  refine ax_qe (r' := int ((k0 + 7 * k + 5 : Nat) : Int)) (q_ibin rfl rfl rfl) (by rw [wi (by omega) (by omega)]; rfl) ?_
  refine ax_q (q_mov rfl) ?_
  refine ax_nil ?_
  refine cx_keep rfl rfl ?_
  refine cx_seq ?_
  refine cx_ops ?_
  refine ax_q (q_mov rfl) ?_
  refine ax_q (q_mov rfl) ?_
  refine ax_q (q_mov rfl) ?_
  refine ax_q (q_ixo rfl rfl h1x) ?_
  first | refine ax_q (q_fadr_ptr rfl) ?_ | refine ax_q (q_fadr_rptr rfl) ?_
  first | refine ax_q (q_fadr_ptr rfl) ?_ | refine ax_q (q_fadr_rptr rfl) ?_
  refine ax_e (e_str (q := [.int .i64 ((k0 + 7 * k : Nat) : Int), .int .i64 ((k0 + 7 * k + 1 : Nat) : Int), .int .i64 ((k0 + 7 * k + 2 : Nat) : Int), .str (mkT (k0 + 7 * k + 3)), .int .i64 ((k0 + 7 * k + 4 : Nat) : Int), .int .i64 ((k0 + 7 * k + 5 : Nat) : Int), .str xs[k].Name.T]) rfl rfl rfl rfl rfl rfl (setAt h1l) rfl rfl (set_set' rfl)) ?_
  refine ax_nil ?_
  refine cx_keep rfl rfl ?_
  refine cx_seq ?_
  refine cx_ops ?_
  refine ax_q (q_mov rfl) ?_
  refine ax_qe (r' := int ((k0 + 7 * k + 6 : Nat) : Int)) (q_ibin rfl rfl rfl) (by rw [wi (by omega) (by omega)]; rfl) ?_
  refine ax_q (q_mov rfl) ?_
  refine ax_nil ?_
  refine cx_keep rfl rfl ?_
  refine cx_seq ?_
  refine cx_ops ?_
  refine ax_q (q_mov rfl) ?_
  refine ax_q (q_mov rfl) ?_
  refine ax_q (q_mov rfl) ?_
  refine ax_call rfl (vc_pure0 (c_markText (by omega)) hP rfl rfl ?_)
  refine ax_q (q_ixo rfl rfl h1x) ?_
  first | refine ax_q (q_fadr_ptr rfl) ?_ | refine ax_q (q_fadr_rptr rfl) ?_
  first | refine ax_q (q_fadr_ptr rfl) ?_ | refine ax_q (q_fadr_rptr rfl) ?_
  refine ax_e (e_str (q := GRow.row (GRow.mk1 (k0 + 7 * k) xs[k])) rfl rfl rfl rfl rfl rfl (setAt h1l) rfl rfl (set_set' (markL_set h1x))) ?_
  refine ax_nil ?_
  refine cx_keep rfl rfl ?_
  refine cx_ops ?_
  refine ax_q (q_mov rfl) ?_
  refine ax_qe (r' := int ((k0 + 7 * k + 7 : Nat) : Int)) (q_ibin rfl rfl rfl) (by rw [wi (by omega) (by omega)]; rfl) ?_
  refine ax_q (q_mov rfl) ?_
  refine ax_nil ?_
  refine cx_keep rfl rfl ?_
  refine cx_ops ?_
  refine ax_q (q_mov rfl) ?_
  refine ax_qe (r' := int ((k + 1 : Nat) : Int)) (q_ibin rfl rfl rfl) (by rw [wi (by omega) (by omega)]; rfl) ?_
  refine ax_q (q_mov rfl) ?_
  refine ax_nil ?_
  exact ⟨_, k + 1, by omega, ⟨by omega, rfl⟩, by repeat (first | exact trivial | refine ⟨rfl, ?_⟩ | refine ⟨?_, ?_⟩)⟩
 ·
  have h0 := dF h0
  refine cx_exit rfl ?_
  refine cx_keep rfl rfl ?_
  refine cx_seq ?_
  refine cx_ops ?_
  refine ax_q (q_mov rfl) ?_
  refine ax_q (q_mov rfl) ?_
  refine ax_nil ?_
  refine cx_keep rfl rfl ?_
  have hk2 : k = xs.length := by omega
  subst hk2
  refine cx_ret (retN id [1000] rfl rfl rfl rfl rfl ?_)
  exact ⟨rfl, by rw [markL_full]; rfl⟩


/- loop.example/g00332/laws.heldRowS -/
def k_c_heldRowS : XCode :=
 .seq (.ops [.op (some 4) (.mov (.k (.int .i64 0)))])
 (.keep [0, 1] (.seq (.seq (.ops [.op (some 5) (.mov (.k (.int .i64 0)))])
  (.keep [0, 1, 5] (.block 0 (.loop (.seq (.seq (.ops [.op (some 6) (.mov (.t 5)),
     .op (some 7) (.mov (.t 0)),
     .op (some 8) (.lenS (.t 7)),
     .op (some 9) (.bin .lss (.t 6) (.t 8))])
   (.keep [0, 1, 5, 9] (.cond (.t 9)
    (.skip)
    (.exit 0))))
   (.keep [0, 1, 5] (.seq (.block 1 (.seq (.seq (.ops [.op (some 12) (.mov (.t 0)),
      .op (some 13) (.mov (.t 5)),
      .op (some 14) (.iadr 7 (.t 12) (.t 13)),
      .op (some 15) (.fadr (.t 14) 0),
      .op (some 16) (.load1 (.t 15)),
      .op (some 17) (.mov (.t 1)),
      .op (some 18) (.bin .neq (.t 16) (.t 17))])
    (.keep [0, 1, 5, 18] (.cond (.t 18)
     (.seq (.ops [.op (some 4) (.mov (.k (.int .i64 (-1))))])
     (.keep [4] (.ret)))
     (.skip))))
    (.keep [0, 1, 5] (.seq (.ops [.op (some 19) (.mov (.t 1)),
     .op (some 20) (.bin .add (.t 19) (.k (.int .i64 1))),
     .op (some 1) (.mov (.t 20))])
    (.keep [0, 1, 5] (.seq (.seq (.ops [.op (some 21) (.mov (.t 0)),
      .op (some 22) (.mov (.t 5)),
      .op (some 23) (.iadr 7 (.t 21) (.t 22)),
      .op (some 24) (.fadr (.t 23) 1),
      .op (some 25) (.fadr (.t 24) 0),
      .op (some 26) (.load1 (.t 25)),
      .op (some 27) (.mov (.t 1)),
      .op (some 28) (.bin .neq (.t 26) (.t 27))])
    (.keep [0, 1, 5, 28] (.cond (.t 28)
     (.seq (.ops [.op (some 4) (.mov (.k (.int .i64 (-1))))])
     (.keep [4] (.ret)))
     (.skip))))
    (.keep [0, 1, 5] (.seq (.ops [.op (some 29) (.mov (.t 1)),
     .op (some 30) (.bin .add (.t 29) (.k (.int .i64 1))),
     .op (some 1) (.mov (.t 30))])
    (.keep [0, 1, 5] (.seq (.seq (.ops [.op (some 31) (.mov (.t 0)),
      .op (some 32) (.mov (.t 5)),
      .op (some 33) (.iadr 7 (.t 31) (.t 32)),
      .op (some 34) (.fadr (.t 33) 1),
      .op (some 35) (.fadr (.t 34) 1),
      .op (some 36) (.load1 (.t 35)),
      .op (some 37) (.mov (.t 1)),
      .op (some 38) (.bin .neq (.t 36) (.t 37))])
    (.keep [0, 1, 5, 38] (.cond (.t 38)
     (.seq (.ops [.op (some 4) (.mov (.k (.int .i64 (-1))))])
     (.keep [4] (.ret)))
     (.skip))))
    (.keep [0, 1, 5] (.seq (.ops [.op (some 39) (.mov (.t 1)),
     .op (some 40) (.bin .add (.t 39) (.k (.int .i64 1))),
     .op (some 1) (.mov (.t 40))])
    (.keep [0, 1, 5] (.seq (.seq (.draw [.op (some 41) (.mov (.t 0)),
      .op (some 42) (.mov (.t 5)),
      .op (some 43) (.iadr 7 (.t 41) (.t 42)),
      .op (some 44) (.fadr (.t 43) 1),
      .op (some 45) (.fadr (.t 44) 2),
      .op (some 46) (.load1 (.t 45)),
      .op (some 47) (.mov (.t 1)),
      .call (some 48) 20 [.t 47],
      .op (some 49) (.bin .neq (.t 46) (.t 48))])
    (.keep [0, 1, 5, 49] (.cond (.t 49)
     (.seq (.ops [.op (some 4) (.mov (.k (.int .i64 (-1))))])
     (.keep [4] (.ret)))
     (.skip))))
    (.keep [0, 1, 5] (.seq (.ops [.op (some 50) (.mov (.t 1)),
     .op (some 51) (.bin .add (.t 50) (.k (.int .i64 1))),
     .op (some 1) (.mov (.t 51))])
    (.keep [0, 1, 5] (.seq (.seq (.ops [.op (some 52) (.mov (.t 0)),
      .op (some 53) (.mov (.t 5)),
      .op (some 54) (.iadr 7 (.t 52) (.t 53)),
      .op (some 55) (.fadr (.t 54) 4),
      .op (some 56) (.fadr (.t 55) 0),
      .op (some 57) (.load1 (.t 56)),
      .op (some 58) (.mov (.t 1)),
      .op (some 59) (.bin .neq (.t 57) (.t 58))])
    (.keep [0, 1, 5, 59] (.cond (.t 59)
     (.seq (.ops [.op (some 4) (.mov (.k (.int .i64 (-1))))])
     (.keep [4] (.ret)))
     (.skip))))
    (.keep [0, 1, 5] (.seq (.ops [.op (some 60) (.mov (.t 1)),
     .op (some 61) (.bin .add (.t 60) (.k (.int .i64 1))),
     .op (some 1) (.mov (.t 61))])
    (.keep [0, 1, 5] (.seq (.seq (.ops [.op (some 62) (.mov (.t 0)),
      .op (some 63) (.mov (.t 5)),
      .op (some 64) (.iadr 7 (.t 62) (.t 63)),
      .op (some 65) (.fadr (.t 64) 4),
      .op (some 66) (.fadr (.t 65) 1),
      .op (some 67) (.load1 (.t 66)),
      .op (some 68) (.mov (.t 1)),
      .op (some 69) (.bin .neq (.t 67) (.t 68))])
    (.keep [0, 1, 5, 69] (.cond (.t 69)
     (.seq (.ops [.op (some 4) (.mov (.k (.int .i64 (-1))))])
     (.keep [4] (.ret)))
     (.skip))))
    (.keep [0, 1, 5] (.seq (.ops [.op (some 70) (.mov (.t 1)),
     .op (some 71) (.bin .add (.t 70) (.k (.int .i64 1))),
     .op (some 1) (.mov (.t 71))])
    (.keep [0, 1, 5] (.seq (.seq (.draw [.op (some 72) (.mov (.t 0)),
      .op (some 73) (.mov (.t 5)),
      .op (some 74) (.iadr 7 (.t 72) (.t 73)),
      .op (some 75) (.fadr (.t 74) 4),
      .op (some 76) (.fadr (.t 75) 2),
      .op (some 77) (.load1 (.t 76)),
      .op (some 78) (.mov (.t 1)),
      .call (some 79) 20 [.t 78],
      .op (some 80) (.bin .neq (.t 77) (.t 79))])
    (.keep [0, 1, 5, 80] (.cond (.t 80)
     (.seq (.ops [.op (some 4) (.mov (.k (.int .i64 (-1))))])
     (.keep [4] (.ret)))
     (.skip))))
    (.keep [0, 1, 5] (.ops [.op (some 81) (.mov (.t 1)),
     .op (some 82) (.bin .add (.t 81) (.k (.int .i64 1))),
     .op (some 1) (.mov (.t 82))]))))))))))))))))))))))))))))
   (.keep [0, 1, 5] (.ops [.op (some 10) (.mov (.t 5)),
    .op (some 11) (.bin .add (.t 10) (.k (.int .i64 1))),
    .op (some 5) (.mov (.t 11))])))))))))
 (.keep [1] (.seq (.ops [.op (some 83) (.mov (.t 1)),
   .op (some 4) (.mov (.t 83))])
 (.keep [4] (.ret))))))
theorem k_c_heldRowS_fits : fitsF Try.prog 10 ⟨84, k_c_heldRowS, [.t 4]⟩ = true := by kernel_rfl
theorem c_heldRowS {xs : List GRow} {k0 : Nat} (hw : k0 + 7 * xs.length ≤ 1000000000000000000) : Con Try.prog noMv 10 [.d (.sl 7 ((markL GRow.mk1 7 k0 xs).map GRow.row)), int k0] [] (fun r h => r = int ((k0 + 7 * xs.length : Nat) : Int) ∧ h = []) := by
 refine con_of2 k_c_heldRowS_fits rfl fun C hP hmv => ?_
 unfold k_c_heldRowS
 refine cx_seq ?_
 refine cx_ops ?_
 refine ax_q (q_mov rfl) ?_
 refine ax_nil ?_
 refine cx_keep rfl rfl ?_
 refine cx_seq ?_
 refine cx_seq ?_
 refine cx_ops ?_
 refine ax_q (q_mov rfl) ?_
 refine ax_nil ?_
 refine cx_keep rfl rfl ?_
 refine cx_block ?_
 refine cx_loopU (fun m k => k ≤ xs.length ∧ m = xs.length - k) (fun k : Nat => [(1, int ((k0 + 7 * k : Nat) : Int)), (5, int k)]) (fun k => []) ⟨_, 0, ⟨Nat.zero_le _, rfl⟩, by repeat (first | exact trivial | refine ⟨rfl, ?_⟩ | refine ⟨?_, ?_⟩)⟩ ?_
 rintro m k ⟨hk, rfl⟩
 refine cx_seq ?_
 refine cx_seq ?_
 refine cx_ops ?_
 refine ax_q (q_mov rfl) ?_
 refine ax_q (q_mov rfl) ?_
 refine ax_q (q_lenS_map rfl) ?_
 refine ax_q (q_ibin rfl rfl rfl) ?_
 refine ax_nil ?_
 refine cx_keep rfl rfl ?_
 refine cx_cond rfl (fun h0 => ?_) (fun h0 => ?_)
 ·
  have h0 := dT h0; rw [markL_len] at h0; have h1x : k < xs.length := by omega
  refine cx_skip ?_
  refine cx_keep rfl rfl ?_
  refine cx_seq ?_
  refine cx_block ?_
  refine cx_seq ?_
  refine cx_seq ?_
  refine cx_ops ?_
  refine ax_q (q_mov rfl) ?_
  refine ax_q (q_mov rfl) ?_
  refine ax_q (q_ix rfl rfl (heldAt h1x)) ?_
  first | refine ax_q (q_fadr_ptr rfl) ?_ | refine ax_q (q_fadr_rptr rfl) ?_ | refine ax_q (q_fadr_ip rfl) ?_
  first | refine ax_q (q_load1_ptr rfl rfl rfl) ?_ | refine ax_q (q_load1_ip rfl) ?_
  refine ax_q (q_mov rfl) ?_
  refine ax_q (q_ibin rfl rfl rfl) ?_
  refine ax_nil ?_
  refine cx_keep rfl rfl ?_
  refine cx_cond rfl (fun h1 => ?_) (fun h1 => ?_)
  ·
   have h1 := nT h1
   exact absurd rfl h1
  ·
   have h1 := nF h1
   refine cx_skip ?_
   refine cx_keep rfl rfl ?_
   refine cx_seq ?_
   refine cx_ops ?_
   refine ax_q (q_mov rfl) ?_
   refine ax_qe (r' := int ((k0 + 7 * k + 1 : Nat) : Int)) (q_ibin rfl rfl rfl) (by rw [wi (by omega) (by omega)]; rfl) ?_
   refine ax_q (q_mov rfl) ?_
   refine ax_nil ?_
   refine cx_keep rfl rfl ?_
   refine cx_seq ?_
   refine cx_seq ?_
   refine cx_ops ?_
   refine ax_q (q_mov rfl) ?_
   refine ax_q (q_mov rfl) ?_
   refine ax_q (q_ix rfl rfl (heldAt h1x)) ?_
   first | refine ax_q (q_fadr_ptr rfl) ?_ | refine ax_q (q_fadr_rptr rfl) ?_ | refine ax_q (q_fadr_ip rfl) ?_
   first | refine ax_q (q_fadr_ptr rfl) ?_ | refine ax_q (q_fadr_rptr rfl) ?_ | refine ax_q (q_fadr_ip rfl) ?_
   first | refine ax_q (q_load1_ptr rfl rfl rfl) ?_ | refine ax_q (q_load1_ip rfl) ?_
   refine ax_q (q_mov rfl) ?_
   refine ax_q (q_ibin rfl rfl rfl) ?_
   refine ax_nil ?_
   refine cx_keep rfl rfl ?_
   refine cx_cond rfl (fun h2 => ?_) (fun h2 => ?_)
   ·
    have h2 := nT h2
    exact absurd rfl h2
   ·
    have h2 := nF h2
    refine cx_skip ?_
    refine cx_keep rfl rfl ?_
    refine cx_seq ?_
    refine cx_ops ?_
    refine ax_q (q_mov rfl) ?_
    refine ax_qe (r' := int ((k0 + 7 * k + 2 : Nat) : Int)) (q_ibin rfl rfl rfl) (by rw [wi (by omega) (by omega)]; rfl) ?_
    refine ax_q (q_mov rfl) ?_
    refine ax_nil ?_
    refine cx_keep rfl rfl ?_
    refine cx_seq ?_
    refine cx_seq ?_
    refine cx_ops ?_
    refine ax_q (q_mov rfl) ?_
    refine ax_q (q_mov rfl) ?_
    refine ax_q (q_ix rfl rfl (heldAt h1x)) ?_
    first | refine ax_q (q_fadr_ptr rfl) ?_ | refine ax_q (q_fadr_rptr rfl) ?_ | refine ax_q (q_fadr_ip rfl) ?_
    first | refine ax_q (q_fadr_ptr rfl) ?_ | refine ax_q (q_fadr_rptr rfl) ?_ | refine ax_q (q_fadr_ip rfl) ?_
    first | refine ax_q (q_load1_ptr rfl rfl rfl) ?_ | refine ax_q (q_load1_ip rfl) ?_
    refine ax_q (q_mov rfl) ?_
    refine ax_q (q_ibin rfl rfl rfl) ?_
    refine ax_nil ?_
    refine cx_keep rfl rfl ?_
    refine cx_cond rfl (fun h3 => ?_) (fun h3 => ?_)
    ·
     have h3 := nT h3
     exact absurd rfl h3
    ·
     have h3 := nF h3
     refine cx_skip ?_
     refine cx_keep rfl rfl ?_
     refine cx_seq ?_
     refine cx_ops ?_
     refine ax_q (q_mov rfl) ?_
     refine ax_qe (r' := int ((k0 + 7 * k + 3 : Nat) : Int)) (q_ibin rfl rfl rfl) (by rw [wi (by omega) (by omega)]; rfl) ?_
     refine ax_q (q_mov rfl) ?_
     refine ax_nil ?_
     refine cx_keep rfl rfl ?_
     refine cx_seq ?_
     refine cx_seq ?_
     refine cx_draw ?_
     refine ax_q (q_mov rfl) ?_
     refine ax_q (q_mov rfl) ?_
     refine ax_q (q_ix rfl rfl (heldAt h1x)) ?_
     first | refine ax_q (q_fadr_ptr rfl) ?_ | refine ax_q (q_fadr_rptr rfl) ?_ | refine ax_q (q_fadr_ip rfl) ?_
     first | refine ax_q (q_fadr_ptr rfl) ?_ | refine ax_q (q_fadr_rptr rfl) ?_ | refine ax_q (q_fadr_ip rfl) ?_
     first | refine ax_q (q_load1_ptr rfl rfl rfl) ?_ | refine ax_q (q_load1_ip rfl) ?_
     refine ax_q (q_mov rfl) ?_
     refine ax_callq rfl (c_markText (by omega)) hP (lal_id _ rfl) rfl ?_
     refine ax_q (q_sbin rfl rfl rfl) ?_
     refine ax_nil ?_
     refine cx_keep rfl rfl ?_
     refine cx_cond rfl (fun h4 => ?_) (fun h4 => ?_)
     ·
      have h4 := nT h4
      exact absurd rfl h4
     ·
      have h4 := nF h4
      refine cx_skip ?_
      refine cx_keep rfl rfl ?_
      refine cx_seq ?_
      refine cx_ops ?_
      refine ax_q (q_mov rfl) ?_
      refine ax_qe (r' := int ((k0 + 7 * k + 4 : Nat) : Int)) (q_ibin rfl rfl rfl) (by rw [wi (by omega) (by omega)]; rfl) ?_
      refine ax_q (q_mov rfl) ?_
      refine ax_nil ?_
      refine cx_keep rfl rfl ?_
      refine cx_seq ?_
      refine cx_seq ?_
      refine cx_ops ?_
      refine ax_q (q_mov rfl) ?_
      refine ax_q (q_mov rfl) ?_
      refine ax_q (q_ix rfl rfl (heldAt h1x)) ?_
      first | refine ax_q (q_fadr_ptr rfl) ?_ | refine ax_q (q_fadr_rptr rfl) ?_ | refine ax_q (q_fadr_ip rfl) ?_
      first | refine ax_q (q_fadr_ptr rfl) ?_ | refine ax_q (q_fadr_rptr rfl) ?_ | refine ax_q (q_fadr_ip rfl) ?_
      first | refine ax_q (q_load1_ptr rfl rfl rfl) ?_ | refine ax_q (q_load1_ip rfl) ?_
      refine ax_q (q_mov rfl) ?_
      refine ax_q (q_ibin rfl rfl rfl) ?_
      refine ax_nil ?_
      refine cx_keep rfl rfl ?_
      refine cx_cond rfl (fun h5 => ?_) (fun h5 => ?_)
      ·
       have h5 := nT h5
       exact absurd rfl h5
      ·
       have h5 := nF h5
       refine cx_skip ?_
       refine cx_keep rfl rfl ?_
       refine cx_seq ?_
       refine cx_ops ?_
       refine ax_q (q_mov rfl) ?_
       refine ax_qe (r' := int ((k0 + 7 * k + 5 : Nat) : Int)) (q_ibin rfl rfl rfl) (by rw [wi (by omega) (by omega)]; rfl) ?_
       refine ax_q (q_mov rfl) ?_
       refine ax_nil ?_
       refine cx_keep rfl rfl ?_
       refine cx_seq ?_
       refine cx_seq ?_
       refine cx_ops ?_
       refine ax_q (q_mov rfl) ?_
       refine ax_q (q_mov rfl) ?_
       refine ax_q (q_ix rfl rfl (heldAt h1x)) ?_
       first | refine ax_q (q_fadr_ptr rfl) ?_ | refine ax_q (q_fadr_rptr rfl) ?_ | refine ax_q (q_fadr_ip rfl) ?_
       first | refine ax_q (q_fadr_ptr rfl) ?_ | refine ax_q (q_fadr_rptr rfl) ?_ | refine ax_q (q_fadr_ip rfl) ?_
       first | refine ax_q (q_load1_ptr rfl rfl rfl) ?_ | refine ax_q (q_load1_ip rfl) ?_
       refine ax_q (q_mov rfl) ?_
       refine ax_q (q_ibin rfl rfl rfl) ?_
       refine ax_nil ?_
       refine cx_keep rfl rfl ?_
       refine cx_cond rfl (fun h6 => ?_) (fun h6 => ?_)
       ·
        have h6 := nT h6
        exact absurd rfl h6
       ·
        have h6 := nF h6
        refine cx_skip ?_
        refine cx_keep rfl rfl ?_
        refine cx_seq ?_
        refine cx_ops ?_
        refine ax_q (q_mov rfl) ?_
        refine ax_qe (r' := int ((k0 + 7 * k + 6 : Nat) : Int)) (q_ibin rfl rfl rfl) (by rw [wi (by omega) (by omega)]; rfl) ?_
        refine ax_q (q_mov rfl) ?_
        refine ax_nil ?_
        refine cx_keep rfl rfl ?_
        refine cx_seq ?_
        refine cx_seq ?_
        refine cx_draw ?_
        refine ax_q (q_mov rfl) ?_
        refine ax_q (q_mov rfl) ?_
        refine ax_q (q_ix rfl rfl (heldAt h1x)) ?_
        first | refine ax_q (q_fadr_ptr rfl) ?_ | refine ax_q (q_fadr_rptr rfl) ?_ | refine ax_q (q_fadr_ip rfl) ?_
        first | refine ax_q (q_fadr_ptr rfl) ?_ | refine ax_q (q_fadr_rptr rfl) ?_ | refine ax_q (q_fadr_ip rfl) ?_
        first | refine ax_q (q_load1_ptr rfl rfl rfl) ?_ | refine ax_q (q_load1_ip rfl) ?_
        refine ax_q (q_mov rfl) ?_
        refine ax_callq rfl (c_markText (by omega)) hP (lal_id _ rfl) rfl ?_
        refine ax_q (q_sbin rfl rfl rfl) ?_
        refine ax_nil ?_
        refine cx_keep rfl rfl ?_
        refine cx_cond rfl (fun h7 => ?_) (fun h7 => ?_)
        ·
         have h7 := nT h7
         exact absurd rfl h7
        ·
         have h7 := nF h7
         refine cx_skip ?_
         refine cx_keep rfl rfl ?_
         refine cx_ops ?_
         refine ax_q (q_mov rfl) ?_
         refine ax_qe (r' := int ((k0 + 7 * k + 7 : Nat) : Int)) (q_ibin rfl rfl rfl) (by rw [wi (by omega) (by omega)]; rfl) ?_
         refine ax_q (q_mov rfl) ?_
         refine ax_nil ?_
         refine cx_keep rfl rfl ?_
         refine cx_ops ?_
         refine ax_q (q_mov rfl) ?_
         refine ax_qe (r' := int ((k + 1 : Nat) : Int)) (q_ibin rfl rfl rfl) (by rw [wi (by omega) (by omega)]; rfl) ?_
         refine ax_q (q_mov rfl) ?_
         refine ax_nil ?_
         exact ⟨_, k + 1, by omega, ⟨by omega, rfl⟩, by repeat (first | exact trivial | refine ⟨rfl, ?_⟩ | refine ⟨?_, ?_⟩)⟩
 ·
  have h0 := dF h0; rw [markL_len] at h0; have h1x : k = xs.length := by omega
  refine cx_exit rfl ?_
  refine cx_keep rfl rfl ?_
  refine cx_seq ?_
  refine cx_ops ?_
  refine ax_q (q_mov rfl) ?_
  refine ax_q (q_mov rfl) ?_
  refine ax_nil ?_
  refine cx_keep rfl rfl ?_
  refine cx_ret (ret0 rfl rfl ?_)
  exact ⟨by rw [h1x]; rfl, rfl⟩

end Go.Proofs.Ytniiofjakmkdiaa
