/- The walks: what each function computes, as a contract without a world (part 1). -/
import Derived.Test.YtalnddcijlkklaaProg
import Derived.Test.YtalnddcijlkklaaW0
namespace Go.Proofs.Ytalnddcijlkklaa
open Go Go.AM
set_option maxRecDepth 10000
set_option linter.unusedVariables false
/- loop.example/g00332/laws.toRow -/
def k_c_toRow : XCode :=
  .seq (.ops [.op (some 1) (.box (.t 0)),
     .op (some 2) (.alloc [.int .i64 0, .int .i64 0, .int .i64 0, .str [], .int .i64 0, .int .i64 0, .str []])])
  (.keep [1, 2] (.seq (.ops [.op (some 3) (.alloc [.int .i64 0, .int .i64 0, .int .i64 0, .str [], .int .i64 0, .int .i64 0, .str []])])
  (.keep [1, 2, 3] (.seq (.ops [.op (some 4) (.fadr (.t 1) 0),
     .op (some 5) (.load1 (.t 4)),
     .op (some 6) (.fadr (.t 3) 0),
     .op none (.store 1 (.t 6) (.t 5))])
  (.keep [1, 2, 3] (.seq (.ops [.op (some 7) (.fadr (.t 1) 1),
     .op (some 8) (.loadN 3 (.t 7)),
     .call (some 9) 65 [.t 8],
     .op (some 10) (.fadr (.t 3) 1),
     .op none (.store 3 (.t 10) (.t 9))])
  (.keep [1, 2, 3] (.seq (.ops [.op (some 11) (.fadr (.t 1) 4),
     .op (some 12) (.loadN 3 (.t 11)),
     .call (some 13) 65 [.t 12],
     .op (some 14) (.fadr (.t 3) 4),
     .op none (.store 3 (.t 14) (.t 13))])
  (.keep [2, 3] (.seq (.ops [.op (some 15) (.loadN 7 (.t 3)),
     .op none (.store 7 (.t 2) (.t 15))])
  (.keep [2] (.ret))))))))))))
theorem k_c_toRow_fits : fitsF Try.prog 32 ⟨16, k_c_toRow, [.cN 2 7]⟩ = true := by kernel_rfl
theorem c_toRow {a : GRow} : Con Try.prog noMv 32 [a.av] [] (fun r h => r = a.av ∧ h = []) := by
  refine con_of2 k_c_toRow_fits rfl fun C hP hmv => ?_
  unfold k_c_toRow
  refine cx_seq ?_
  refine cx_ops ?_
  refine ax_e (e_box rfl rfl (by decide) rfl rfl rfl) ?_
  refine ax_e (e_alloc (by decide) rfl rfl) ?_
  refine ax_nil ?_
  refine cx_keep rfl rfl ?_
  refine cx_seq ?_
  refine cx_ops ?_
  refine ax_e (e_alloc (by decide) rfl rfl) ?_
  refine ax_nil ?_
  refine cx_keep rfl rfl ?_
  refine cx_seq ?_
  refine cx_ops ?_
  first | refine ax_q (q_fadr_ptr rfl) ?_ | refine ax_q (q_fadr_rptr rfl) ?_ | refine ax_q (q_fadr_ip rfl) ?_
  first | refine ax_q (q_load1_ptr rfl rfl rfl) ?_ | refine ax_q (q_load1_ip rfl) ?_ | refine ax_q (q_load1_rptr rfl rfl rfl rfl) ?_ | refine ax_q (q_load1_rptr rfl rfl (by assumption) rfl) ?_ | refine ax_q (q_load1_rptr rfl rfl (mapAt (by first | assumption | omega)) rfl) ?_
  first | refine ax_q (q_fadr_ptr rfl) ?_ | refine ax_q (q_fadr_rptr rfl) ?_ | refine ax_q (q_fadr_ip rfl) ?_
  refine ax_e (e_st rfl rfl rfl rfl rfl rfl rfl) ?_
  refine ax_nil ?_
  refine cx_keep rfl rfl ?_
  refine cx_seq ?_
  refine cx_ops ?_
  first | refine ax_q (q_fadr_ptr rfl) ?_ | refine ax_q (q_fadr_rptr rfl) ?_ | refine ax_q (q_fadr_ip rfl) ?_
  first | refine ax_q (q_ldN rfl rfl rfl) ?_ | refine ax_q (q_loadN_ip rfl (Nat.le_refl _)) ?_ | refine ax_q (q_loadN_ip rfl (by decide)) ?_ | refine ax_q (q_loadN_rptr rfl rfl (by assumption) (by decide)) ?_ | refine ax_q (q_loadN_rptr rfl rfl (mapAt (by first | assumption | omega)) (by decide)) ?_
  first | refine ax_call rfl (vc_pure0 (c_toValue  ) hP rfl rfl ?_) | refine ax_call rfl (vc_lend0 (c_toValue  ) hP (by repeat (first | exact lal_id _ rfl | exact LAL.nil | refine LAL.cons ?_ ?_ | exact la_id _ rfl | exact LA.lend (lend_whole rfl (by first | (simp; done) | (rw [List.length_map]; rfl))) | refine LA.agg ?_ | refine LA.fn ?_ | refine LA.lend ?_ | exact Lend.d _ | exact Lend.zs _ | exact lend_whole rfl (by first | (simp; done) | (rw [List.length_map]; rfl)) | refine Lend.ptr rfl ?_ | refine Lend.fn ?_ | exact LendL.nil | refine LendL.cons ?_ ?_)) rfl rfl ?_)
  first | refine ax_q (q_fadr_ptr rfl) ?_ | refine ax_q (q_fadr_rptr rfl) ?_ | refine ax_q (q_fadr_ip rfl) ?_
  refine ax_e (e_st rfl rfl rfl rfl rfl rfl rfl) ?_
  refine ax_nil ?_
  refine cx_keep rfl rfl ?_
  refine cx_seq ?_
  refine cx_ops ?_
  first | refine ax_q (q_fadr_ptr rfl) ?_ | refine ax_q (q_fadr_rptr rfl) ?_ | refine ax_q (q_fadr_ip rfl) ?_
  first | refine ax_q (q_ldN rfl rfl rfl) ?_ | refine ax_q (q_loadN_ip rfl (Nat.le_refl _)) ?_ | refine ax_q (q_loadN_ip rfl (by decide)) ?_ | refine ax_q (q_loadN_rptr rfl rfl (by assumption) (by decide)) ?_ | refine ax_q (q_loadN_rptr rfl rfl (mapAt (by first | assumption | omega)) (by decide)) ?_
  first | refine ax_call rfl (vc_pure0 (c_toValue  ) hP rfl rfl ?_) | refine ax_call rfl (vc_lend0 (c_toValue  ) hP (by repeat (first | exact lal_id _ rfl | exact LAL.nil | refine LAL.cons ?_ ?_ | exact la_id _ rfl | exact LA.lend (lend_whole rfl (by first | (simp; done) | (rw [List.length_map]; rfl))) | refine LA.agg ?_ | refine LA.fn ?_ | refine LA.lend ?_ | exact Lend.d _ | exact Lend.zs _ | exact lend_whole rfl (by first | (simp; done) | (rw [List.length_map]; rfl)) | refine Lend.ptr rfl ?_ | refine Lend.fn ?_ | exact LendL.nil | refine LendL.cons ?_ ?_)) rfl rfl ?_)
  first | refine ax_q (q_fadr_ptr rfl) ?_ | refine ax_q (q_fadr_rptr rfl) ?_ | refine ax_q (q_fadr_ip rfl) ?_
  refine ax_e (e_st rfl rfl rfl rfl rfl rfl rfl) ?_
  refine ax_nil ?_
  refine cx_keep rfl rfl ?_
  refine cx_seq ?_
  refine cx_ops ?_
  first | refine ax_q (q_ldN rfl rfl rfl) ?_ | refine ax_q (q_loadN_ip rfl (Nat.le_refl _)) ?_ | refine ax_q (q_loadN_ip rfl (by decide)) ?_ | refine ax_q (q_loadN_rptr rfl rfl (by assumption) (by decide)) ?_ | refine ax_q (q_loadN_rptr rfl rfl (mapAt (by first | assumption | omega)) (by decide)) ?_
  refine ax_e (e_st rfl rfl rfl rfl rfl rfl rfl) ?_
  refine ax_nil ?_
  refine cx_keep rfl rfl ?_
  refine cx_ret (ret0 rfl rfl ?_)
  exact ⟨rfl, rfl⟩


/- loop.example/g00332/impl.inRange -/
def k_c_inRange : XCode :=
  .seq (.ops [.op (some 6) (.mov (.k (.bool false)))])
  (.keep [0, 1, 2] (.seq (.ops [.op (some 7) (.mov (.t 1)),
     .op (some 8) (.mov (.t 0)),
     .op (some 9) (.bin .leq (.t 7) (.t 8)),
     .op (some 10) (.mov (.t 9)),
     .andor 14 true 3 10 [.op (some 11) (.mov (.t 0)), .op (some 12) (.mov (.t 2)), .op (some 13) (.bin .leq (.t 11) (.t 12))] (.t 13),
     .op (some 6) (.mov (.t 14))])
  (.keep [6] (.ret))))
theorem k_c_inRange_fits : fitsF Try.prog 54 ⟨15, k_c_inRange, [.t 6]⟩ = true := by kernel_rfl
theorem c_inRange {n lo hi : Int} : Con Try.prog noMv 54 [int n, int lo, int hi] [] (fun r h => r = bool (inR n lo hi) ∧ h = []) := by
  refine con_of2 k_c_inRange_fits rfl fun C hP hmv => ?_
  unfold k_c_inRange
  refine cx_seq ?_
  refine cx_ops ?_
  refine ax_q (q_mov rfl) ?_
  refine ax_nil ?_
  refine cx_keep rfl rfl ?_
  refine cx_seq ?_
  refine cx_ops ?_
  refine ax_q (q_mov rfl) ?_
  refine ax_q (q_mov rfl) ?_
  refine ax_q (q_ibin rfl rfl rfl) ?_
  refine ax_q (q_mov rfl) ?_
  apply ax_and rfl rfl
  · intro g
    have g := dT g
    refine ax_q (q_mov rfl) ?_
    refine ax_q (q_mov rfl) ?_
    refine ax_q (q_ibin rfl rfl rfl) ?_
    exact ax_nil ⟨rfl, by repeat (first | exact trivial | refine ⟨rfl, ?_⟩ | refine ⟨?_, ?_⟩)⟩
  refine ax_q (q_mov rfl) ?_
  refine ax_nil ?_
  refine cx_keep rfl rfl ?_
  refine cx_ret (ret0 rfl rfl ?_)
  exact ⟨rfl, rfl⟩


/- loop.example/g00332/impl.isPlace -/
def k_c_isPlace : XCode :=
  .seq (.ops [.op (some 4) (.mov (.k (.bool false)))])
  (.keep [0, 1] (.seq (.ops [.op (some 5) (.mov (.t 0)),
     .op (some 6) (.mov (.t 1)),
     .op (some 7) (.bin .sub (.t 6) (.k (.int .i64 1))),
     .call (some 8) 54 [.t 5, .k (.int .i64 0), .t 7],
     .op (some 4) (.mov (.t 8))])
  (.keep [4] (.ret))))
theorem k_c_isPlace_fits : fitsF Try.prog 52 ⟨9, k_c_isPlace, [.t 4]⟩ = true := by kernel_rfl
theorem c_isPlace {n k : Int} (hk : 0 ≤ k ∧ k ≤ 1048576) : Con Try.prog noMv 52 [int n, int k] [] (fun r h => r = bool (inR n 0 (k - 1)) ∧ h = []) := by
  refine con_of2 k_c_isPlace_fits rfl fun C hP hmv => ?_
  unfold k_c_isPlace
  refine cx_seq ?_
  refine cx_ops ?_
  refine ax_q (q_mov rfl) ?_
  refine ax_nil ?_
  refine cx_keep rfl rfl ?_
  refine cx_seq ?_
  refine cx_ops ?_
  refine ax_q (q_mov rfl) ?_
  refine ax_q (q_mov rfl) ?_
  refine ax_q (q_sub rfl rfl (by omega)) ?_
  first | refine ax_call rfl (vc_pure0 (c_inRange  ) hP rfl rfl ?_) | refine ax_call rfl (vc_lend0 (c_inRange  ) hP (by repeat (first | exact lal_id _ rfl | exact LAL.nil | refine LAL.cons ?_ ?_ | exact la_id _ rfl | exact LA.lend (lend_whole rfl (by first | (simp; done) | (rw [List.length_map]; rfl))) | refine LA.agg ?_ | refine LA.fn ?_ | refine LA.lend ?_ | exact Lend.d _ | exact Lend.zs _ | exact lend_whole rfl (by first | (simp; done) | (rw [List.length_map]; rfl)) | refine Lend.ptr rfl ?_ | refine Lend.fn ?_ | exact LendL.nil | refine LendL.cons ?_ ?_)) rfl rfl ?_)
  refine ax_q (q_mov rfl) ?_
  refine ax_nil ?_
  refine cx_keep rfl rfl ?_
  refine cx_ret (ret0 rfl rfl ?_)
  exact ⟨rfl, rfl⟩


/- loop.example/g00332/impl.isNumber -/
def k_c_isNumber : XCode :=
  .seq (.ops [.op (some 2) (.mov (.k (.bool false)))])
  (.keep [0] (.seq (.ops [.op (some 3) (.mov (.t 0)),
     .call (some 4) 54 [.t 3, .k (.int .i64 (-1000000000)), .k (.int .i64 1000000000)],
     .op (some 2) (.mov (.t 4))])
  (.keep [2] (.ret))))
theorem k_c_isNumber_fits : fitsF Try.prog 102 ⟨5, k_c_isNumber, [.t 2]⟩ = true := by kernel_rfl
theorem c_isNumber {n : Int} : Con Try.prog noMv 102 [int n] [] (fun r h => r = bool (inR n (-1000000000) 1000000000) ∧ h = []) := by
  refine con_of2 k_c_isNumber_fits rfl fun C hP hmv => ?_
  unfold k_c_isNumber
  refine cx_seq ?_
  refine cx_ops ?_
  refine ax_q (q_mov rfl) ?_
  refine ax_nil ?_
  refine cx_keep rfl rfl ?_
  refine cx_seq ?_
  refine cx_ops ?_
  refine ax_q (q_mov rfl) ?_
  first | refine ax_call rfl (vc_pure0 (c_inRange  ) hP rfl rfl ?_) | refine ax_call rfl (vc_lend0 (c_inRange  ) hP (by repeat (first | exact lal_id _ rfl | exact LAL.nil | refine LAL.cons ?_ ?_ | exact la_id _ rfl | exact LA.lend (lend_whole rfl (by first | (simp; done) | (rw [List.length_map]; rfl))) | refine LA.agg ?_ | refine LA.fn ?_ | refine LA.lend ?_ | exact Lend.d _ | exact Lend.zs _ | exact lend_whole rfl (by first | (simp; done) | (rw [List.length_map]; rfl)) | refine Lend.ptr rfl ?_ | refine Lend.fn ?_ | exact LendL.nil | refine LendL.cons ?_ ?_)) rfl rfl ?_)
  refine ax_q (q_mov rfl) ?_
  refine ax_nil ?_
  refine cx_keep rfl rfl ?_
  refine cx_ret (ret0 rfl rfl ?_)
  exact ⟨rfl, rfl⟩


/- loop.example/g00332/impl.isLetter -/
def k_c_isLetter : XCode :=
  .seq (.ops [.op (some 2) (.mov (.k (.bool false)))])
  (.keep [0] (.seq (.ops [.op (some 3) (.mov (.t 0)),
     .op (some 4) (.bin .geq (.t 3) (.k (.int .u8 97))),
     .op (some 5) (.mov (.t 4)),
     .andor 8 true 2 5 [.op (some 6) (.mov (.t 0)), .op (some 7) (.bin .leq (.t 6) (.k (.int .u8 122)))] (.t 7),
     .op (some 2) (.mov (.t 8))])
  (.keep [2] (.ret))))
theorem k_c_isLetter_fits : fitsF Try.prog 114 ⟨9, k_c_isLetter, [.t 2]⟩ = true := by kernel_rfl
theorem c_isLetter {b : UInt8} : Con Try.prog noMv 114 [.d (.int .u8 b.toNat)] [] (fun r h => r = bool (inR (b.toNat : Int) 97 122) ∧ h = []) := by
  refine con_of2 k_c_isLetter_fits rfl fun C hP hmv => ?_
  unfold k_c_isLetter
  refine cx_seq ?_
  refine cx_ops ?_
  refine ax_q (q_mov rfl) ?_
  refine ax_nil ?_
  refine cx_keep rfl rfl ?_
  refine cx_seq ?_
  refine cx_ops ?_
  refine ax_q (q_mov rfl) ?_
  refine ax_q (q_ibin rfl rfl rfl) ?_
  refine ax_q (q_mov rfl) ?_
  apply ax_and rfl rfl
  · intro g
    have g := dT g
    refine ax_q (q_mov rfl) ?_
    refine ax_q (q_ibin rfl rfl rfl) ?_
    exact ax_nil ⟨rfl, by repeat (first | exact trivial | refine ⟨rfl, ?_⟩ | refine ⟨?_, ?_⟩)⟩
  refine ax_q (q_mov rfl) ?_
  refine ax_nil ?_
  refine cx_keep rfl rfl ?_
  refine cx_ret (ret0 rfl rfl ?_)
  exact ⟨rfl, rfl⟩


/- loop.example/g00332/impl.isWord -/
def k_c_isWord : XCode :=
  .seq (.ops [.op (some 2) (.mov (.k (.bool false)))])
  (.keep [0] (.seq (.seq (.ops [.op (some 4) (.mov (.t 0)),
      .op (some 5) (.lenT (.t 4)),
      .op (some 6) (.mov (.k (.int .i64 0)))])
   (.keep [0, 5, 6] (.block 0 (.loop (.seq (.ops [.op (some 7) (.bin .lss (.t 6) (.t 5))])
     (.keep [0, 5, 6, 7] (.seq (.cond (.t 7)
       (.skip)
       (.exit 0))
     (.keep [0, 5, 6] (.seq (.block 1 (.seq (.ops [.op (some 8) (.mov (.t 6)),
          .op (some 3) (.mov (.t 8))])
       (.keep [0, 3, 5, 6] (.seq (.ops [.op (some 9) (.mov (.t 0)),
          .op (some 10) (.mov (.t 3)),
          .op (some 11) (.idxS (.t 9) (.t 10)),
          .call (some 12) 114 [.t 11],
          .op (some 13) (.not (.t 12))])
       (.keep [0, 5, 6, 13] (.cond (.t 13)
        (.seq (.ops [.op (some 2) (.mov (.k (.bool false)))])
         (.keep [2] (.ret)))
        (.skip)))))))
     (.keep [0, 5, 6] (.ops [.op (some 14) (.bin .add (.t 6) (.k (.int .i64 1))),
       .op (some 6) (.mov (.t 14))])))))))))))
  (.keep [0] (.seq (.ops [.op (some 15) (.mov (.t 0)),
     .op (some 16) (.lenT (.t 15)),
     .op (some 17) (.bin .leq (.t 16) (.k (.int .i64 10))),
     .op (some 2) (.mov (.t 17))])
  (.keep [2] (.ret))))))
theorem k_c_isWord_fits : fitsF Try.prog 103 ⟨18, k_c_isWord, [.t 2]⟩ = true := by kernel_rfl
theorem c_isWord {s : Str} (hs : s.length ≤ 1048576) : Con Try.prog noMv 103 [str s] [] (fun r h => r = bool (isWord s) ∧ h = []) := by
  refine con_of2 k_c_isWord_fits rfl fun C hP hmv => ?_
  unfold k_c_isWord
  refine cx_seq ?_
  refine cx_ops ?_
  refine ax_q (q_mov rfl) ?_
  refine ax_nil ?_
  refine cx_keep rfl rfl ?_
  refine cx_seq ?_
  refine cx_seq ?_
  refine cx_ops ?_
  refine ax_q (q_mov rfl) ?_
  refine ax_q (q_lenT rfl) ?_
  refine ax_q (q_mov rfl) ?_
  refine ax_nil ?_
  refine cx_keep rfl rfl ?_
  refine cx_block ?_
  refine cx_loopU (fun n k => k ≤ s.length ∧ n = s.length - k ∧ ∀ j, j < k → ∀ x, s[j]? = some x → badCh x = false) (fun k : Nat => [(6, int k)]) (fun _ => []) ⟨_, 0, ⟨Nat.zero_le _, rfl, fun j hj => by omega⟩, by repeat (first | exact trivial | refine ⟨rfl, ?_⟩ | refine ⟨?_, ?_⟩)⟩ ?_
  rintro n k ⟨hk, rfl, hb⟩
  refine cx_seq ?_
  refine cx_ops ?_
  refine ax_q (q_ibin rfl rfl rfl) ?_
  refine ax_nil ?_
  refine cx_keep rfl rfl ?_
  refine cx_seq ?_
  refine cx_cond rfl (fun h0 => ?_) (fun h0 => ?_)
  · have h0 := dT h0
    have h0x : k < s.length := by omega
    refine cx_skip ?_
    refine cx_keep rfl rfl ?_
    refine cx_seq ?_
    refine cx_block ?_
    refine cx_seq ?_
    refine cx_ops ?_
    refine ax_q (q_mov rfl) ?_
    refine ax_q (q_mov rfl) ?_
    refine ax_nil ?_
    refine cx_keep rfl rfl ?_
    refine cx_seq ?_
    refine cx_ops ?_
    refine ax_q (q_mov rfl) ?_
    refine ax_q (q_mov rfl) ?_
    refine ax_q (q_idxN rfl rfl (by first | assumption | omega)) ?_
    first | refine ax_call rfl (vc_pure0 (c_isLetter  ) hP rfl rfl ?_) | refine ax_call rfl (vc_lend0 (c_isLetter  ) hP (by repeat (first | exact lal_id _ rfl | exact LAL.nil | refine LAL.cons ?_ ?_ | exact la_id _ rfl | exact LA.lend (lend_whole rfl (by first | (simp; done) | (rw [List.length_map]; rfl))) | refine LA.agg ?_ | refine LA.fn ?_ | refine LA.lend ?_ | exact Lend.d _ | exact Lend.zs _ | exact lend_whole rfl (by first | (simp; done) | (rw [List.length_map]; rfl)) | refine Lend.ptr rfl ?_ | refine Lend.fn ?_ | exact LendL.nil | refine LendL.cons ?_ ?_)) rfl rfl ?_)
    refine ax_q (q_not rfl) ?_
    refine ax_nil ?_
    refine cx_keep rfl rfl ?_
    refine cx_cond rfl (fun h1 => ?_) (fun h1 => ?_)
    · have h1 : badCh s[k] = true := h1
      refine cx_seq ?_
      refine cx_ops ?_
      refine ax_q (q_mov rfl) ?_
      refine ax_nil ?_
      refine cx_keep rfl rfl ?_
      refine cx_ret (ret0 rfl rfl ?_)
      exact ⟨by unfold isWord; rw [any_hit h0x h1] <;> rfl, rfl⟩
    · have h1 : badCh s[k] = false := h1
      refine cx_skip ?_
      refine cx_keep rfl rfl ?_
      refine cx_ops ?_
      refine ax_qe (r' := int ((k + 1 : Nat) : Int)) (q_ibin rfl rfl rfl) (by rw [wi (by omega) (by omega)]; rfl) ?_
      refine ax_q (q_mov rfl) ?_
      refine ax_nil ?_
      exact ⟨_, k + 1, by omega, ⟨by omega, rfl, before_step h0x hb h1⟩, by repeat (first | exact trivial | refine ⟨rfl, ?_⟩ | refine ⟨?_, ?_⟩)⟩
  · have h0 := dF h0
    have h0x : k = s.length := by omega
    refine cx_exit rfl ?_
    refine cx_keep rfl rfl ?_
    refine cx_seq ?_
    refine cx_ops ?_
    refine ax_q (q_mov rfl) ?_
    refine ax_q (q_lenT rfl) ?_
    refine ax_q (q_ibin rfl rfl rfl) ?_
    refine ax_q (q_mov rfl) ?_
    refine ax_nil ?_
    refine cx_keep rfl rfl ?_
    refine cx_ret (ret0 rfl rfl ?_)
    exact ⟨by unfold isWord; rw [any_all (fun i hi => hb i (by omega))] <;> rfl, rfl⟩


/- loop.example/g00332/impl.ValueOK -/
def k_c_ValueOK : XCode :=
  .seq (.ops [.op (some 1) (.box (.t 0)),
     .op (some 2) (.mov (.k (.bool false)))])
  (.keep [1] (.seq (.seq (.ops [.op (some 3) (.fadr (.t 1) 0),
      .op (some 4) (.load1 (.t 3))])
   (.keep [1, 4] (.block 0 (.seq (.ops [.op (some 6) (.bin .eql (.t 4) (.k (.int .i64 0))),
       .op (some 5) (.mov (.t 6))])
    (.keep [1, 4, 5] (.cond (.t 5)
     (.seq (.ops [.op (some 7) (.loadN 3 (.t 1)),
         .op (some 8) (.build [.int .i64 0, .int .i64 0, .str []] []),
         .op (some 9) (.eqs false [0, 0, 2] (.t 7) (.t 8)),
         .op (some 2) (.mov (.t 9))])
      (.keep [2] (.ret)))
     (.seq (.ops [.op (some 11) (.bin .eql (.t 4) (.k (.int .i64 1))),
         .op (some 10) (.mov (.t 11))])
      (.keep [1, 10] (.cond (.t 10)
       (.seq (.ops [.op (some 12) (.fadr (.t 1) 1),
           .op (some 13) (.load1 (.t 12)),
           .call (some 14) 102 [.t 13],
           .op (some 15) (.mov (.t 14)),
           .andor 19 true 3 15 [.op (some 16) (.fadr (.t 1) 2), .op (some 17) (.load1 (.t 16)), .op (some 18) (.bin .eql (.t 17) (.k (.str [])))] (.t 18),
           .op (some 2) (.mov (.t 19))])
        (.keep [2] (.ret)))
       (.skip))))))))))
  (.keep [1] (.seq (.ops [.op (some 20) (.fadr (.t 1) 0),
     .op (some 21) (.load1 (.t 20)),
     .op (some 22) (.bin .eql (.t 21) (.k (.int .i64 2))),
     .op (some 23) (.mov (.t 22)),
     .andor 27 true 3 23 [.op (some 24) (.fadr (.t 1) 1), .op (some 25) (.load1 (.t 24)), .op (some 26) (.bin .eql (.t 25) (.k (.int .i64 0)))] (.t 26),
     .op (some 28) (.mov (.t 27)),
     .andor 32 true 8 28 [.op (some 29) (.fadr (.t 1) 2), .op (some 30) (.load1 (.t 29)), .call (some 31) 103 [.t 30]] (.t 31),
     .op (some 2) (.mov (.t 32))])
  (.keep [2] (.ret))))))
theorem k_c_ValueOK_fits : fitsF Try.prog 78 ⟨33, k_c_ValueOK, [.t 2]⟩ = true := by kernel_rfl
theorem c_ValueOK {v : GValue} (hv : v.T.length ≤ 1048576) : Con Try.prog noMv 78 [v.av] [] (fun r h => r = bool (valueOK v) ∧ h = []) := by
  refine con_of2 k_c_ValueOK_fits rfl fun C hP hmv => ?_
  unfold k_c_ValueOK
  refine cx_seq ?_
  refine cx_ops ?_
  refine ax_e (e_box rfl rfl (by decide) rfl rfl rfl) ?_
  refine ax_q (q_mov rfl) ?_
  refine ax_nil ?_
  refine cx_keep rfl rfl ?_
  refine cx_seq ?_
  refine cx_seq ?_
  refine cx_ops ?_
  first | refine ax_q (q_fadr_ptr rfl) ?_ | refine ax_q (q_fadr_rptr rfl) ?_ | refine ax_q (q_fadr_ip rfl) ?_
  first | refine ax_q (q_load1_ptr rfl rfl rfl) ?_ | refine ax_q (q_load1_ip rfl) ?_ | refine ax_q (q_load1_rptr rfl rfl rfl rfl) ?_ | refine ax_q (q_load1_rptr rfl rfl (by assumption) rfl) ?_ | refine ax_q (q_load1_rptr rfl rfl (mapAt (by first | assumption | omega)) rfl) ?_
  refine ax_nil ?_
  refine cx_keep rfl rfl ?_
  refine cx_block ?_
  refine cx_seq ?_
  refine cx_ops ?_
  refine ax_q (q_ibin rfl rfl rfl) ?_
  refine ax_q (q_mov rfl) ?_
  refine ax_nil ?_
  refine cx_keep rfl rfl ?_
  refine cx_cond rfl (fun h0 => ?_) (fun h0 => ?_)
  · have h0 := dT h0
    refine cx_seq ?_
    refine cx_ops ?_
    first | refine ax_q (q_ldN rfl rfl rfl) ?_ | refine ax_q (q_loadN_ip rfl (Nat.le_refl _)) ?_ | refine ax_q (q_loadN_ip rfl (by decide)) ?_ | refine ax_q (q_loadN_rptr rfl rfl (by assumption) (by decide)) ?_ | refine ax_q (q_loadN_rptr rfl rfl (mapAt (by first | assumption | omega)) (by decide)) ?_
    refine ax_q (q_build rfl) ?_
    first | refine ax_q (GValue.q_eqs rfl rfl) ?_ | refine ax_q (q_eqs rfl rfl rfl) ?_
    refine ax_q (q_mov rfl) ?_
    refine ax_nil ?_
    refine cx_keep rfl rfl ?_
    refine cx_ret (ret0 rfl rfl ?_)
    exact ⟨by rw [valueOK_0 h0, decide_eq_true h0, Bool.and_true, Bool.true_and] <;> rfl, rfl⟩
  · have h0 := dF h0
    refine cx_seq ?_
    refine cx_ops ?_
    refine ax_q (q_ibin rfl rfl rfl) ?_
    refine ax_q (q_mov rfl) ?_
    refine ax_nil ?_
    refine cx_keep rfl rfl ?_
    refine cx_cond rfl (fun h1 => ?_) (fun h1 => ?_)
    · have h1 := dT h1
      refine cx_seq ?_
      refine cx_ops ?_
      first | refine ax_q (q_fadr_ptr rfl) ?_ | refine ax_q (q_fadr_rptr rfl) ?_ | refine ax_q (q_fadr_ip rfl) ?_
      first | refine ax_q (q_load1_ptr rfl rfl rfl) ?_ | refine ax_q (q_load1_ip rfl) ?_ | refine ax_q (q_load1_rptr rfl rfl rfl rfl) ?_ | refine ax_q (q_load1_rptr rfl rfl (by assumption) rfl) ?_ | refine ax_q (q_load1_rptr rfl rfl (mapAt (by first | assumption | omega)) rfl) ?_
      first | refine ax_call rfl (vc_pure0 (c_isNumber  ) hP rfl rfl ?_) | refine ax_call rfl (vc_lend0 (c_isNumber  ) hP (by repeat (first | exact lal_id _ rfl | exact LAL.nil | refine LAL.cons ?_ ?_ | exact la_id _ rfl | exact LA.lend (lend_whole rfl (by first | (simp; done) | (rw [List.length_map]; rfl))) | refine LA.agg ?_ | refine LA.fn ?_ | refine LA.lend ?_ | exact Lend.d _ | exact Lend.zs _ | exact lend_whole rfl (by first | (simp; done) | (rw [List.length_map]; rfl)) | refine Lend.ptr rfl ?_ | refine Lend.fn ?_ | exact LendL.nil | refine LendL.cons ?_ ?_)) rfl rfl ?_)
      refine ax_q (q_mov rfl) ?_
      apply ax_and rfl rfl
      · intro g
        first | refine ax_q (q_fadr_ptr rfl) ?_ | refine ax_q (q_fadr_rptr rfl) ?_ | refine ax_q (q_fadr_ip rfl) ?_
        first | refine ax_q (q_load1_ptr rfl rfl rfl) ?_ | refine ax_q (q_load1_ip rfl) ?_ | refine ax_q (q_load1_rptr rfl rfl rfl rfl) ?_ | refine ax_q (q_load1_rptr rfl rfl (by assumption) rfl) ?_ | refine ax_q (q_load1_rptr rfl rfl (mapAt (by first | assumption | omega)) rfl) ?_
        refine ax_q (q_sbin rfl rfl rfl) ?_
        exact ax_nil ⟨rfl, by repeat (first | exact trivial | refine ⟨rfl, ?_⟩ | refine ⟨?_, ?_⟩)⟩
      refine ax_q (q_mov rfl) ?_
      refine ax_nil ?_
      refine cx_keep rfl rfl ?_
      refine cx_ret (ret0 rfl rfl ?_)
      exact ⟨by rw [valueOK_1 h1] <;> rfl, rfl⟩
    · have h1 := dF h1
      refine cx_skip ?_
      refine cx_keep rfl rfl ?_
      refine cx_seq ?_
      refine cx_ops ?_
      first | refine ax_q (q_fadr_ptr rfl) ?_ | refine ax_q (q_fadr_rptr rfl) ?_ | refine ax_q (q_fadr_ip rfl) ?_
      first | refine ax_q (q_load1_ptr rfl rfl rfl) ?_ | refine ax_q (q_load1_ip rfl) ?_ | refine ax_q (q_load1_rptr rfl rfl rfl rfl) ?_ | refine ax_q (q_load1_rptr rfl rfl (by assumption) rfl) ?_ | refine ax_q (q_load1_rptr rfl rfl (mapAt (by first | assumption | omega)) rfl) ?_
      refine ax_q (q_ibin rfl rfl rfl) ?_
      refine ax_q (q_mov rfl) ?_
      apply ax_and rfl rfl
      · intro g
        have g := dT g
        first | refine ax_q (q_fadr_ptr rfl) ?_ | refine ax_q (q_fadr_rptr rfl) ?_ | refine ax_q (q_fadr_ip rfl) ?_
        first | refine ax_q (q_load1_ptr rfl rfl rfl) ?_ | refine ax_q (q_load1_ip rfl) ?_ | refine ax_q (q_load1_rptr rfl rfl rfl rfl) ?_ | refine ax_q (q_load1_rptr rfl rfl (by assumption) rfl) ?_ | refine ax_q (q_load1_rptr rfl rfl (mapAt (by first | assumption | omega)) rfl) ?_
        refine ax_q (q_ibin rfl rfl rfl) ?_
        exact ax_nil ⟨rfl, by repeat (first | exact trivial | refine ⟨rfl, ?_⟩ | refine ⟨?_, ?_⟩)⟩
      refine ax_q (q_mov rfl) ?_
      apply ax_and rfl rfl
      · intro g
        have g := (fun h => And.intro (dT (and_T h).1) (dT (and_T h).2)) g
        first | refine ax_q (q_fadr_ptr rfl) ?_ | refine ax_q (q_fadr_rptr rfl) ?_ | refine ax_q (q_fadr_ip rfl) ?_
        first | refine ax_q (q_load1_ptr rfl rfl rfl) ?_ | refine ax_q (q_load1_ip rfl) ?_ | refine ax_q (q_load1_rptr rfl rfl rfl rfl) ?_ | refine ax_q (q_load1_rptr rfl rfl (by assumption) rfl) ?_ | refine ax_q (q_load1_rptr rfl rfl (mapAt (by first | assumption | omega)) rfl) ?_
        first | refine ax_call rfl (vc_pure0 (c_isWord  ?_) hP rfl rfl ?_) | refine ax_call rfl (vc_lend0 (c_isWord  ?_) hP (by repeat (first | exact lal_id _ rfl | exact LAL.nil | refine LAL.cons ?_ ?_ | exact la_id _ rfl | exact LA.lend (lend_whole rfl (by first | (simp; done) | (rw [List.length_map]; rfl))) | refine LA.agg ?_ | refine LA.fn ?_ | refine LA.lend ?_ | exact Lend.d _ | exact Lend.zs _ | exact lend_whole rfl (by first | (simp; done) | (rw [List.length_map]; rfl)) | refine Lend.ptr rfl ?_ | refine Lend.fn ?_ | exact LendL.nil | refine LendL.cons ?_ ?_)) rfl rfl ?_)
        · first | assumption | omega | (simp; done) | (simp; omega)
        exact ax_nil ⟨rfl, by repeat (first | exact trivial | refine ⟨rfl, ?_⟩ | refine ⟨?_, ?_⟩)⟩
      refine ax_q (q_mov rfl) ?_
      refine ax_nil ?_
      refine cx_keep rfl rfl ?_
      refine cx_ret (ret0 rfl rfl ?_)
      exact ⟨by rw [valueOK_2 h0 h1] <;> rfl, rfl⟩


/- loop.example/g00332/impl.isUnary -/
def k_c_isUnary : XCode :=
  .seq (.ops [.op (some 2) (.mov (.k (.bool false)))])
  (.keep [0] (.seq (.ops [.op (some 3) (.mov (.t 0)),
     .call (some 4) 54 [.t 3, .k (.int .i64 3), .k (.int .i64 5)],
     .op (some 2) (.mov (.t 4))])
  (.keep [2] (.ret))))
theorem k_c_isUnary_fits : fitsF Try.prog 82 ⟨5, k_c_isUnary, [.t 2]⟩ = true := by kernel_rfl
theorem c_isUnary {n : Int} : Con Try.prog noMv 82 [int n] [] (fun r h => r = bool (inR n 3 5) ∧ h = []) := by
  refine con_of2 k_c_isUnary_fits rfl fun C hP hmv => ?_
  unfold k_c_isUnary
  refine cx_seq ?_
  refine cx_ops ?_
  refine ax_q (q_mov rfl) ?_
  refine ax_nil ?_
  refine cx_keep rfl rfl ?_
  refine cx_seq ?_
  refine cx_ops ?_
  refine ax_q (q_mov rfl) ?_
  first | refine ax_call rfl (vc_pure0 (c_inRange  ) hP rfl rfl ?_) | refine ax_call rfl (vc_lend0 (c_inRange  ) hP (by repeat (first | exact lal_id _ rfl | exact LAL.nil | refine LAL.cons ?_ ?_ | exact la_id _ rfl | exact LA.lend (lend_whole rfl (by first | (simp; done) | (rw [List.length_map]; rfl))) | refine LA.agg ?_ | refine LA.fn ?_ | refine LA.lend ?_ | exact Lend.d _ | exact Lend.zs _ | exact lend_whole rfl (by first | (simp; done) | (rw [List.length_map]; rfl)) | refine Lend.ptr rfl ?_ | refine Lend.fn ?_ | exact LendL.nil | refine LendL.cons ?_ ?_)) rfl rfl ?_)
  refine ax_q (q_mov rfl) ?_
  refine ax_nil ?_
  refine cx_keep rfl rfl ?_
  refine cx_ret (ret0 rfl rfl ?_)
  exact ⟨rfl, rfl⟩


/- loop.example/g00332/impl.isBinary -/
def k_c_isBinary : XCode :=
  .seq (.ops [.op (some 2) (.mov (.k (.bool false)))])
  (.keep [0] (.seq (.ops [.op (some 3) (.mov (.t 0)),
     .call (some 4) 54 [.t 3, .k (.int .i64 6), .k (.int .i64 13)],
     .op (some 2) (.mov (.t 4))])
  (.keep [2] (.ret))))
theorem k_c_isBinary_fits : fitsF Try.prog 100 ⟨5, k_c_isBinary, [.t 2]⟩ = true := by kernel_rfl
theorem c_isBinary {n : Int} : Con Try.prog noMv 100 [int n] [] (fun r h => r = bool (inR n 6 13) ∧ h = []) := by
  refine con_of2 k_c_isBinary_fits rfl fun C hP hmv => ?_
  unfold k_c_isBinary
  refine cx_seq ?_
  refine cx_ops ?_
  refine ax_q (q_mov rfl) ?_
  refine ax_nil ?_
  refine cx_keep rfl rfl ?_
  refine cx_seq ?_
  refine cx_ops ?_
  refine ax_q (q_mov rfl) ?_
  first | refine ax_call rfl (vc_pure0 (c_inRange  ) hP rfl rfl ?_) | refine ax_call rfl (vc_lend0 (c_inRange  ) hP (by repeat (first | exact lal_id _ rfl | exact LAL.nil | refine LAL.cons ?_ ?_ | exact la_id _ rfl | exact LA.lend (lend_whole rfl (by first | (simp; done) | (rw [List.length_map]; rfl))) | refine LA.agg ?_ | refine LA.fn ?_ | refine LA.lend ?_ | exact Lend.d _ | exact Lend.zs _ | exact lend_whole rfl (by first | (simp; done) | (rw [List.length_map]; rfl)) | refine Lend.ptr rfl ?_ | refine Lend.fn ?_ | exact LendL.nil | refine LendL.cons ?_ ?_)) rfl rfl ?_)
  refine ax_q (q_mov rfl) ?_
  refine ax_nil ?_
  refine cx_keep rfl rfl ?_
  refine cx_ret (ret0 rfl rfl ?_)
  exact ⟨rfl, rfl⟩


/- loop.example/g00332/impl.depthOf$1 -/
def k_c_depthOf1 : XCode :=
  .seq (.ops [.op (some 3) (.mov (.k (.int .i64 0))),
     .op (some 4) (.mov (.k (.bool false)))])
  (.keep [0, 1] (.seq (.ops [.op (some 7) (.load1 (.t 1)),
     .op (some 8) (.lenS (.t 7)),
     .op (some 9) (.bin .sub (.t 8) (.k (.int .i64 1))),
     .op (some 5) (.mov (.t 9))])
  (.keep [0, 1, 5] (.seq (.seq (.ops [.op (some 10) (.mov (.t 5)),
      .op (some 11) (.bin .lss (.t 10) (.k (.int .i64 0))),
      .op (some 12) (.mov (.t 11)),
      .andor 20 false 2 12 [.op (some 13) (.load1 (.t 1)), .op (some 14) (.mov (.t 5)), .op (some 15) (.iadr 2 (.t 13) (.t 14)), .op (some 16) (.fadr (.t 15) 0), .op (some 17) (.load1 (.t 16)), .op (some 18) (.mov (.t 0)), .op (some 19) (.bin .neq (.t 17) (.t 18))] (.t 19)])
   (.keep [1, 5, 20] (.cond (.t 20)
    (.seq (.ops [.op (some 3) (.mov (.k (.int .i64 0))),
        .op (some 4) (.mov (.k (.bool false)))])
     (.keep [3, 4] (.ret)))
    (.skip))))
  (.keep [1, 5] (.seq (.ops [.op (some 21) (.load1 (.t 1)),
     .op (some 22) (.mov (.t 5)),
     .op (some 23) (.iadr 2 (.t 21) (.t 22)),
     .op (some 24) (.fadr (.t 23) 1),
     .op (some 25) (.load1 (.t 24)),
     .op (some 6) (.mov (.t 25))])
  (.keep [1, 5, 6] (.seq (.ops [.op (some 26) (.load1 (.t 1)),
     .op (some 27) (.mov (.t 5)),
     .op (some 28) (.slc 2 (.t 26) none (some (.t 27)) none),
     .op none (.store 1 (.t 1) (.t 28))])
  (.keep [6] (.seq (.ops [.op (some 29) (.mov (.t 6)),
     .op (some 3) (.mov (.t 29)),
     .op (some 4) (.mov (.k (.bool true)))])
  (.keep [3, 4] (.ret))))))))))))
theorem k_c_depthOf1_fits : fitsF Try.prog 101 ⟨30, k_c_depthOf1, [.t 3, .t 4]⟩ = true := by kernel_rfl
theorem c_depthOf1 {S : List IDp} {rs : List (List D)} {a : Int} (hS : S.length ≤ 1048576) (hrs : rs.take S.length = S.map prow) : Con Try.prog noMv 101 [int a, .ptr 1000 0] [(1000, .box [.osl 1001 2 0 S.length]), (1001, .rows 2 rs)] (fun r h => r = .tup [int (popF S a).1, bool (popF S a).2.1] ∧ h = [(1000, .box [.osl 1001 2 0 (popF S a).2.2.length]), (1001, .rows 2 rs)]) := by
  refine con_of2 k_c_depthOf1_fits rfl fun C hP hmv => ?_
  unfold k_c_depthOf1
  refine cx_seq ?_
  refine cx_ops ?_
  refine ax_q (q_mov rfl) ?_
  refine ax_q (q_mov rfl) ?_
  refine ax_nil ?_
  refine cx_keep rfl rfl ?_
  refine cx_seq ?_
  refine cx_ops ?_
  first | refine ax_q (q_load1_ptr rfl rfl rfl) ?_ | refine ax_q (q_load1_ip rfl) ?_ | refine ax_q (q_load1_rptr rfl rfl rfl rfl) ?_ | refine ax_q (q_load1_rptr rfl rfl (by assumption) rfl) ?_ | refine ax_q (q_load1_rptr rfl rfl (mapAt (by first | assumption | omega)) rfl) ?_
  first | refine ax_q (q_lenS_map rfl) ?_ | refine ax_q (q_lenS_osl rfl) ?_ | refine ax_q (q_lenS_zs rfl) ?_ | refine ax_q (q_lenS rfl) ?_
  refine ax_q (q_sub rfl rfl (by omega)) ?_
  refine ax_q (q_mov rfl) ?_
  refine ax_nil ?_
  refine cx_keep rfl rfl ?_
  refine cx_seq ?_
  refine cx_seq ?_
  refine cx_ops ?_
  refine ax_q (q_mov rfl) ?_
  refine ax_q (q_ibin rfl rfl rfl) ?_
  refine ax_q (q_mov rfl) ?_
  apply ax_or rfl rfl
  · intro g
    have g := dF g
    have hrow := top_row hrs g
    first | refine ax_q (q_load1_ptr rfl rfl rfl) ?_ | refine ax_q (q_load1_ip rfl) ?_ | refine ax_q (q_load1_rptr rfl rfl rfl rfl) ?_ | refine ax_q (q_load1_rptr rfl rfl (by assumption) rfl) ?_ | refine ax_q (q_load1_rptr rfl rfl (mapAt (by first | assumption | omega)) rfl) ?_
    refine ax_q (q_mov rfl) ?_
    refine ax_q (q_ixoI rfl rfl (by omega) (by omega)) ?_
    first | refine ax_q (q_fadr_ptr rfl) ?_ | refine ax_q (q_fadr_rptr rfl) ?_ | refine ax_q (q_fadr_ip rfl) ?_
    refine ax_q (q_load1_rptr (r := prow (S.getD (S.length - 1) (0, 0))) rfl rfl hrow rfl) ?_
    refine ax_q (q_mov rfl) ?_
    refine ax_q (q_ibin rfl rfl rfl) ?_
    exact ax_nil ⟨rfl, by repeat (first | exact trivial | refine ⟨rfl, ?_⟩ | refine ⟨?_, ?_⟩)⟩
  refine ax_nil ?_
  refine cx_keep rfl rfl ?_
  refine cx_cond rfl (fun h0 => ?_) (fun h0 => ?_)
  · have h0 := (fun h => (or_T h).imp dT nT) h0
    refine cx_seq ?_
    refine cx_ops ?_
    refine ax_q (q_mov rfl) ?_
    refine ax_q (q_mov rfl) ?_
    refine ax_nil ?_
    refine cx_keep rfl rfl ?_
    refine cx_ret (retN id [1000, 1001] rfl rfl rfl rfl rfl ?_)
    rw [popF_no h0]; exact ⟨rfl, rfl⟩
  · have h0 := (fun h => And.intro (dF (or_F h).1) (nF (or_F h).2)) h0
    refine cx_skip ?_
    refine cx_keep rfl rfl ?_
    refine cx_seq ?_
    refine cx_ops ?_
    first | refine ax_q (q_load1_ptr rfl rfl rfl) ?_ | refine ax_q (q_load1_ip rfl) ?_ | refine ax_q (q_load1_rptr rfl rfl rfl rfl) ?_ | refine ax_q (q_load1_rptr rfl rfl (by assumption) rfl) ?_ | refine ax_q (q_load1_rptr rfl rfl (mapAt (by first | assumption | omega)) rfl) ?_
    refine ax_q (q_mov rfl) ?_
    refine ax_q (q_ixoI rfl rfl (by omega) (by omega)) ?_
    first | refine ax_q (q_fadr_ptr rfl) ?_ | refine ax_q (q_fadr_rptr rfl) ?_ | refine ax_q (q_fadr_ip rfl) ?_
    refine ax_q (q_load1_rptr (r := prow (S.getD (S.length - 1) (0, 0))) rfl rfl (top_row hrs h0.1) rfl) ?_
    refine ax_q (q_mov rfl) ?_
    refine ax_nil ?_
    refine cx_keep rfl rfl ?_
    refine cx_seq ?_
    refine cx_ops ?_
    first | refine ax_q (q_load1_ptr rfl rfl rfl) ?_ | refine ax_q (q_load1_ip rfl) ?_ | refine ax_q (q_load1_rptr rfl rfl rfl rfl) ?_ | refine ax_q (q_load1_rptr rfl rfl (by assumption) rfl) ?_ | refine ax_q (q_load1_rptr rfl rfl (mapAt (by first | assumption | omega)) rfl) ?_
    refine ax_q (q_mov rfl) ?_
    refine ax_qe (r' := .osl 1001 2 0 (S.length - 1)) (q_slc_osl rfl rfl rfl (by omega) (by omega) (by omega)) (by rw [show ((S.length : Int) - 1).toNat - (0 : Int).toNat = S.length - 1 from by omega]; rfl) ?_
    refine ax_e (e_st rfl rfl rfl rfl rfl rfl rfl) ?_
    refine ax_nil ?_
    refine cx_keep rfl rfl ?_
    refine cx_seq ?_
    refine cx_ops ?_
    refine ax_q (q_mov rfl) ?_
    refine ax_q (q_mov rfl) ?_
    refine ax_q (q_mov rfl) ?_
    refine ax_nil ?_
    refine cx_keep rfl rfl ?_
    refine cx_ret (retN id [1000, 1001] rfl rfl rfl rfl rfl ?_)
    rw [popF_yes h0.1 h0.2]; exact ⟨rfl, by dsimp only; rw [List.length_dropLast]; rfl⟩


/- loop.example/g00332/impl.depthOf -/
def k_c_depthOf : XCode :=
  .seq (.ops [.op (some 2) (.mov (.k (.int .i64 0)))])
  (.keep [0] (.seq (.ops [.op (some 13) (.bslice 2 []),
     .op (some 3) (.alloc [.nils 2]),
     .op none (.store 1 (.t 3) (.t 13))])
  (.keep [0, 3] (.seq (.ops [.op (some 14) (.mkfn 101 [.t 3]),
     .op (some 4) (.mov (.t 14))])
  (.keep [0, 3, 4] (.seq (.seq (.ops [.op (some 15) (.mov (.t 0)),
      .op (some 16) (.lenS (.t 15)),
      .op (some 17) (.mov (.k (.int .i64 0)))])
   (.keep [3, 4, 15, 16, 17] (.block 0 (.loop (.seq (.ops [.op (some 18) (.bin .lss (.t 17) (.t 16))])
     (.keep [3, 4, 15, 16, 17, 18] (.seq (.cond (.t 18)
       (.skip)
       (.exit 0))
     (.keep [3, 4, 15, 16, 17] (.seq (.block 1 (.seq (.ops [.op (some 19) (.mov (.t 17)),
          .op (some 20) (.iadr 7 (.t 15) (.t 17)),
          .op (some 21) (.loadN 7 (.t 20)),
          .op (some 6) (.alloc [.int .i64 0, .int .i64 0, .int .i64 0, .int .i64 0, .int .i64 0, .int .i64 0, .str []]),
          .op (some 5) (.mov (.t 19)),
          .op none (.store 7 (.t 6) (.t 21))])
       (.keep [3, 4, 5, 6, 15, 16, 17] (.seq (.ops [.op (some 7) (.mov (.k (.int .i64 0))),
          .op (some 8) (.mov (.k (.bool true)))])
       (.keep [3, 4, 5, 6, 7, 15, 16, 17] (.seq (.block 2 (.seq (.ops [.op (some 23) (.fadr (.t 6) 0),
            .op (some 24) (.load1 (.t 23)),
            .op (some 25) (.bin .eql (.t 24) (.k (.int .i64 1))),
            .op (some 22) (.mov (.t 25))])
         (.keep [3, 4, 5, 6, 7, 15, 16, 17, 22] (.cond (.t 22)
          (.ops [.op (some 26) (.fadr (.t 6) 1),
             .op (some 27) (.load1 (.t 26)),
             .op (some 28) (.bin .eql (.t 27) (.k (.int .i64 0))),
             .op (some 29) (.mov (.t 28)),
             .andor 33 true 3 29 [.op (some 30) (.fadr (.t 6) 2), .op (some 31) (.load1 (.t 30)), .op (some 32) (.bin .eql (.t 31) (.k (.int .i64 0)))] (.t 32),
             .op (some 34) (.mov (.t 33)),
             .andor 38 true 8 34 [.op (some 35) (.fadr (.t 6) 3), .op (some 36) (.load1 (.t 35)), .op (some 37) (.bin .eql (.t 36) (.k (.int .i64 0)))] (.t 37),
             .op (some 39) (.mov (.t 38)),
             .andor 43 true 13 39 [.op (some 40) (.fadr (.t 6) 4), .op (some 41) (.loadN 3 (.t 40)), .call (some 42) 78 [.t 41]] (.t 42),
             .op (some 8) (.mov (.t 43))])
          (.seq (.ops [.op (some 45) (.fadr (.t 6) 0),
              .op (some 46) (.load1 (.t 45)),
              .op (some 47) (.bin .eql (.t 46) (.k (.int .i64 2))),
              .op (some 44) (.mov (.t 47))])
           (.keep [3, 4, 5, 6, 7, 15, 16, 17, 44] (.cond (.t 44)
            (.ops [.op (some 48) (.fadr (.t 6) 1),
               .op (some 49) (.load1 (.t 48)),
               .op (some 50) (.bin .eql (.t 49) (.k (.int .i64 0))),
               .op (some 51) (.mov (.t 50)),
               .andor 55 true 3 51 [.op (some 52) (.fadr (.t 6) 2), .op (some 53) (.load1 (.t 52)), .op (some 54) (.bin .eql (.t 53) (.k (.int .i64 0)))] (.t 54),
               .op (some 56) (.mov (.t 55)),
               .andor 60 true 8 56 [.op (some 57) (.fadr (.t 6) 3), .op (some 58) (.load1 (.t 57)), .call (some 59) 52 [.t 58, .k (.int .i64 3)]] (.t 59),
               .op (some 61) (.mov (.t 60)),
               .andor 66 true 13 61 [.op (some 62) (.fadr (.t 6) 4), .op (some 63) (.loadN 3 (.t 62)), .op (some 64) (.build [.int .i64 0, .int .i64 0, .str []] []), .op (some 65) (.eqs false [0, 0, 2] (.t 63) (.t 64))] (.t 65),
               .op (some 8) (.mov (.t 66))])
            (.seq (.ops [.op (some 68) (.fadr (.t 6) 0),
                .op (some 69) (.load1 (.t 68)),
                .call (some 70) 82 [.t 69],
                .op (some 67) (.mov (.t 70))])
             (.keep [3, 4, 5, 6, 7, 15, 16, 17, 67] (.cond (.t 67)
              (.seq (.ops [.op (some 72) (.mov (.t 4)),
                  .op (some 73) (.fadr (.t 6) 1),
                  .op (some 74) (.load1 (.t 73)),
                  .callv (some 75) (.t 72) [.t 74],
                  .op (some 71) (.mov (.t 75)),
                  .op (some 76) (.ext (.t 71) 0),
                  .op (some 77) (.ext (.t 71) 1),
                  .op (some 7) (.mov (.t 76)),
                  .op (some 8) (.mov (.t 77))])
               (.keep [3, 4, 5, 6, 7, 8, 15, 16, 17] (.ops [.op (some 78) (.mov (.t 8)),
                 .op (some 79) (.mov (.t 78)),
                 .andor 83 true 1 79 [.op (some 80) (.fadr (.t 6) 2), .op (some 81) (.load1 (.t 80)), .op (some 82) (.bin .eql (.t 81) (.k (.int .i64 0)))] (.t 82),
                 .op (some 84) (.mov (.t 83)),
                 .andor 88 true 6 84 [.op (some 85) (.fadr (.t 6) 3), .op (some 86) (.load1 (.t 85)), .op (some 87) (.bin .eql (.t 86) (.k (.int .i64 0)))] (.t 87),
                 .op (some 89) (.mov (.t 88)),
                 .andor 94 true 11 89 [.op (some 90) (.fadr (.t 6) 4), .op (some 91) (.loadN 3 (.t 90)), .op (some 92) (.build [.int .i64 0, .int .i64 0, .str []] []), .op (some 93) (.eqs false [0, 0, 2] (.t 91) (.t 92))] (.t 93),
                 .op (some 8) (.mov (.t 94))])))
              (.seq (.ops [.op (some 96) (.fadr (.t 6) 0),
                  .op (some 97) (.load1 (.t 96)),
                  .call (some 98) 100 [.t 97],
                  .op (some 95) (.mov (.t 98))])
               (.keep [3, 4, 5, 6, 7, 15, 16, 17, 95] (.cond (.t 95)
                (.seq (.ops [.op (some 100) (.mov (.t 4)),
                    .op (some 101) (.fadr (.t 6) 2),
                    .op (some 102) (.load1 (.t 101)),
                    .callv (some 103) (.t 100) [.t 102],
                    .op (some 99) (.mov (.t 103)),
                    .op (some 104) (.ext (.t 99) 0),
                    .op (some 105) (.ext (.t 99) 1),
                    .op (some 9) (.mov (.t 104)),
                    .op (some 10) (.mov (.t 105))])
                 (.keep [3, 4, 5, 6, 9, 10, 15, 16, 17] (.seq (.ops [.op (some 107) (.mov (.t 4)),
                    .op (some 108) (.fadr (.t 6) 1),
                    .op (some 109) (.load1 (.t 108)),
                    .callv (some 110) (.t 107) [.t 109],
                    .op (some 106) (.mov (.t 110)),
                    .op (some 111) (.ext (.t 106) 0),
                    .op (some 112) (.ext (.t 106) 1),
                    .op (some 11) (.mov (.t 111)),
                    .op (some 12) (.mov (.t 112))])
                 (.keep [3, 4, 5, 6, 9, 10, 11, 12, 15, 16, 17] (.draw [.op (some 113) (.mov (.t 11)),
                   .op (some 114) (.mov (.t 9)),
                   .op (some 115) (.mx true (.t 113) (.t 114)),
                   .op (some 116) (.mov (.t 10)),
                   .op (some 117) (.mov (.t 116)),
                   .andor 119 true 4 117 [.op (some 118) (.mov (.t 12))] (.t 118),
                   .op (some 120) (.mov (.t 119)),
                   .andor 124 true 7 120 [.op (some 121) (.fadr (.t 6) 3), .op (some 122) (.load1 (.t 121)), .op (some 123) (.bin .eql (.t 122) (.k (.int .i64 0)))] (.t 123),
                   .op (some 125) (.mov (.t 124)),
                   .andor 130 true 12 125 [.op (some 126) (.fadr (.t 6) 4), .op (some 127) (.loadN 3 (.t 126)), .op (some 128) (.build [.int .i64 0, .int .i64 0, .str []] []), .op (some 129) (.eqs false [0, 0, 2] (.t 127) (.t 128))] (.t 129),
                   .op (some 7) (.mov (.t 115)),
                   .op (some 8) (.mov (.t 130))])))))
                (.ops [.op (some 8) (.mov (.k (.bool false)))]))))))))))))))
       (.keep [3, 4, 5, 7, 8, 15, 16, 17] (.seq (.seq (.ops [.op (some 131) (.mov (.t 8)),
           .op (some 132) (.not (.t 131))])
        (.keep [3, 4, 5, 7, 15, 16, 17, 132] (.cond (.t 132)
         (.seq (.ops [.op (some 2) (.mov (.k (.int .i64 0)))])
          (.keep [2] (.ret)))
         (.skip))))
       (.keep [3, 4, 5, 7, 15, 16, 17] (.ops [.op (some 133) (.load1 (.t 3)),
         .op (some 134) (.mov (.t 5)),
         .op (some 135) (.mov (.t 7)),
         .op (some 136) (.bin .add (.t 135) (.k (.int .i64 1))),
         .op (some 137) (.build [.int .i64 0, .int .i64 0] [(0, 1, .t 134), (1, 1, .t 136)]),
         .op (some 138) (.bslice 2 [.t 137]),
         .op (some 139) (.app 2 16 [.int .i64 0, .int .i64 0] (.t 133) (.t 138)),
         .op none (.store 1 (.t 3) (.t 139))]))))))))))
     (.keep [3, 4, 15, 16, 17] (.ops [.op (some 140) (.bin .add (.t 17) (.k (.int .i64 1))),
       .op (some 17) (.mov (.t 140))])))))))))))
  (.keep [3] (.seq (.seq (.ops [.op (some 141) (.load1 (.t 3)),
      .op (some 142) (.lenS (.t 141)),
      .op (some 143) (.bin .neq (.t 142) (.k (.int .i64 1)))])
   (.keep [3, 143] (.cond (.t 143)
    (.seq (.ops [.op (some 2) (.mov (.k (.int .i64 0)))])
     (.keep [2] (.ret)))
    (.skip))))
  (.keep [3] (.seq (.ops [.op (some 144) (.load1 (.t 3)),
     .op (some 145) (.iadr 2 (.t 144) (.k (.int .i64 0))),
     .op (some 146) (.fadr (.t 145) 1),
     .op (some 147) (.load1 (.t 146)),
     .op (some 2) (.mov (.t 147))])
  (.keep [2] (.ret))))))))))))
theorem k_c_depthOf_fits : fitsF Try.prog 76 ⟨148, k_c_depthOf, [.t 2]⟩ = true := by kernel_rfl
theorem c_depthOf {ns : List GExprNode} (hw : ns.length ≤ 1048576) (hv : ∀ x ∈ ns, x.V.T.length ≤ 1048576) : Con Try.prog noMv 76 [.d (.sl 7 (ns.map GExprNode.row))] [] (fun r h => r = int (depthF ns) ∧ h = []) := by
  refine con_of2 k_c_depthOf_fits rfl fun C hP hmv => ?_
  unfold k_c_depthOf
  refine cx_seq ?_
  refine cx_ops ?_
  refine ax_q (q_mov rfl) ?_
  refine ax_nil ?_
  refine cx_keep rfl rfl ?_
  refine cx_seq ?_
  refine cx_ops ?_
  refine ax_e (e_bslice rfl (by decide) rfl rfl) ?_
  refine ax_e (e_alloc (by decide) rfl rfl) ?_
  refine ax_e (e_st rfl rfl rfl rfl rfl rfl rfl) ?_
  refine ax_nil ?_
  refine cx_keep rfl rfl ?_
  refine cx_seq ?_
  refine cx_ops ?_
  refine ax_q (q_mkfn rfl) ?_
  refine ax_q (q_mov rfl) ?_
  refine ax_nil ?_
  refine cx_keep rfl rfl ?_
  refine cx_seq ?_
  refine cx_seq ?_
  refine cx_ops ?_
  refine ax_q (q_mov rfl) ?_
  first | refine ax_q (q_lenS_map rfl) ?_ | refine ax_q (q_lenS_osl rfl) ?_ | refine ax_q (q_lenS_zs rfl) ?_ | refine ax_q (q_lenS rfl) ?_
  refine ax_q (q_mov rfl) ?_
  refine ax_nil ?_
  refine cx_keep rfl rfl ?_
  refine cx_block ?_
  refine cx_loopU (fun n (p : Nat × List IDp × List (List D)) => p.1 ≤ ns.length ∧ n = ns.length - p.1 ∧ scanD ns p.1 = some p.2.1 ∧ p.2.2.take p.2.1.length = p.2.1.map prow ∧ p.2.1.length ≤ p.1 ∧ lowS p.2.1 p.1) (fun p => [(17, int p.1)]) (fun p => [(3, .box [.osl 13 2 0 p.2.1.length]), (13, .rows 2 p.2.2)]) ⟨_, (0, [], []), ⟨Nat.zero_le _, rfl, rfl, rfl, Nat.le_refl _, fun p hp => by cases hp⟩, by repeat (first | exact trivial | refine ⟨rfl, ?_⟩ | refine ⟨?_, ?_⟩)⟩ ?_
  rintro n ⟨k, S, rs⟩ ⟨hk, rfl, hs, hrs, hS, hlow⟩
  simp only at hk hs hrs hS hlow ⊢
  refine cx_seq ?_
  refine cx_ops ?_
  refine ax_q (q_ibin rfl rfl rfl) ?_
  refine ax_nil ?_
  refine cx_keep rfl rfl ?_
  refine cx_seq ?_
  refine cx_cond rfl (fun h0 => ?_) (fun h0 => ?_)
  · have h0 := dT h0
    have h0x : k < ns.length := by omega
    have hvk := hv _ (List.getElem_mem h0x)
    have hlw := @okD_low S ns[k] k (by omega) hlow
    have hor := okD_rs (x := ns[k]) hrs
    refine cx_skip ?_
    refine cx_keep rfl rfl ?_
    refine cx_seq ?_
    refine cx_block ?_
    refine cx_seq ?_
    refine cx_ops ?_
    refine ax_q (q_mov rfl) ?_
    refine ax_q (q_ix rfl rfl (mapAt h0x)) ?_
    first | refine ax_q (q_ldN rfl rfl rfl) ?_ | refine ax_q (q_loadN_ip rfl (Nat.le_refl _)) ?_ | refine ax_q (q_loadN_ip rfl (by decide)) ?_ | refine ax_q (q_loadN_rptr rfl rfl (by assumption) (by decide)) ?_ | refine ax_q (q_loadN_rptr rfl rfl (mapAt (by first | assumption | omega)) (by decide)) ?_
    refine ax_e (e_alloc (by decide) rfl rfl) ?_
    refine ax_q (q_mov rfl) ?_
    refine ax_e (e_st rfl rfl rfl rfl rfl rfl rfl) ?_
    refine ax_nil ?_
    refine cx_keep rfl rfl ?_
    refine cx_seq ?_
    refine cx_ops ?_
    refine ax_q (q_mov rfl) ?_
    refine ax_q (q_mov rfl) ?_
    refine ax_nil ?_
    refine cx_keep rfl rfl ?_
    refine cx_seq ?_
    refine cx_block ?_
    refine cx_seq ?_
    refine cx_ops ?_
    first | refine ax_q (q_fadr_ptr rfl) ?_ | refine ax_q (q_fadr_rptr rfl) ?_ | refine ax_q (q_fadr_ip rfl) ?_
    first | refine ax_q (q_load1_ptr rfl rfl rfl) ?_ | refine ax_q (q_load1_ip rfl) ?_ | refine ax_q (q_load1_rptr rfl rfl rfl rfl) ?_ | refine ax_q (q_load1_rptr rfl rfl (by assumption) rfl) ?_ | refine ax_q (q_load1_rptr rfl rfl (mapAt (by first | assumption | omega)) rfl) ?_
    refine ax_q (q_ibin rfl rfl rfl) ?_
    refine ax_q (q_mov rfl) ?_
    refine ax_nil ?_
    refine cx_keep rfl rfl ?_
    refine cx_cond rfl (fun h1 => ?_) (fun h1 => ?_)
    · have h1 := dT h1
      have ho := okD_1 (S := S) h1
      refine cx_ops ?_
      first | refine ax_q (q_fadr_ptr rfl) ?_ | refine ax_q (q_fadr_rptr rfl) ?_ | refine ax_q (q_fadr_ip rfl) ?_
      first | refine ax_q (q_load1_ptr rfl rfl rfl) ?_ | refine ax_q (q_load1_ip rfl) ?_ | refine ax_q (q_load1_rptr rfl rfl rfl rfl) ?_ | refine ax_q (q_load1_rptr rfl rfl (by assumption) rfl) ?_ | refine ax_q (q_load1_rptr rfl rfl (mapAt (by first | assumption | omega)) rfl) ?_
      refine ax_q (q_ibin rfl rfl rfl) ?_
      refine ax_q (q_mov rfl) ?_
      apply ax_and rfl rfl
      · intro g
        have g := dT g
        first | refine ax_q (q_fadr_ptr rfl) ?_ | refine ax_q (q_fadr_rptr rfl) ?_ | refine ax_q (q_fadr_ip rfl) ?_
        first | refine ax_q (q_load1_ptr rfl rfl rfl) ?_ | refine ax_q (q_load1_ip rfl) ?_ | refine ax_q (q_load1_rptr rfl rfl rfl rfl) ?_ | refine ax_q (q_load1_rptr rfl rfl (by assumption) rfl) ?_ | refine ax_q (q_load1_rptr rfl rfl (mapAt (by first | assumption | omega)) rfl) ?_
        refine ax_q (q_ibin rfl rfl rfl) ?_
        exact ax_nil ⟨rfl, by repeat (first | exact trivial | refine ⟨rfl, ?_⟩ | refine ⟨?_, ?_⟩)⟩
      refine ax_q (q_mov rfl) ?_
      apply ax_and rfl rfl
      · intro g
        have g := (fun h => And.intro (dT (and_T h).1) (dT (and_T h).2)) g
        first | refine ax_q (q_fadr_ptr rfl) ?_ | refine ax_q (q_fadr_rptr rfl) ?_ | refine ax_q (q_fadr_ip rfl) ?_
        first | refine ax_q (q_load1_ptr rfl rfl rfl) ?_ | refine ax_q (q_load1_ip rfl) ?_ | refine ax_q (q_load1_rptr rfl rfl rfl rfl) ?_ | refine ax_q (q_load1_rptr rfl rfl (by assumption) rfl) ?_ | refine ax_q (q_load1_rptr rfl rfl (mapAt (by first | assumption | omega)) rfl) ?_
        refine ax_q (q_ibin rfl rfl rfl) ?_
        exact ax_nil ⟨rfl, by repeat (first | exact trivial | refine ⟨rfl, ?_⟩ | refine ⟨?_, ?_⟩)⟩
      refine ax_q (q_mov rfl) ?_
      apply ax_and rfl rfl
      · intro g
        have g := (fun h => And.intro ((fun h => And.intro (dT (and_T h).1) (dT (and_T h).2)) (and_T h).1) (dT (and_T h).2)) g
        first | refine ax_q (q_fadr_ptr rfl) ?_ | refine ax_q (q_fadr_rptr rfl) ?_ | refine ax_q (q_fadr_ip rfl) ?_
        first | refine ax_q (q_ldN rfl rfl rfl) ?_ | refine ax_q (q_loadN_ip rfl (Nat.le_refl _)) ?_ | refine ax_q (q_loadN_ip rfl (by decide)) ?_ | refine ax_q (q_loadN_rptr rfl rfl (by assumption) (by decide)) ?_ | refine ax_q (q_loadN_rptr rfl rfl (mapAt (by first | assumption | omega)) (by decide)) ?_
        first | refine ax_call rfl (vc_pure0 (c_ValueOK (v := ns[k].V) ?_) hP rfl rfl ?_) | refine ax_call rfl (vc_lend0 (c_ValueOK (v := ns[k].V) ?_) hP (by repeat (first | exact lal_id _ rfl | exact LAL.nil | refine LAL.cons ?_ ?_ | exact la_id _ rfl | exact LA.lend (lend_whole rfl (by first | (simp; done) | (rw [List.length_map]; rfl))) | refine LA.agg ?_ | refine LA.fn ?_ | refine LA.lend ?_ | exact Lend.d _ | exact Lend.zs _ | exact lend_whole rfl (by first | (simp; done) | (rw [List.length_map]; rfl)) | refine Lend.ptr rfl ?_ | refine Lend.fn ?_ | exact LendL.nil | refine LendL.cons ?_ ?_)) rfl rfl ?_)
        · first | assumption | omega | (simp; done) | (simp; omega)
        exact ax_nil ⟨rfl, by repeat (first | exact trivial | refine ⟨rfl, ?_⟩ | refine ⟨?_, ?_⟩)⟩
      refine ax_q (q_mov rfl) ?_
      refine ax_nil ?_
      refine cx_keep rfl rfl ?_
      refine cx_seq ?_
      refine cx_seq ?_
      refine cx_ops ?_
      refine ax_q (q_mov rfl) ?_
      refine ax_q (q_not rfl) ?_
      refine ax_nil ?_
      refine cx_keep rfl rfl ?_
      refine cx_cond rfl (fun h5 => ?_) (fun h5 => ?_)
      · have h5 : (okD S ns[k]).1 = false := by rw [ho] <;> exact bT h5
        refine cx_seq ?_
        refine cx_ops ?_
        refine ax_q (q_mov rfl) ?_
        refine ax_nil ?_
        refine cx_keep rfl rfl ?_
        refine cx_ret (ret0 rfl rfl ?_)
        exact ⟨by rw [depthF_none (k := k + 1) (by omega) (by rw [scan_next h0x hs, stepD_f h5])]; rfl, rfl⟩
      · have h5 : (okD S ns[k]).1 = true := by rw [ho] <;> exact bF h5
        have hs2 := scan_next h0x hs
        rw [stepD_t h5, ho] at hs2
        rw [ho] at hlw hor
        dsimp only at hs2 hlw hor
        refine cx_skip ?_
        refine cx_keep rfl rfl ?_
        refine cx_ops ?_
        first | refine ax_q (q_load1_ptr rfl rfl rfl) ?_ | refine ax_q (q_load1_ip rfl) ?_ | refine ax_q (q_load1_rptr rfl rfl rfl rfl) ?_ | refine ax_q (q_load1_rptr rfl rfl (by assumption) rfl) ?_ | refine ax_q (q_load1_rptr rfl rfl (mapAt (by first | assumption | omega)) rfl) ?_
        refine ax_q (q_mov rfl) ?_
        refine ax_q (q_mov rfl) ?_
        refine ax_q (q_add rfl rfl (by omega)) ?_
        refine ax_q (q_build rfl) ?_
        refine ax_e (e_bslice rfl (by decide) rfl rfl) ?_
        refine ax_e (e_appn rfl rfl (stk_le hor) rfl (src_osl rfl (by simp)) (.inl (by decide)) (hbnd (by omega) (by simp) (by decide)) (stk_len hs2) (stk_app hs2 hor)) ?_
        refine ax_e (e_st rfl rfl rfl rfl rfl rfl rfl) ?_
        refine ax_nil ?_
        refine cx_keep rfl rfl ?_
        refine cx_ops ?_
        refine ax_qe (r' := int ((k + 1 : Nat) : Int)) (q_ibin rfl rfl rfl) (by rw [wi (by omega) (by omega)]; rfl) ?_
        refine ax_q (q_mov rfl) ?_
        refine ax_nil ?_
        exact ⟨_, (k + 1, _, _), by simp only; omega, ⟨by simp only; omega, rfl, hs2, stk_inv hs2, by simp only [List.length_append, List.length_singleton]; omega, by rw [show ((k + 1 : Nat) : Int) = (k : Int) + 1 from by omega]; exact lowS_app hlw.2.2.1 ⟨hlw.1, hlw.2.1⟩⟩, by repeat (first | exact trivial | refine ⟨rfl, ?_⟩ | refine ⟨?_, ?_⟩)⟩
    · have h1 := dF h1
      refine cx_seq ?_
      refine cx_ops ?_
      first | refine ax_q (q_fadr_ptr rfl) ?_ | refine ax_q (q_fadr_rptr rfl) ?_ | refine ax_q (q_fadr_ip rfl) ?_
      first | refine ax_q (q_load1_ptr rfl rfl rfl) ?_ | refine ax_q (q_load1_ip rfl) ?_ | refine ax_q (q_load1_rptr rfl rfl rfl rfl) ?_ | refine ax_q (q_load1_rptr rfl rfl (by assumption) rfl) ?_ | refine ax_q (q_load1_rptr rfl rfl (mapAt (by first | assumption | omega)) rfl) ?_
      refine ax_q (q_ibin rfl rfl rfl) ?_
      refine ax_q (q_mov rfl) ?_
      refine ax_nil ?_
      refine cx_keep rfl rfl ?_
      refine cx_cond rfl (fun h2 => ?_) (fun h2 => ?_)
      · have h2 := dT h2
        have ho := okD_2 (S := S) h1 h2
        refine cx_ops ?_
        first | refine ax_q (q_fadr_ptr rfl) ?_ | refine ax_q (q_fadr_rptr rfl) ?_ | refine ax_q (q_fadr_ip rfl) ?_
        first | refine ax_q (q_load1_ptr rfl rfl rfl) ?_ | refine ax_q (q_load1_ip rfl) ?_ | refine ax_q (q_load1_rptr rfl rfl rfl rfl) ?_ | refine ax_q (q_load1_rptr rfl rfl (by assumption) rfl) ?_ | refine ax_q (q_load1_rptr rfl rfl (mapAt (by first | assumption | omega)) rfl) ?_
        refine ax_q (q_ibin rfl rfl rfl) ?_
        refine ax_q (q_mov rfl) ?_
        apply ax_and rfl rfl
        · intro g
          have g := dT g
          first | refine ax_q (q_fadr_ptr rfl) ?_ | refine ax_q (q_fadr_rptr rfl) ?_ | refine ax_q (q_fadr_ip rfl) ?_
          first | refine ax_q (q_load1_ptr rfl rfl rfl) ?_ | refine ax_q (q_load1_ip rfl) ?_ | refine ax_q (q_load1_rptr rfl rfl rfl rfl) ?_ | refine ax_q (q_load1_rptr rfl rfl (by assumption) rfl) ?_ | refine ax_q (q_load1_rptr rfl rfl (mapAt (by first | assumption | omega)) rfl) ?_
          refine ax_q (q_ibin rfl rfl rfl) ?_
          exact ax_nil ⟨rfl, by repeat (first | exact trivial | refine ⟨rfl, ?_⟩ | refine ⟨?_, ?_⟩)⟩
        refine ax_q (q_mov rfl) ?_
        apply ax_and rfl rfl
        · intro g
          have g := (fun h => And.intro (dT (and_T h).1) (dT (and_T h).2)) g
          first | refine ax_q (q_fadr_ptr rfl) ?_ | refine ax_q (q_fadr_rptr rfl) ?_ | refine ax_q (q_fadr_ip rfl) ?_
          first | refine ax_q (q_load1_ptr rfl rfl rfl) ?_ | refine ax_q (q_load1_ip rfl) ?_ | refine ax_q (q_load1_rptr rfl rfl rfl rfl) ?_ | refine ax_q (q_load1_rptr rfl rfl (by assumption) rfl) ?_ | refine ax_q (q_load1_rptr rfl rfl (mapAt (by first | assumption | omega)) rfl) ?_
          first | refine ax_call rfl (vc_pure0 (c_isPlace  ?_) hP rfl rfl ?_) | refine ax_call rfl (vc_lend0 (c_isPlace  ?_) hP (by repeat (first | exact lal_id _ rfl | exact LAL.nil | refine LAL.cons ?_ ?_ | exact la_id _ rfl | exact LA.lend (lend_whole rfl (by first | (simp; done) | (rw [List.length_map]; rfl))) | refine LA.agg ?_ | refine LA.fn ?_ | refine LA.lend ?_ | exact Lend.d _ | exact Lend.zs _ | exact lend_whole rfl (by first | (simp; done) | (rw [List.length_map]; rfl)) | refine Lend.ptr rfl ?_ | refine Lend.fn ?_ | exact LendL.nil | refine LendL.cons ?_ ?_)) rfl rfl ?_)
          · first | assumption | omega | (simp; done) | (simp; omega)
          exact ax_nil ⟨rfl, by repeat (first | exact trivial | refine ⟨rfl, ?_⟩ | refine ⟨?_, ?_⟩)⟩
        refine ax_q (q_mov rfl) ?_
        apply ax_and rfl rfl
        · intro g
          have g := (fun h => And.intro ((fun h => And.intro (dT (and_T h).1) (dT (and_T h).2)) (and_T h).1) (id (and_T h).2)) g
          first | refine ax_q (q_fadr_ptr rfl) ?_ | refine ax_q (q_fadr_rptr rfl) ?_ | refine ax_q (q_fadr_ip rfl) ?_
          first | refine ax_q (q_ldN rfl rfl rfl) ?_ | refine ax_q (q_loadN_ip rfl (Nat.le_refl _)) ?_ | refine ax_q (q_loadN_ip rfl (by decide)) ?_ | refine ax_q (q_loadN_rptr rfl rfl (by assumption) (by decide)) ?_ | refine ax_q (q_loadN_rptr rfl rfl (mapAt (by first | assumption | omega)) (by decide)) ?_
          refine ax_q (q_build rfl) ?_
          first | refine ax_q (GValue.q_eqs rfl rfl) ?_ | refine ax_q (q_eqs rfl rfl rfl) ?_
          exact ax_nil ⟨rfl, by repeat (first | exact trivial | refine ⟨rfl, ?_⟩ | refine ⟨?_, ?_⟩)⟩
        refine ax_q (q_mov rfl) ?_
        refine ax_nil ?_
        refine cx_keep rfl rfl ?_
        refine cx_seq ?_
        refine cx_seq ?_
        refine cx_ops ?_
        refine ax_q (q_mov rfl) ?_
        refine ax_q (q_not rfl) ?_
        refine ax_nil ?_
        refine cx_keep rfl rfl ?_
        refine cx_cond rfl (fun h5 => ?_) (fun h5 => ?_)
        · have h5 : (okD S ns[k]).1 = false := by rw [ho] <;> exact bT h5
          refine cx_seq ?_
          refine cx_ops ?_
          refine ax_q (q_mov rfl) ?_
          refine ax_nil ?_
          refine cx_keep rfl rfl ?_
          refine cx_ret (ret0 rfl rfl ?_)
          exact ⟨by rw [depthF_none (k := k + 1) (by omega) (by rw [scan_next h0x hs, stepD_f h5])]; rfl, rfl⟩
        · have h5 : (okD S ns[k]).1 = true := by rw [ho] <;> exact bF h5
          have hs2 := scan_next h0x hs
          rw [stepD_t h5, ho] at hs2
          rw [ho] at hlw hor
          dsimp only at hs2 hlw hor
          refine cx_skip ?_
          refine cx_keep rfl rfl ?_
          refine cx_ops ?_
          first | refine ax_q (q_load1_ptr rfl rfl rfl) ?_ | refine ax_q (q_load1_ip rfl) ?_ | refine ax_q (q_load1_rptr rfl rfl rfl rfl) ?_ | refine ax_q (q_load1_rptr rfl rfl (by assumption) rfl) ?_ | refine ax_q (q_load1_rptr rfl rfl (mapAt (by first | assumption | omega)) rfl) ?_
          refine ax_q (q_mov rfl) ?_
          refine ax_q (q_mov rfl) ?_
          refine ax_q (q_add rfl rfl (by omega)) ?_
          refine ax_q (q_build rfl) ?_
          refine ax_e (e_bslice rfl (by decide) rfl rfl) ?_
          refine ax_e (e_appn rfl rfl (stk_le hor) rfl (src_osl rfl (by simp)) (.inl (by decide)) (hbnd (by omega) (by simp) (by decide)) (stk_len hs2) (stk_app hs2 hor)) ?_
          refine ax_e (e_st rfl rfl rfl rfl rfl rfl rfl) ?_
          refine ax_nil ?_
          refine cx_keep rfl rfl ?_
          refine cx_ops ?_
          refine ax_qe (r' := int ((k + 1 : Nat) : Int)) (q_ibin rfl rfl rfl) (by rw [wi (by omega) (by omega)]; rfl) ?_
          refine ax_q (q_mov rfl) ?_
          refine ax_nil ?_
          exact ⟨_, (k + 1, _, _), by simp only; omega, ⟨by simp only; omega, rfl, hs2, stk_inv hs2, by simp only [List.length_append, List.length_singleton]; omega, by rw [show ((k + 1 : Nat) : Int) = (k : Int) + 1 from by omega]; exact lowS_app hlw.2.2.1 ⟨hlw.1, hlw.2.1⟩⟩, by repeat (first | exact trivial | refine ⟨rfl, ?_⟩ | refine ⟨?_, ?_⟩)⟩
      · have h2 := dF h2
        refine cx_seq ?_
        refine cx_ops ?_
        first | refine ax_q (q_fadr_ptr rfl) ?_ | refine ax_q (q_fadr_rptr rfl) ?_ | refine ax_q (q_fadr_ip rfl) ?_
        first | refine ax_q (q_load1_ptr rfl rfl rfl) ?_ | refine ax_q (q_load1_ip rfl) ?_ | refine ax_q (q_load1_rptr rfl rfl rfl rfl) ?_ | refine ax_q (q_load1_rptr rfl rfl (by assumption) rfl) ?_ | refine ax_q (q_load1_rptr rfl rfl (mapAt (by first | assumption | omega)) rfl) ?_
        first | refine ax_call rfl (vc_pure0 (c_isUnary  ) hP rfl rfl ?_) | refine ax_call rfl (vc_lend0 (c_isUnary  ) hP (by repeat (first | exact lal_id _ rfl | exact LAL.nil | refine LAL.cons ?_ ?_ | exact la_id _ rfl | exact LA.lend (lend_whole rfl (by first | (simp; done) | (rw [List.length_map]; rfl))) | refine LA.agg ?_ | refine LA.fn ?_ | refine LA.lend ?_ | exact Lend.d _ | exact Lend.zs _ | exact lend_whole rfl (by first | (simp; done) | (rw [List.length_map]; rfl)) | refine Lend.ptr rfl ?_ | refine Lend.fn ?_ | exact LendL.nil | refine LendL.cons ?_ ?_)) rfl rfl ?_)
        refine ax_q (q_mov rfl) ?_
        refine ax_nil ?_
        refine cx_keep rfl rfl ?_
        refine cx_cond rfl (fun h3 => ?_) (fun h3 => ?_)
        · skip
          have ho := okD_3 (S := S) h1 h2 h3
          refine cx_seq ?_
          refine cx_ops ?_
          refine ax_q (q_mov rfl) ?_
          first | refine ax_q (q_fadr_ptr rfl) ?_ | refine ax_q (q_fadr_rptr rfl) ?_ | refine ax_q (q_fadr_ip rfl) ?_
          first | refine ax_q (q_load1_ptr rfl rfl rfl) ?_ | refine ax_q (q_load1_ip rfl) ?_ | refine ax_q (q_load1_rptr rfl rfl rfl rfl) ?_ | refine ax_q (q_load1_rptr rfl rfl (by assumption) rfl) ?_ | refine ax_q (q_load1_rptr rfl rfl (mapAt (by first | assumption | omega)) rfl) ?_
          refine ax_callv rfl (by rw [hP]; kernel_rfl) rfl (vcall_own (c_depthOf1 (S := S) (rs := rs) (a := ns[k].A) ?_ ?_) hP hmv false (fun e => bif Nat.beq e 1000 then 3 else 13) [1000, 1001] ⟨rfl, rfl, rfl, rfl, ⟨rfl, rfl, trivial⟩, rfl, rfl, rfl⟩ (.pass rfl rfl (.pass rfl rfl .nil)) ?_)
          · omega
          · exact hrs
          rintro r h ⟨rfl, rfl⟩
          refine ⟨fun e => bif Nat.beq e 1000 then 3 else 13, [], ⟨rfl, rfl, rfl, rfl, mem2 rfl rfl, rfl, rfl, fun h => absurd h Bool.false_ne_true⟩, ?_⟩
          refine ax_q (q_mov rfl) ?_
          refine ax_q (q_ext rfl rfl) ?_
          refine ax_q (q_ext rfl rfl) ?_
          refine ax_q (q_mov rfl) ?_
          refine ax_q (q_mov rfl) ?_
          refine ax_nil ?_
          refine cx_keep rfl rfl ?_
          refine cx_ops ?_
          refine ax_q (q_mov rfl) ?_
          refine ax_q (q_mov rfl) ?_
          apply ax_and rfl rfl
          · intro g
            first | refine ax_q (q_fadr_ptr rfl) ?_ | refine ax_q (q_fadr_rptr rfl) ?_ | refine ax_q (q_fadr_ip rfl) ?_
            first | refine ax_q (q_load1_ptr rfl rfl rfl) ?_ | refine ax_q (q_load1_ip rfl) ?_ | refine ax_q (q_load1_rptr rfl rfl rfl rfl) ?_ | refine ax_q (q_load1_rptr rfl rfl (by assumption) rfl) ?_ | refine ax_q (q_load1_rptr rfl rfl (mapAt (by first | assumption | omega)) rfl) ?_
            refine ax_q (q_ibin rfl rfl rfl) ?_
            exact ax_nil ⟨rfl, by repeat (first | exact trivial | refine ⟨rfl, ?_⟩ | refine ⟨?_, ?_⟩)⟩
          refine ax_q (q_mov rfl) ?_
          apply ax_and rfl rfl
          · intro g
            have g := (fun h => And.intro (id (and_T h).1) (dT (and_T h).2)) g
            first | refine ax_q (q_fadr_ptr rfl) ?_ | refine ax_q (q_fadr_rptr rfl) ?_ | refine ax_q (q_fadr_ip rfl) ?_
            first | refine ax_q (q_load1_ptr rfl rfl rfl) ?_ | refine ax_q (q_load1_ip rfl) ?_ | refine ax_q (q_load1_rptr rfl rfl rfl rfl) ?_ | refine ax_q (q_load1_rptr rfl rfl (by assumption) rfl) ?_ | refine ax_q (q_load1_rptr rfl rfl (mapAt (by first | assumption | omega)) rfl) ?_
            refine ax_q (q_ibin rfl rfl rfl) ?_
            exact ax_nil ⟨rfl, by repeat (first | exact trivial | refine ⟨rfl, ?_⟩ | refine ⟨?_, ?_⟩)⟩
          refine ax_q (q_mov rfl) ?_
          apply ax_and rfl rfl
          · intro g
            have g := (fun h => And.intro ((fun h => And.intro (id (and_T h).1) (dT (and_T h).2)) (and_T h).1) (dT (and_T h).2)) g
            first | refine ax_q (q_fadr_ptr rfl) ?_ | refine ax_q (q_fadr_rptr rfl) ?_ | refine ax_q (q_fadr_ip rfl) ?_
            first | refine ax_q (q_ldN rfl rfl rfl) ?_ | refine ax_q (q_loadN_ip rfl (Nat.le_refl _)) ?_ | refine ax_q (q_loadN_ip rfl (by decide)) ?_ | refine ax_q (q_loadN_rptr rfl rfl (by assumption) (by decide)) ?_ | refine ax_q (q_loadN_rptr rfl rfl (mapAt (by first | assumption | omega)) (by decide)) ?_
            refine ax_q (q_build rfl) ?_
            first | refine ax_q (GValue.q_eqs rfl rfl) ?_ | refine ax_q (q_eqs rfl rfl rfl) ?_
            exact ax_nil ⟨rfl, by repeat (first | exact trivial | refine ⟨rfl, ?_⟩ | refine ⟨?_, ?_⟩)⟩
          refine ax_q (q_mov rfl) ?_
          refine ax_nil ?_
          refine cx_keep rfl rfl ?_
          refine cx_seq ?_
          refine cx_seq ?_
          refine cx_ops ?_
          refine ax_q (q_mov rfl) ?_
          refine ax_q (q_not rfl) ?_
          refine ax_nil ?_
          refine cx_keep rfl rfl ?_
          refine cx_cond rfl (fun h5 => ?_) (fun h5 => ?_)
          · have h5 : (okD S ns[k]).1 = false := by rw [ho] <;> exact bT h5
            refine cx_seq ?_
            refine cx_ops ?_
            refine ax_q (q_mov rfl) ?_
            refine ax_nil ?_
            refine cx_keep rfl rfl ?_
            refine cx_ret (ret0 rfl rfl ?_)
            exact ⟨by rw [depthF_none (k := k + 1) (by omega) (by rw [scan_next h0x hs, stepD_f h5])]; rfl, rfl⟩
          · have h5 : (okD S ns[k]).1 = true := by rw [ho] <;> exact bF h5
            have hs2 := scan_next h0x hs
            rw [stepD_t h5, ho] at hs2
            rw [ho] at hlw hor
            dsimp only at hs2 hlw hor
            refine cx_skip ?_
            refine cx_keep rfl rfl ?_
            refine cx_ops ?_
            first | refine ax_q (q_load1_ptr rfl rfl rfl) ?_ | refine ax_q (q_load1_ip rfl) ?_ | refine ax_q (q_load1_rptr rfl rfl rfl rfl) ?_ | refine ax_q (q_load1_rptr rfl rfl (by assumption) rfl) ?_ | refine ax_q (q_load1_rptr rfl rfl (mapAt (by first | assumption | omega)) rfl) ?_
            refine ax_q (q_mov rfl) ?_
            refine ax_q (q_mov rfl) ?_
            refine ax_q (q_add rfl rfl (by omega)) ?_
            refine ax_q (q_build rfl) ?_
            refine ax_e (e_bslice rfl (by decide) rfl rfl) ?_
            refine ax_e (e_appn rfl rfl (stk_le hor) rfl (src_osl rfl (by simp)) (.inl (by decide)) (hbnd (by omega) (by simp) (by decide)) (stk_len hs2) (stk_app hs2 hor)) ?_
            refine ax_e (e_st rfl rfl rfl rfl rfl rfl rfl) ?_
            refine ax_nil ?_
            refine cx_keep rfl rfl ?_
            refine cx_ops ?_
            refine ax_qe (r' := int ((k + 1 : Nat) : Int)) (q_ibin rfl rfl rfl) (by rw [wi (by omega) (by omega)]; rfl) ?_
            refine ax_q (q_mov rfl) ?_
            refine ax_nil ?_
            exact ⟨_, (k + 1, _, _), by simp only; omega, ⟨by simp only; omega, rfl, hs2, stk_inv hs2, by simp only [List.length_append, List.length_singleton]; omega, by rw [show ((k + 1 : Nat) : Int) = (k : Int) + 1 from by omega]; exact lowS_app hlw.2.2.1 ⟨hlw.1, hlw.2.1⟩⟩, by repeat (first | exact trivial | refine ⟨rfl, ?_⟩ | refine ⟨?_, ?_⟩)⟩
        · skip
          refine cx_seq ?_
          refine cx_ops ?_
          first | refine ax_q (q_fadr_ptr rfl) ?_ | refine ax_q (q_fadr_rptr rfl) ?_ | refine ax_q (q_fadr_ip rfl) ?_
          first | refine ax_q (q_load1_ptr rfl rfl rfl) ?_ | refine ax_q (q_load1_ip rfl) ?_ | refine ax_q (q_load1_rptr rfl rfl rfl rfl) ?_ | refine ax_q (q_load1_rptr rfl rfl (by assumption) rfl) ?_ | refine ax_q (q_load1_rptr rfl rfl (mapAt (by first | assumption | omega)) rfl) ?_
          first | refine ax_call rfl (vc_pure0 (c_isBinary  ) hP rfl rfl ?_) | refine ax_call rfl (vc_lend0 (c_isBinary  ) hP (by repeat (first | exact lal_id _ rfl | exact LAL.nil | refine LAL.cons ?_ ?_ | exact la_id _ rfl | exact LA.lend (lend_whole rfl (by first | (simp; done) | (rw [List.length_map]; rfl))) | refine LA.agg ?_ | refine LA.fn ?_ | refine LA.lend ?_ | exact Lend.d _ | exact Lend.zs _ | exact lend_whole rfl (by first | (simp; done) | (rw [List.length_map]; rfl)) | refine Lend.ptr rfl ?_ | refine Lend.fn ?_ | exact LendL.nil | refine LendL.cons ?_ ?_)) rfl rfl ?_)
          refine ax_q (q_mov rfl) ?_
          refine ax_nil ?_
          refine cx_keep rfl rfl ?_
          refine cx_cond rfl (fun h4 => ?_) (fun h4 => ?_)
          · skip
            have ho := okD_4 (S := S) h1 h2 h3 h4
            refine cx_seq ?_
            refine cx_ops ?_
            refine ax_q (q_mov rfl) ?_
            first | refine ax_q (q_fadr_ptr rfl) ?_ | refine ax_q (q_fadr_rptr rfl) ?_ | refine ax_q (q_fadr_ip rfl) ?_
            first | refine ax_q (q_load1_ptr rfl rfl rfl) ?_ | refine ax_q (q_load1_ip rfl) ?_ | refine ax_q (q_load1_rptr rfl rfl rfl rfl) ?_ | refine ax_q (q_load1_rptr rfl rfl (by assumption) rfl) ?_ | refine ax_q (q_load1_rptr rfl rfl (mapAt (by first | assumption | omega)) rfl) ?_
            refine ax_callv rfl (by rw [hP]; kernel_rfl) rfl (vcall_own (c_depthOf1 (S := S) (rs := rs) (a := ns[k].B) ?_ ?_) hP hmv false (fun e => bif Nat.beq e 1000 then 3 else 13) [1000, 1001] ⟨rfl, rfl, rfl, rfl, ⟨rfl, rfl, trivial⟩, rfl, rfl, rfl⟩ (.pass rfl rfl (.pass rfl rfl .nil)) ?_)
            · omega
            · exact hrs
            rintro r h ⟨rfl, rfl⟩
            refine ⟨fun e => bif Nat.beq e 1000 then 3 else 13, [], ⟨rfl, rfl, rfl, rfl, mem2 rfl rfl, rfl, rfl, fun h => absurd h Bool.false_ne_true⟩, ?_⟩
            refine ax_q (q_mov rfl) ?_
            refine ax_q (q_ext rfl rfl) ?_
            refine ax_q (q_ext rfl rfl) ?_
            refine ax_q (q_mov rfl) ?_
            refine ax_q (q_mov rfl) ?_
            refine ax_nil ?_
            refine cx_keep rfl rfl ?_
            refine cx_seq ?_
            refine cx_ops ?_
            refine ax_q (q_mov rfl) ?_
            first | refine ax_q (q_fadr_ptr rfl) ?_ | refine ax_q (q_fadr_rptr rfl) ?_ | refine ax_q (q_fadr_ip rfl) ?_
            first | refine ax_q (q_load1_ptr rfl rfl rfl) ?_ | refine ax_q (q_load1_ip rfl) ?_ | refine ax_q (q_load1_rptr rfl rfl rfl rfl) ?_ | refine ax_q (q_load1_rptr rfl rfl (by assumption) rfl) ?_ | refine ax_q (q_load1_rptr rfl rfl (mapAt (by first | assumption | omega)) rfl) ?_
            have hpl := @popF_len S ns[k].B
            refine ax_callv rfl (by rw [hP]; kernel_rfl) rfl (vcall_own (c_depthOf1 (S := (popF S ns[k].B).2.2) (rs := rs) (a := ns[k].A) ?_ ?_) hP hmv false (fun e => bif Nat.beq e 1000 then 3 else 13) [1000, 1001] ⟨rfl, rfl, rfl, rfl, ⟨rfl, rfl, trivial⟩, rfl, rfl, rfl⟩ (.pass rfl rfl (.pass rfl rfl .nil)) ?_)
            · omega
            · exact popF_rs hrs
            rintro r h ⟨rfl, rfl⟩
            refine ⟨fun e => bif Nat.beq e 1000 then 3 else 13, [], ⟨rfl, rfl, rfl, rfl, mem2 rfl rfl, rfl, rfl, fun h => absurd h Bool.false_ne_true⟩, ?_⟩
            refine ax_q (q_mov rfl) ?_
            refine ax_q (q_ext rfl rfl) ?_
            refine ax_q (q_ext rfl rfl) ?_
            refine ax_q (q_mov rfl) ?_
            refine ax_q (q_mov rfl) ?_
            refine ax_nil ?_
            refine cx_keep rfl rfl ?_
            refine cx_draw ?_
            refine ax_q (q_mov rfl) ?_
            refine ax_q (q_mov rfl) ?_
            refine ax_qe (r' := int (mxI (popF (popF S ns[k].B).2.2 ns[k].A).1 (popF S ns[k].B).1)) (q_mx rfl rfl) (rfl) ?_
            refine ax_q (q_mov rfl) ?_
            refine ax_q (q_mov rfl) ?_
            apply ax_and rfl rfl
            · intro g
              refine ax_q (q_mov rfl) ?_
              exact ax_nil ⟨rfl, by repeat (first | exact trivial | refine ⟨rfl, ?_⟩ | refine ⟨?_, ?_⟩)⟩
            refine ax_q (q_mov rfl) ?_
            apply ax_and rfl rfl
            · intro g
              have g := (fun h => And.intro (id (and_T h).1) (id (and_T h).2)) g
              first | refine ax_q (q_fadr_ptr rfl) ?_ | refine ax_q (q_fadr_rptr rfl) ?_ | refine ax_q (q_fadr_ip rfl) ?_
              first | refine ax_q (q_load1_ptr rfl rfl rfl) ?_ | refine ax_q (q_load1_ip rfl) ?_ | refine ax_q (q_load1_rptr rfl rfl rfl rfl) ?_ | refine ax_q (q_load1_rptr rfl rfl (by assumption) rfl) ?_ | refine ax_q (q_load1_rptr rfl rfl (mapAt (by first | assumption | omega)) rfl) ?_
              refine ax_q (q_ibin rfl rfl rfl) ?_
              exact ax_nil ⟨rfl, by repeat (first | exact trivial | refine ⟨rfl, ?_⟩ | refine ⟨?_, ?_⟩)⟩
            refine ax_q (q_mov rfl) ?_
            apply ax_and rfl rfl
            · intro g
              have g := (fun h => And.intro ((fun h => And.intro (id (and_T h).1) (id (and_T h).2)) (and_T h).1) (dT (and_T h).2)) g
              first | refine ax_q (q_fadr_ptr rfl) ?_ | refine ax_q (q_fadr_rptr rfl) ?_ | refine ax_q (q_fadr_ip rfl) ?_
              first | refine ax_q (q_ldN rfl rfl rfl) ?_ | refine ax_q (q_loadN_ip rfl (Nat.le_refl _)) ?_ | refine ax_q (q_loadN_ip rfl (by decide)) ?_ | refine ax_q (q_loadN_rptr rfl rfl (by assumption) (by decide)) ?_ | refine ax_q (q_loadN_rptr rfl rfl (mapAt (by first | assumption | omega)) (by decide)) ?_
              refine ax_q (q_build rfl) ?_
              first | refine ax_q (GValue.q_eqs rfl rfl) ?_ | refine ax_q (q_eqs rfl rfl rfl) ?_
              exact ax_nil ⟨rfl, by repeat (first | exact trivial | refine ⟨rfl, ?_⟩ | refine ⟨?_, ?_⟩)⟩
            refine ax_q (q_mov rfl) ?_
            refine ax_q (q_mov rfl) ?_
            refine ax_nil ?_
            refine cx_keep rfl rfl ?_
            refine cx_seq ?_
            refine cx_seq ?_
            refine cx_ops ?_
            refine ax_q (q_mov rfl) ?_
            refine ax_q (q_not rfl) ?_
            refine ax_nil ?_
            refine cx_keep rfl rfl ?_
            refine cx_cond rfl (fun h5 => ?_) (fun h5 => ?_)
            · have h5 : (okD S ns[k]).1 = false := by rw [ho] <;> exact bT h5
              refine cx_seq ?_
              refine cx_ops ?_
              refine ax_q (q_mov rfl) ?_
              refine ax_nil ?_
              refine cx_keep rfl rfl ?_
              refine cx_ret (ret0 rfl rfl ?_)
              exact ⟨by rw [depthF_none (k := k + 1) (by omega) (by rw [scan_next h0x hs, stepD_f h5])]; rfl, rfl⟩
            · have h5 : (okD S ns[k]).1 = true := by rw [ho] <;> exact bF h5
              have hs2 := scan_next h0x hs
              rw [stepD_t h5, ho] at hs2
              rw [ho] at hlw hor
              dsimp only at hs2 hlw hor
              refine cx_skip ?_
              refine cx_keep rfl rfl ?_
              refine cx_ops ?_
              first | refine ax_q (q_load1_ptr rfl rfl rfl) ?_ | refine ax_q (q_load1_ip rfl) ?_ | refine ax_q (q_load1_rptr rfl rfl rfl rfl) ?_ | refine ax_q (q_load1_rptr rfl rfl (by assumption) rfl) ?_ | refine ax_q (q_load1_rptr rfl rfl (mapAt (by first | assumption | omega)) rfl) ?_
              refine ax_q (q_mov rfl) ?_
              refine ax_q (q_mov rfl) ?_
              refine ax_q (q_add rfl rfl (by omega)) ?_
              refine ax_q (q_build rfl) ?_
              refine ax_e (e_bslice rfl (by decide) rfl rfl) ?_
              refine ax_e (e_appn rfl rfl (stk_le hor) rfl (src_osl rfl (by simp)) (.inl (by decide)) (hbnd (by omega) (by simp) (by decide)) (stk_len hs2) (stk_app hs2 hor)) ?_
              refine ax_e (e_st rfl rfl rfl rfl rfl rfl rfl) ?_
              refine ax_nil ?_
              refine cx_keep rfl rfl ?_
              refine cx_ops ?_
              refine ax_qe (r' := int ((k + 1 : Nat) : Int)) (q_ibin rfl rfl rfl) (by rw [wi (by omega) (by omega)]; rfl) ?_
              refine ax_q (q_mov rfl) ?_
              refine ax_nil ?_
              exact ⟨_, (k + 1, _, _), by simp only; omega, ⟨by simp only; omega, rfl, hs2, stk_inv hs2, by simp only [List.length_append, List.length_singleton]; omega, by rw [show ((k + 1 : Nat) : Int) = (k : Int) + 1 from by omega]; exact lowS_app hlw.2.2.1 ⟨hlw.1, hlw.2.1⟩⟩, by repeat (first | exact trivial | refine ⟨rfl, ?_⟩ | refine ⟨?_, ?_⟩)⟩
          · skip
            have ho := okD_5 (S := S) h1 h2 h3 h4
            refine cx_ops ?_
            refine ax_q (q_mov rfl) ?_
            refine ax_nil ?_
            refine cx_keep rfl rfl ?_
            refine cx_seq ?_
            refine cx_seq ?_
            refine cx_ops ?_
            refine ax_q (q_mov rfl) ?_
            refine ax_q (q_not rfl) ?_
            refine ax_nil ?_
            refine cx_keep rfl rfl ?_
            refine cx_cond rfl (fun h5 => ?_) (fun h5 => ?_)
            · have h5 : (okD S ns[k]).1 = false := by rw [ho] <;> exact bT h5
              refine cx_seq ?_
              refine cx_ops ?_
              refine ax_q (q_mov rfl) ?_
              refine ax_nil ?_
              refine cx_keep rfl rfl ?_
              refine cx_ret (ret0 rfl rfl ?_)
              exact ⟨by rw [depthF_none (k := k + 1) (by omega) (by rw [scan_next h0x hs, stepD_f h5])]; rfl, rfl⟩
            · have h5 : (okD S ns[k]).1 = true := by rw [ho] <;> exact bF h5
              have hs2 := scan_next h0x hs
              rw [stepD_t h5, ho] at hs2
              rw [ho] at hlw hor
              dsimp only at hs2 hlw hor
              refine cx_skip ?_
              refine cx_keep rfl rfl ?_
              refine cx_ops ?_
              first | refine ax_q (q_load1_ptr rfl rfl rfl) ?_ | refine ax_q (q_load1_ip rfl) ?_ | refine ax_q (q_load1_rptr rfl rfl rfl rfl) ?_ | refine ax_q (q_load1_rptr rfl rfl (by assumption) rfl) ?_ | refine ax_q (q_load1_rptr rfl rfl (mapAt (by first | assumption | omega)) rfl) ?_
              refine ax_q (q_mov rfl) ?_
              refine ax_q (q_mov rfl) ?_
              refine ax_q (q_add rfl rfl (by omega)) ?_
              refine ax_q (q_build rfl) ?_
              refine ax_e (e_bslice rfl (by decide) rfl rfl) ?_
              refine ax_e (e_appn rfl rfl (stk_le hor) rfl (src_osl rfl (by simp)) (.inl (by decide)) (hbnd (by omega) (by simp) (by decide)) (stk_len hs2) (stk_app hs2 hor)) ?_
              refine ax_e (e_st rfl rfl rfl rfl rfl rfl rfl) ?_
              refine ax_nil ?_
              refine cx_keep rfl rfl ?_
              refine cx_ops ?_
              refine ax_qe (r' := int ((k + 1 : Nat) : Int)) (q_ibin rfl rfl rfl) (by rw [wi (by omega) (by omega)]; rfl) ?_
              refine ax_q (q_mov rfl) ?_
              refine ax_nil ?_
              exact ⟨_, (k + 1, _, _), by simp only; omega, ⟨by simp only; omega, rfl, hs2, stk_inv hs2, by simp only [List.length_append, List.length_singleton]; omega, by rw [show ((k + 1 : Nat) : Int) = (k : Int) + 1 from by omega]; exact lowS_app hlw.2.2.1 ⟨hlw.1, hlw.2.1⟩⟩, by repeat (first | exact trivial | refine ⟨rfl, ?_⟩ | refine ⟨?_, ?_⟩)⟩
  · have h0 := dF h0
    have h0x : k = ns.length := by omega
    subst h0x
    refine cx_exit rfl ?_
    refine cx_keep rfl rfl ?_
    refine cx_seq ?_
    refine cx_seq ?_
    refine cx_ops ?_
    first | refine ax_q (q_load1_ptr rfl rfl rfl) ?_ | refine ax_q (q_load1_ip rfl) ?_ | refine ax_q (q_load1_rptr rfl rfl rfl rfl) ?_ | refine ax_q (q_load1_rptr rfl rfl (by assumption) rfl) ?_ | refine ax_q (q_load1_rptr rfl rfl (mapAt (by first | assumption | omega)) rfl) ?_
    first | refine ax_q (q_lenS_map rfl) ?_ | refine ax_q (q_lenS_osl rfl) ?_ | refine ax_q (q_lenS_zs rfl) ?_ | refine ax_q (q_lenS rfl) ?_
    refine ax_q (q_ibin rfl rfl rfl) ?_
    refine ax_nil ?_
    refine cx_keep rfl rfl ?_
    refine cx_cond rfl (fun h6 => ?_) (fun h6 => ?_)
    · have h6 := nT h6
      refine cx_seq ?_
      refine cx_ops ?_
      refine ax_q (q_mov rfl) ?_
      refine ax_nil ?_
      refine cx_keep rfl rfl ?_
      refine cx_ret (ret0 rfl rfl ?_)
      exact ⟨by rw [depthF_no hs h6]; rfl, rfl⟩
    · have h6 := nF h6
      refine cx_skip ?_
      refine cx_keep rfl rfl ?_
      refine cx_seq ?_
      refine cx_ops ?_
      first | refine ax_q (q_load1_ptr rfl rfl rfl) ?_ | refine ax_q (q_load1_ip rfl) ?_ | refine ax_q (q_load1_rptr rfl rfl rfl rfl) ?_ | refine ax_q (q_load1_rptr rfl rfl (by assumption) rfl) ?_ | refine ax_q (q_load1_rptr rfl rfl (mapAt (by first | assumption | omega)) rfl) ?_
      refine ax_q (q_ixoI rfl rfl (by omega) (by omega)) ?_
      first | refine ax_q (q_fadr_ptr rfl) ?_ | refine ax_q (q_fadr_rptr rfl) ?_ | refine ax_q (q_fadr_ip rfl) ?_
      refine ax_q (q_load1_rptr (r := prow (S.getD 0 (0, 0))) rfl rfl (row0 hrs h6) rfl) ?_
      refine ax_q (q_mov rfl) ?_
      refine ax_nil ?_
      refine cx_keep rfl rfl ?_
      refine cx_ret (ret0 rfl rfl ?_)
      exact ⟨by rw [depthF_yes hs h6]; rfl, rfl⟩


/- loop.example/g00332/impl.ExprOK -/
def k_c_ExprOK : XCode :=
  .seq (.ops [.op (some 1) (.box (.t 0)),
     .op (some 2) (.mov (.k (.bool false)))])
  (.keep [1] (.seq (.ops [.op (some 3) (.fadr (.t 1) 0),
     .op (some 4) (.load1 (.t 3)),
     .op (some 5) (.lenS (.t 4)),
     .call (some 6) 54 [.t 5, .k (.int .i64 1), .k (.int .i64 40)],
     .op (some 7) (.mov (.t 6)),
     .andor 12 true 4 7 [.op (some 8) (.fadr (.t 1) 0), .op (some 9) (.load1 (.t 8)), .call (some 10) 76 [.t 9], .call (some 11) 54 [.t 10, .k (.int .i64 1), .k (.int .i64 12)]] (.t 11),
     .op (some 2) (.mov (.t 12))])
  (.keep [2] (.ret))))
theorem k_c_ExprOK_fits : fitsF Try.prog 50 ⟨13, k_c_ExprOK, [.t 2]⟩ = true := by kernel_rfl
theorem c_ExprOK {e : GExpr} (hw : e.Nodes.length ≤ 1048576) (hv : ∀ x ∈ e.Nodes, x.V.T.length ≤ 1048576) : Con Try.prog noMv 50 [e.av] [] (fun r h => r = bool (exprOK e) ∧ h = []) := by
  refine con_of2 k_c_ExprOK_fits rfl fun C hP hmv => ?_
  unfold k_c_ExprOK
  refine cx_seq ?_
  refine cx_ops ?_
  refine ax_e (e_box rfl rfl (by decide) rfl rfl rfl) ?_
  refine ax_q (q_mov rfl) ?_
  refine ax_nil ?_
  refine cx_keep rfl rfl ?_
  refine cx_seq ?_
  refine cx_ops ?_
  first | refine ax_q (q_fadr_ptr rfl) ?_ | refine ax_q (q_fadr_rptr rfl) ?_ | refine ax_q (q_fadr_ip rfl) ?_
  first | refine ax_q (q_load1_ptr rfl rfl rfl) ?_ | refine ax_q (q_load1_ip rfl) ?_ | refine ax_q (q_load1_rptr rfl rfl rfl rfl) ?_ | refine ax_q (q_load1_rptr rfl rfl (by assumption) rfl) ?_ | refine ax_q (q_load1_rptr rfl rfl (mapAt (by first | assumption | omega)) rfl) ?_
  first | refine ax_q (q_lenS_map rfl) ?_ | refine ax_q (q_lenS_osl rfl) ?_ | refine ax_q (q_lenS_zs rfl) ?_ | refine ax_q (q_lenS rfl) ?_
  first | refine ax_call rfl (vc_pure0 (c_inRange  ) hP rfl rfl ?_) | refine ax_call rfl (vc_lend0 (c_inRange  ) hP (by repeat (first | exact lal_id _ rfl | exact LAL.nil | refine LAL.cons ?_ ?_ | exact la_id _ rfl | exact LA.lend (lend_whole rfl (by first | (simp; done) | (rw [List.length_map]; rfl))) | refine LA.agg ?_ | refine LA.fn ?_ | refine LA.lend ?_ | exact Lend.d _ | exact Lend.zs _ | exact lend_whole rfl (by first | (simp; done) | (rw [List.length_map]; rfl)) | refine Lend.ptr rfl ?_ | refine Lend.fn ?_ | exact LendL.nil | refine LendL.cons ?_ ?_)) rfl rfl ?_)
  refine ax_q (q_mov rfl) ?_
  apply ax_and rfl rfl
  · intro g
    first | refine ax_q (q_fadr_ptr rfl) ?_ | refine ax_q (q_fadr_rptr rfl) ?_ | refine ax_q (q_fadr_ip rfl) ?_
    first | refine ax_q (q_load1_ptr rfl rfl rfl) ?_ | refine ax_q (q_load1_ip rfl) ?_ | refine ax_q (q_load1_rptr rfl rfl rfl rfl) ?_ | refine ax_q (q_load1_rptr rfl rfl (by assumption) rfl) ?_ | refine ax_q (q_load1_rptr rfl rfl (mapAt (by first | assumption | omega)) rfl) ?_
    first | refine ax_call rfl (vc_pure0 (c_depthOf (ns := e.Nodes) ?_ ?_) hP rfl rfl ?_) | refine ax_call rfl (vc_lend0 (c_depthOf (ns := e.Nodes) ?_ ?_) hP (by repeat (first | exact lal_id _ rfl | exact LAL.nil | refine LAL.cons ?_ ?_ | exact la_id _ rfl | exact LA.lend (lend_whole rfl (by first | (simp; done) | (rw [List.length_map]; rfl))) | refine LA.agg ?_ | refine LA.fn ?_ | refine LA.lend ?_ | exact Lend.d _ | exact Lend.zs _ | exact lend_whole rfl (by first | (simp; done) | (rw [List.length_map]; rfl)) | refine Lend.ptr rfl ?_ | refine Lend.fn ?_ | exact LendL.nil | refine LendL.cons ?_ ?_)) rfl rfl ?_)
    · first | assumption | omega | (simp; done) | (simp; omega)
    · first | assumption | omega | (simp; done) | (simp; omega)
    first | refine ax_call rfl (vc_pure0 (c_inRange  ) hP rfl rfl ?_) | refine ax_call rfl (vc_lend0 (c_inRange  ) hP (by repeat (first | exact lal_id _ rfl | exact LAL.nil | refine LAL.cons ?_ ?_ | exact la_id _ rfl | exact LA.lend (lend_whole rfl (by first | (simp; done) | (rw [List.length_map]; rfl))) | refine LA.agg ?_ | refine LA.fn ?_ | refine LA.lend ?_ | exact Lend.d _ | exact Lend.zs _ | exact lend_whole rfl (by first | (simp; done) | (rw [List.length_map]; rfl)) | refine Lend.ptr rfl ?_ | refine Lend.fn ?_ | exact LendL.nil | refine LendL.cons ?_ ?_)) rfl rfl ?_)
    exact ax_nil ⟨rfl, by repeat (first | exact trivial | refine ⟨rfl, ?_⟩ | refine ⟨?_, ?_⟩)⟩
  refine ax_q (q_mov rfl) ?_
  refine ax_nil ?_
  refine cx_keep rfl rfl ?_
  refine cx_ret (ret0 rfl rfl ?_)
  exact ⟨by rw [← exprOK_i]; rfl, rfl⟩


/- loop.example/g00332/impl.isId -/
def k_c_isId : XCode :=
  .seq (.ops [.op (some 2) (.mov (.k (.bool false)))])
  (.keep [0] (.seq (.ops [.op (some 3) (.mov (.t 0)),
     .call (some 4) 54 [.t 3, .k (.int .i64 0), .k (.int .i64 1000)],
     .op (some 2) (.mov (.t 4))])
  (.keep [2] (.ret))))
theorem k_c_isId_fits : fitsF Try.prog 77 ⟨5, k_c_isId, [.t 2]⟩ = true := by kernel_rfl
theorem c_isId {n : Int} : Con Try.prog noMv 77 [int n] [] (fun r h => r = bool (inR n 0 1000) ∧ h = []) := by
  refine con_of2 k_c_isId_fits rfl fun C hP hmv => ?_
  unfold k_c_isId
  refine cx_seq ?_
  refine cx_ops ?_
  refine ax_q (q_mov rfl) ?_
  refine ax_nil ?_
  refine cx_keep rfl rfl ?_
  refine cx_seq ?_
  refine cx_ops ?_
  refine ax_q (q_mov rfl) ?_
  first | refine ax_call rfl (vc_pure0 (c_inRange  ) hP rfl rfl ?_) | refine ax_call rfl (vc_lend0 (c_inRange  ) hP (by repeat (first | exact lal_id _ rfl | exact LAL.nil | refine LAL.cons ?_ ?_ | exact la_id _ rfl | exact LA.lend (lend_whole rfl (by first | (simp; done) | (rw [List.length_map]; rfl))) | refine LA.agg ?_ | refine LA.fn ?_ | refine LA.lend ?_ | exact Lend.d _ | exact Lend.zs _ | exact lend_whole rfl (by first | (simp; done) | (rw [List.length_map]; rfl)) | refine Lend.ptr rfl ?_ | refine Lend.fn ?_ | exact LendL.nil | refine LendL.cons ?_ ?_)) rfl rfl ?_)
  refine ax_q (q_mov rfl) ?_
  refine ax_nil ?_
  refine cx_keep rfl rfl ?_
  refine cx_ret (ret0 rfl rfl ?_)
  exact ⟨rfl, rfl⟩


/- loop.example/g00332/impl.rowOK -/
def k_c_rowOK : XCode :=
  .seq (.ops [.op (some 1) (.box (.t 0)),
     .op (some 2) (.mov (.k (.bool false)))])
  (.keep [1] (.seq (.ops [.op (some 3) (.fadr (.t 1) 0),
     .op (some 4) (.load1 (.t 3)),
     .call (some 5) 77 [.t 4],
     .op (some 6) (.mov (.t 5)),
     .andor 10 true 3 6 [.op (some 7) (.fadr (.t 1) 1), .op (some 8) (.loadN 3 (.t 7)), .call (some 9) 78 [.t 8]] (.t 9),
     .op (some 11) (.mov (.t 10)),
     .andor 16 true 8 11 [.op (some 12) (.fadr (.t 1) 1), .op (some 13) (.fadr (.t 12) 0), .op (some 14) (.load1 (.t 13)), .op (some 15) (.bin .neq (.t 14) (.k (.int .i64 2)))] (.t 15),
     .op (some 17) (.mov (.t 16)),
     .andor 21 true 14 17 [.op (some 18) (.fadr (.t 1) 4), .op (some 19) (.loadN 3 (.t 18)), .call (some 20) 78 [.t 19]] (.t 20),
     .op (some 22) (.mov (.t 21)),
     .andor 27 true 19 22 [.op (some 23) (.fadr (.t 1) 4), .op (some 24) (.fadr (.t 23) 0), .op (some 25) (.load1 (.t 24)), .op (some 26) (.bin .neq (.t 25) (.k (.int .i64 1)))] (.t 26),
     .op (some 2) (.mov (.t 27))])
  (.keep [2] (.ret))))
theorem k_c_rowOK_fits : fitsF Try.prog 53 ⟨28, k_c_rowOK, [.t 2]⟩ = true := by kernel_rfl
theorem c_rowOK {a : GRow} (hv : a.N.T.length ≤ 1048576) (hw : a.Name.T.length ≤ 1048576) : Con Try.prog noMv 53 [a.av] [] (fun r h => r = bool (rowOK a) ∧ h = []) := by
  refine con_of2 k_c_rowOK_fits rfl fun C hP hmv => ?_
  unfold k_c_rowOK
  refine cx_seq ?_
  refine cx_ops ?_
  refine ax_e (e_box rfl rfl (by decide) rfl rfl rfl) ?_
  refine ax_q (q_mov rfl) ?_
  refine ax_nil ?_
  refine cx_keep rfl rfl ?_
  refine cx_seq ?_
  refine cx_ops ?_
  first | refine ax_q (q_fadr_ptr rfl) ?_ | refine ax_q (q_fadr_rptr rfl) ?_ | refine ax_q (q_fadr_ip rfl) ?_
  first | refine ax_q (q_load1_ptr rfl rfl rfl) ?_ | refine ax_q (q_load1_ip rfl) ?_ | refine ax_q (q_load1_rptr rfl rfl rfl rfl) ?_ | refine ax_q (q_load1_rptr rfl rfl (by assumption) rfl) ?_ | refine ax_q (q_load1_rptr rfl rfl (mapAt (by first | assumption | omega)) rfl) ?_
  first | refine ax_call rfl (vc_pure0 (c_isId  ) hP rfl rfl ?_) | refine ax_call rfl (vc_lend0 (c_isId  ) hP (by repeat (first | exact lal_id _ rfl | exact LAL.nil | refine LAL.cons ?_ ?_ | exact la_id _ rfl | exact LA.lend (lend_whole rfl (by first | (simp; done) | (rw [List.length_map]; rfl))) | refine LA.agg ?_ | refine LA.fn ?_ | refine LA.lend ?_ | exact Lend.d _ | exact Lend.zs _ | exact lend_whole rfl (by first | (simp; done) | (rw [List.length_map]; rfl)) | refine Lend.ptr rfl ?_ | refine Lend.fn ?_ | exact LendL.nil | refine LendL.cons ?_ ?_)) rfl rfl ?_)
  refine ax_q (q_mov rfl) ?_
  apply ax_and rfl rfl
  · intro g
    first | refine ax_q (q_fadr_ptr rfl) ?_ | refine ax_q (q_fadr_rptr rfl) ?_ | refine ax_q (q_fadr_ip rfl) ?_
    first | refine ax_q (q_ldN rfl rfl rfl) ?_ | refine ax_q (q_loadN_ip rfl (Nat.le_refl _)) ?_ | refine ax_q (q_loadN_ip rfl (by decide)) ?_ | refine ax_q (q_loadN_rptr rfl rfl (by assumption) (by decide)) ?_ | refine ax_q (q_loadN_rptr rfl rfl (mapAt (by first | assumption | omega)) (by decide)) ?_
    first | refine ax_call rfl (vc_pure0 (c_ValueOK (v := a.N) ?_) hP rfl rfl ?_) | refine ax_call rfl (vc_lend0 (c_ValueOK (v := a.N) ?_) hP (by repeat (first | exact lal_id _ rfl | exact LAL.nil | refine LAL.cons ?_ ?_ | exact la_id _ rfl | exact LA.lend (lend_whole rfl (by first | (simp; done) | (rw [List.length_map]; rfl))) | refine LA.agg ?_ | refine LA.fn ?_ | refine LA.lend ?_ | exact Lend.d _ | exact Lend.zs _ | exact lend_whole rfl (by first | (simp; done) | (rw [List.length_map]; rfl)) | refine Lend.ptr rfl ?_ | refine Lend.fn ?_ | exact LendL.nil | refine LendL.cons ?_ ?_)) rfl rfl ?_)
    · first | assumption | omega | (simp; done) | (simp; omega)
    exact ax_nil ⟨rfl, by repeat (first | exact trivial | refine ⟨rfl, ?_⟩ | refine ⟨?_, ?_⟩)⟩
  refine ax_q (q_mov rfl) ?_
  apply ax_and rfl rfl
  · intro g
    have g := (fun h => And.intro (id (and_T h).1) (id (and_T h).2)) g
    first | refine ax_q (q_fadr_ptr rfl) ?_ | refine ax_q (q_fadr_rptr rfl) ?_ | refine ax_q (q_fadr_ip rfl) ?_
    first | refine ax_q (q_fadr_ptr rfl) ?_ | refine ax_q (q_fadr_rptr rfl) ?_ | refine ax_q (q_fadr_ip rfl) ?_
    first | refine ax_q (q_load1_ptr rfl rfl rfl) ?_ | refine ax_q (q_load1_ip rfl) ?_ | refine ax_q (q_load1_rptr rfl rfl rfl rfl) ?_ | refine ax_q (q_load1_rptr rfl rfl (by assumption) rfl) ?_ | refine ax_q (q_load1_rptr rfl rfl (mapAt (by first | assumption | omega)) rfl) ?_
    refine ax_q (q_ibin rfl rfl rfl) ?_
    exact ax_nil ⟨rfl, by repeat (first | exact trivial | refine ⟨rfl, ?_⟩ | refine ⟨?_, ?_⟩)⟩
  refine ax_q (q_mov rfl) ?_
  apply ax_and rfl rfl
  · intro g
    have g := (fun h => And.intro ((fun h => And.intro (id (and_T h).1) (id (and_T h).2)) (and_T h).1) (nT (and_T h).2)) g
    first | refine ax_q (q_fadr_ptr rfl) ?_ | refine ax_q (q_fadr_rptr rfl) ?_ | refine ax_q (q_fadr_ip rfl) ?_
    first | refine ax_q (q_ldN rfl rfl rfl) ?_ | refine ax_q (q_loadN_ip rfl (Nat.le_refl _)) ?_ | refine ax_q (q_loadN_ip rfl (by decide)) ?_ | refine ax_q (q_loadN_rptr rfl rfl (by assumption) (by decide)) ?_ | refine ax_q (q_loadN_rptr rfl rfl (mapAt (by first | assumption | omega)) (by decide)) ?_
    first | refine ax_call rfl (vc_pure0 (c_ValueOK (v := a.Name) ?_) hP rfl rfl ?_) | refine ax_call rfl (vc_lend0 (c_ValueOK (v := a.Name) ?_) hP (by repeat (first | exact lal_id _ rfl | exact LAL.nil | refine LAL.cons ?_ ?_ | exact la_id _ rfl | exact LA.lend (lend_whole rfl (by first | (simp; done) | (rw [List.length_map]; rfl))) | refine LA.agg ?_ | refine LA.fn ?_ | refine LA.lend ?_ | exact Lend.d _ | exact Lend.zs _ | exact lend_whole rfl (by first | (simp; done) | (rw [List.length_map]; rfl)) | refine Lend.ptr rfl ?_ | refine Lend.fn ?_ | exact LendL.nil | refine LendL.cons ?_ ?_)) rfl rfl ?_)
    · first | assumption | omega | (simp; done) | (simp; omega)
    exact ax_nil ⟨rfl, by repeat (first | exact trivial | refine ⟨rfl, ?_⟩ | refine ⟨?_, ?_⟩)⟩
  refine ax_q (q_mov rfl) ?_
  apply ax_and rfl rfl
  · intro g
    have g := (fun h => And.intro ((fun h => And.intro ((fun h => And.intro (id (and_T h).1) (id (and_T h).2)) (and_T h).1) (nT (and_T h).2)) (and_T h).1) (id (and_T h).2)) g
    first | refine ax_q (q_fadr_ptr rfl) ?_ | refine ax_q (q_fadr_rptr rfl) ?_ | refine ax_q (q_fadr_ip rfl) ?_
    first | refine ax_q (q_fadr_ptr rfl) ?_ | refine ax_q (q_fadr_rptr rfl) ?_ | refine ax_q (q_fadr_ip rfl) ?_
    first | refine ax_q (q_load1_ptr rfl rfl rfl) ?_ | refine ax_q (q_load1_ip rfl) ?_ | refine ax_q (q_load1_rptr rfl rfl rfl rfl) ?_ | refine ax_q (q_load1_rptr rfl rfl (by assumption) rfl) ?_ | refine ax_q (q_load1_rptr rfl rfl (mapAt (by first | assumption | omega)) rfl) ?_
    refine ax_q (q_ibin rfl rfl rfl) ?_
    exact ax_nil ⟨rfl, by repeat (first | exact trivial | refine ⟨rfl, ?_⟩ | refine ⟨?_, ?_⟩)⟩
  refine ax_q (q_mov rfl) ?_
  refine ax_nil ?_
  refine cx_keep rfl rfl ?_
  refine cx_ret (ret0 rfl rfl ?_)
  exact ⟨by rw [← rowOK_i] <;> rfl, rfl⟩


/- loop.example/g00332/impl.numberValue -/
def k_c_numberValue : XCode :=
  .seq (.ops [.op (some 2) (.alloc [.int .i64 0, .int .i64 0, .str []])])
  (.keep [0, 2] (.seq (.ops [.op (some 3) (.mov (.t 0)),
     .op (some 4) (.build [.int .i64 0, .int .i64 0, .str []] [(0, 1, .k (.int .i64 1)), (1, 1, .t 3)]),
     .op none (.store 3 (.t 2) (.t 4))])
  (.keep [2] (.ret))))
theorem k_c_numberValue_fits : fitsF Try.prog 106 ⟨5, k_c_numberValue, [.cN 2 3]⟩ = true := by kernel_rfl
theorem c_numberValue {n : Int} : Con Try.prog noMv 106 [int n] [] (fun r h => r = (vI n).av ∧ h = []) := by
  refine con_of2 k_c_numberValue_fits rfl fun C hP hmv => ?_
  unfold k_c_numberValue
  refine cx_seq ?_
  refine cx_ops ?_
  refine ax_e (e_alloc (by decide) rfl rfl) ?_
  refine ax_nil ?_
  refine cx_keep rfl rfl ?_
  refine cx_seq ?_
  refine cx_ops ?_
  refine ax_q (q_mov rfl) ?_
  refine ax_q (q_build rfl) ?_
  refine ax_e (e_st rfl rfl rfl rfl rfl rfl rfl) ?_
  refine ax_nil ?_
  refine cx_keep rfl rfl ?_
  refine cx_ret (ret0 rfl rfl ?_)
  exact ⟨rfl, rfl⟩


/- loop.example/g00332/impl.columnOf -/
def k_c_columnOf : XCode :=
  .seq (.ops [.op (some 2) (.box (.t 0)),
     .op (some 4) (.alloc [.int .i64 0, .int .i64 0, .str []])])
  (.keep [1, 2, 4] (.seq (.drawE [[], [0], [0, 1], [], [3], [], [5], [0, 1, 2, 3, 4, 5, 6], [], [0, 1, 2, 3, 4, 5, 6, 7, 8], [0, 1, 2, 3, 4, 5, 6, 7, 8, 9]] [.op (some 5) (.fadr (.t 2) 0),
     .op (some 6) (.load1 (.t 5)),
     .call (some 7) 106 [.t 6],
     .op (some 8) (.fadr (.t 2) 1),
     .op (some 9) (.loadN 3 (.t 8)),
     .op (some 10) (.fadr (.t 2) 4),
     .op (some 11) (.loadN 3 (.t 10)),
     .op (some 12) (.build [.int .i64 0, .int .i64 0, .str [], .int .i64 0, .int .i64 0, .str [], .int .i64 0, .int .i64 0, .str []] [(0, 3, .t 7), (3, 3, .t 9), (6, 3, .t 11)]),
     .op (some 13) (.mov (.t 1))]
    [.op (some 14) (.idxA 3 3 (.t 12) (.t 13)),
     .op none (.store 3 (.t 4) (.t 14))])
  (.keep [4] (.ret))))
theorem k_c_columnOf_fits : fitsF Try.prog 89 ⟨15, k_c_columnOf, [.cN 4 3]⟩ = true := by kernel_rfl
theorem c_columnOf {w : GRow} {k : Int} (hk : 0 ≤ k ∧ k ≤ 2) : Con Try.prog noMv 89 [w.av, int k] [] (fun r h => r = (colF w k).av ∧ h = []) := by
  refine con_of2 k_c_columnOf_fits rfl fun C hP hmv => ?_
  unfold k_c_columnOf
  refine cx_seq ?_
  refine cx_ops ?_
  refine ax_e (e_box rfl rfl (by decide) rfl rfl rfl) ?_
  refine ax_e (e_alloc (by decide) rfl rfl) ?_
  refine ax_nil ?_
  refine cx_keep rfl rfl ?_
  refine cx_seq ?_
  refine cx_drawL 0 5 (fun _ => false) (fun _ => true) [] ([]) [[2], [5], [6], [2], [8], [2], [10], [7, 9, 11], [1]] [[], [], [], [], [], [], [], [], []] rfl ?_
  first | refine ⟨⟨5, _, []⟩, .inl ⟨rfl, rfl, rfl, locl_of (loc_q (q_fadr_ptr rfl))⟩, ?_⟩ | refine ⟨⟨5, _, []⟩, .inl ⟨rfl, rfl, rfl, locl_of (loc_q (q_fadr_rptr rfl))⟩, ?_⟩ | refine ⟨⟨5, _, []⟩, .inl ⟨rfl, rfl, rfl, locl_of (loc_q (q_fadr_ip rfl))⟩, ?_⟩
  first | refine ⟨_, .inr ⟨rfl, _, rfl, .inr ⟨rfl, rfl, .inl rfl, rfl, rfl⟩, loc_q (q_load1_ptr rfl rfl rfl)⟩, ?_⟩ | refine ⟨_, .inr ⟨rfl, _, rfl, .inr ⟨rfl, rfl, .inl rfl, rfl, rfl⟩, loc_q (q_load1_ip rfl)⟩, ?_⟩ | refine ⟨_, .inr ⟨rfl, _, rfl, .inr ⟨rfl, rfl, .inl rfl, rfl, rfl⟩, loc_q (q_load1_rptr rfl rfl rfl rfl)⟩, ?_⟩ | refine ⟨_, .inr ⟨rfl, _, rfl, .inr ⟨rfl, rfl, .inl rfl, rfl, rfl⟩, loc_q (q_load1_rptr rfl rfl (by assumption) rfl)⟩, ?_⟩ | refine ⟨_, .inr ⟨rfl, _, rfl, .inr ⟨rfl, rfl, .inl rfl, rfl, rfl⟩, loc_q (q_load1_rptr rfl rfl (mapAt (by first | assumption | omega)) rfl)⟩, ?_⟩
  first | refine ⟨_, .inr ⟨rfl, _, rfl, .inr ⟨rfl, rfl, .inl rfl, rfl, rfl⟩, loc_call (fun i => 7 + 200 * i) false rfl (c_numberValue  ) hP (.inr ⟨rfl, rfl, rfl⟩) rfl rfl (fun h => by cases h)⟩, ?_⟩ | refine ⟨_, .inr ⟨rfl, _, rfl, .inr ⟨rfl, rfl, .inl rfl, rfl, rfl⟩, loc_call (fun i => 7 + 200 * i) true rfl (c_numberValue  ) hP (.inl ⟨rfl, (by repeat (first | exact lal_id _ rfl | exact LAL.nil | refine LAL.cons ?_ ?_ | exact la_id _ rfl | exact LA.lend (lend_whole rfl (by first | (simp; done) | (rw [List.length_map]; rfl))) | refine LA.agg ?_ | refine LA.fn ?_ | refine LA.lend ?_ | exact Lend.d _ | exact Lend.zs _ | exact lend_whole rfl (by first | (simp; done) | (rw [List.length_map]; rfl)) | refine Lend.ptr rfl ?_ | refine Lend.fn ?_ | exact LendL.nil | refine LendL.cons ?_ ?_))⟩) rfl rfl (fun _ => ⟨rfl, noisl_of (by repeat (first | exact trivial | refine ⟨noisl_map (fun _ => rfl), ?_⟩ | refine ⟨?_, ?_⟩))⟩)⟩, ?_⟩
  first | refine ⟨_, .inr ⟨rfl, _, rfl, .inr ⟨rfl, rfl, .inr rfl, rfl, rfl⟩, loc_q (q_fadr_ptr rfl)⟩, ?_⟩ | refine ⟨_, .inr ⟨rfl, _, rfl, .inr ⟨rfl, rfl, .inr rfl, rfl, rfl⟩, loc_q (q_fadr_rptr rfl)⟩, ?_⟩ | refine ⟨_, .inr ⟨rfl, _, rfl, .inr ⟨rfl, rfl, .inr rfl, rfl, rfl⟩, loc_q (q_fadr_ip rfl)⟩, ?_⟩
  first | refine ⟨_, .inr ⟨rfl, _, rfl, .inr ⟨rfl, rfl, .inr rfl, rfl, rfl⟩, loc_q (q_ldN rfl rfl rfl)⟩, ?_⟩ | refine ⟨_, .inr ⟨rfl, _, rfl, .inr ⟨rfl, rfl, .inr rfl, rfl, rfl⟩, loc_q (q_loadN_ip rfl (Nat.le_refl _))⟩, ?_⟩ | refine ⟨_, .inr ⟨rfl, _, rfl, .inr ⟨rfl, rfl, .inr rfl, rfl, rfl⟩, loc_q (q_loadN_ip rfl (by decide))⟩, ?_⟩ | refine ⟨_, .inr ⟨rfl, _, rfl, .inr ⟨rfl, rfl, .inr rfl, rfl, rfl⟩, loc_q (q_loadN_rptr rfl rfl (by assumption) (by decide))⟩, ?_⟩ | refine ⟨_, .inr ⟨rfl, _, rfl, .inr ⟨rfl, rfl, .inr rfl, rfl, rfl⟩, loc_q (q_loadN_rptr rfl rfl (mapAt (by first | assumption | omega)) (by decide))⟩, ?_⟩
  first | refine ⟨_, .inr ⟨rfl, _, rfl, .inr ⟨rfl, rfl, .inr rfl, rfl, rfl⟩, loc_q (q_fadr_ptr rfl)⟩, ?_⟩ | refine ⟨_, .inr ⟨rfl, _, rfl, .inr ⟨rfl, rfl, .inr rfl, rfl, rfl⟩, loc_q (q_fadr_rptr rfl)⟩, ?_⟩ | refine ⟨_, .inr ⟨rfl, _, rfl, .inr ⟨rfl, rfl, .inr rfl, rfl, rfl⟩, loc_q (q_fadr_ip rfl)⟩, ?_⟩
  first | refine ⟨_, .inr ⟨rfl, _, rfl, .inr ⟨rfl, rfl, .inr rfl, rfl, rfl⟩, loc_q (q_ldN rfl rfl rfl)⟩, ?_⟩ | refine ⟨_, .inr ⟨rfl, _, rfl, .inr ⟨rfl, rfl, .inr rfl, rfl, rfl⟩, loc_q (q_loadN_ip rfl (Nat.le_refl _))⟩, ?_⟩ | refine ⟨_, .inr ⟨rfl, _, rfl, .inr ⟨rfl, rfl, .inr rfl, rfl, rfl⟩, loc_q (q_loadN_ip rfl (by decide))⟩, ?_⟩ | refine ⟨_, .inr ⟨rfl, _, rfl, .inr ⟨rfl, rfl, .inr rfl, rfl, rfl⟩, loc_q (q_loadN_rptr rfl rfl (by assumption) (by decide))⟩, ?_⟩ | refine ⟨_, .inr ⟨rfl, _, rfl, .inr ⟨rfl, rfl, .inr rfl, rfl, rfl⟩, loc_q (q_loadN_rptr rfl rfl (mapAt (by first | assumption | omega)) (by decide))⟩, ?_⟩
  first | refine ⟨_, .inr ⟨rfl, _, rfl, .inr ⟨rfl, rfl, .inl rfl, rfl, rfl⟩, loc_q (q_build rfl)⟩, ?_⟩
  first | refine ⟨_, .inr ⟨rfl, _, rfl, .inr ⟨rfl, rfl, .inr rfl, rfl, rfl⟩, loc_q (q_mov rfl)⟩, ?_⟩
  refine ⟨rfl, ?_⟩
  refine ax_qe (r' := (colF w k).av) (q_idxA rfl rfl (by omega)) (colF_at hk) ?_
  refine ax_e (e_st rfl rfl rfl rfl rfl rfl rfl) ?_
  refine ax_nil ?_
  refine cx_keep rfl rfl ?_
  refine cx_ret (ret0 rfl rfl ?_)
  exact ⟨rfl, rfl⟩


/- loop.example/g00332/impl.truth -/
def k_c_truth : XCode :=
  .seq (.ops [.op (some 2) (.alloc [.int .i64 0, .int .i64 0, .str []])])
  (.keep [0, 2] (.seq (.seq (.ops [.op (some 3) (.mov (.t 0))])
   (.keep [2, 3] (.cond (.t 3)
    (.seq (.ops [.call (some 4) 106 [.k (.int .i64 1)],
        .op none (.store 3 (.t 2) (.t 4))])
     (.keep [2] (.ret)))
    (.skip))))
  (.keep [2] (.seq (.ops [.call (some 5) 106 [.k (.int .i64 0)],
     .op none (.store 3 (.t 2) (.t 5))])
  (.keep [2] (.ret))))))
theorem k_c_truth_fits : fitsF Try.prog 94 ⟨6, k_c_truth, [.cN 2 3]⟩ = true := by kernel_rfl
theorem c_truth {b : Bool} : Con Try.prog noMv 94 [bool b] [] (fun r h => r = (vB b).av ∧ h = []) := by
  refine con_of2 k_c_truth_fits rfl fun C hP hmv => ?_
  unfold k_c_truth
  refine cx_seq ?_
  refine cx_ops ?_
  refine ax_e (e_alloc (by decide) rfl rfl) ?_
  refine ax_nil ?_
  refine cx_keep rfl rfl ?_
  refine cx_seq ?_
  refine cx_seq ?_
  refine cx_ops ?_
  refine ax_q (q_mov rfl) ?_
  refine ax_nil ?_
  refine cx_keep rfl rfl ?_
  refine cx_cond rfl (fun h0 => ?_) (fun h0 => ?_)
  · skip
    refine cx_seq ?_
    refine cx_ops ?_
    first | refine ax_call rfl (vc_pure0 (c_numberValue  ) hP rfl rfl ?_) | refine ax_call rfl (vc_lend0 (c_numberValue  ) hP (by repeat (first | exact lal_id _ rfl | exact LAL.nil | refine LAL.cons ?_ ?_ | exact la_id _ rfl | exact LA.lend (lend_whole rfl (by first | (simp; done) | (rw [List.length_map]; rfl))) | refine LA.agg ?_ | refine LA.fn ?_ | refine LA.lend ?_ | exact Lend.d _ | exact Lend.zs _ | exact lend_whole rfl (by first | (simp; done) | (rw [List.length_map]; rfl)) | refine Lend.ptr rfl ?_ | refine Lend.fn ?_ | exact LendL.nil | refine LendL.cons ?_ ?_)) rfl rfl ?_)
    refine ax_e (e_st rfl rfl rfl rfl rfl rfl rfl) ?_
    refine ax_nil ?_
    refine cx_keep rfl rfl ?_
    refine cx_ret (ret0 rfl rfl ?_)
    exact ⟨by rw [h0]; rfl, rfl⟩
  · skip
    refine cx_skip ?_
    refine cx_keep rfl rfl ?_
    refine cx_seq ?_
    refine cx_ops ?_
    first | refine ax_call rfl (vc_pure0 (c_numberValue  ) hP rfl rfl ?_) | refine ax_call rfl (vc_lend0 (c_numberValue  ) hP (by repeat (first | exact lal_id _ rfl | exact LAL.nil | refine LAL.cons ?_ ?_ | exact la_id _ rfl | exact LA.lend (lend_whole rfl (by first | (simp; done) | (rw [List.length_map]; rfl))) | refine LA.agg ?_ | refine LA.fn ?_ | refine LA.lend ?_ | exact Lend.d _ | exact Lend.zs _ | exact lend_whole rfl (by first | (simp; done) | (rw [List.length_map]; rfl)) | refine Lend.ptr rfl ?_ | refine Lend.fn ?_ | exact LendL.nil | refine LendL.cons ?_ ?_)) rfl rfl ?_)
    refine ax_e (e_st rfl rfl rfl rfl rfl rfl rfl) ?_
    refine ax_nil ?_
    refine cx_keep rfl rfl ?_
    refine cx_ret (ret0 rfl rfl ?_)
    exact ⟨by rw [h0]; rfl, rfl⟩


/- loop.example/g00332/impl.unary -/
def k_c_unary : XCode :=
  .seq (.ops [.op (some 3) (.box (.t 1)),
     .op (some 4) (.alloc [.int .i64 0, .int .i64 0, .str []]),
     .op (some 5) (.mov (.k (.int .i64 0)))])
  (.keep [0, 3, 4] (.seq (.block 0 (.seq (.ops [.op (some 7) (.mov (.t 0)),
       .op (some 8) (.bin .eql (.t 7) (.k (.int .i64 4))),
       .op (some 6) (.mov (.t 8))])
    (.keep [0, 3, 4, 6] (.cond (.t 6)
     (.seq (.ops [.op (some 9) (.fadr (.t 3) 0),
         .op (some 10) (.load1 (.t 9)),
         .op (some 11) (.bin .eql (.t 10) (.k (.int .i64 0))),
         .call (some 12) 94 [.t 11],
         .op none (.store 3 (.t 4) (.t 12)),
         .op (some 5) (.mov (.k (.int .i64 0)))])
      (.keep [4, 5] (.ret)))
     (.seq (.ops [.op (some 14) (.fadr (.t 3) 0),
         .op (some 15) (.load1 (.t 14)),
         .op (some 16) (.bin .eql (.t 15) (.k (.int .i64 2))),
         .op (some 13) (.mov (.t 16))])
      (.keep [0, 3, 4, 13] (.cond (.t 13)
       (.seq (.ops [.op (some 17) (.build [.int .i64 0, .int .i64 0, .str []] []),
           .op none (.store 3 (.t 4) (.t 17)),
           .op (some 5) (.mov (.k (.int .i64 10)))])
        (.keep [4, 5] (.ret)))
       (.seq (.ops [.op (some 19) (.fadr (.t 3) 0),
           .op (some 20) (.load1 (.t 19)),
           .op (some 21) (.bin .eql (.t 20) (.k (.int .i64 0))),
           .op (some 18) (.mov (.t 21))])
        (.keep [0, 3, 4, 18] (.cond (.t 18)
         (.seq (.ops [.op (some 22) (.build [.int .i64 0, .int .i64 0, .str []] []),
             .op none (.store 3 (.t 4) (.t 22)),
             .op (some 5) (.mov (.k (.int .i64 0)))])
          (.keep [4, 5] (.ret)))
         (.seq (.ops [.op (some 24) (.mov (.t 0)),
             .op (some 25) (.bin .eql (.t 24) (.k (.int .i64 3))),
             .op (some 23) (.mov (.t 25))])
          (.keep [3, 4, 23] (.cond (.t 23)
           (.seq (.ops [.op (some 26) (.fadr (.t 3) 1),
               .op (some 27) (.load1 (.t 26)),
               .op (some 28) (.bin .eql (.t 27) (.k (.int .i64 0))),
               .call (some 29) 94 [.t 28],
               .op none (.store 3 (.t 4) (.t 29)),
               .op (some 5) (.mov (.k (.int .i64 0)))])
            (.keep [4, 5] (.ret)))
           (.skip))))))))))))))
  (.keep [3, 4] (.seq (.ops [.op (some 30) (.fadr (.t 3) 1),
     .op (some 31) (.load1 (.t 30)),
     .op (some 32) (.neg (.t 31)),
     .call (some 33) 106 [.t 32],
     .op none (.store 3 (.t 4) (.t 33)),
     .op (some 5) (.mov (.k (.int .i64 0)))])
  (.keep [4, 5] (.ret))))))
theorem k_c_unary_fits : fitsF Try.prog 90 ⟨34, k_c_unary, [.cN 4 3, .t 5]⟩ = true := by kernel_rfl
theorem c_unary {op : Int} {a : GValue} (ha : RV a) : Con Try.prog noMv 90 [int op, a.av] [] (fun r h => r = .tup [(unF op a).1.av, int (unF op a).2] ∧ h = []) := by
  refine con_of2 k_c_unary_fits rfl fun C hP hmv => ?_
  unfold k_c_unary
  have hn := ha.n
  refine cx_seq ?_
  refine cx_ops ?_
  refine ax_e (e_box rfl rfl (by decide) rfl rfl rfl) ?_
  refine ax_e (e_alloc (by decide) rfl rfl) ?_
  refine ax_q (q_mov rfl) ?_
  refine ax_nil ?_
  refine cx_keep rfl rfl ?_
  refine cx_seq ?_
  refine cx_block ?_
  refine cx_seq ?_
  refine cx_ops ?_
  refine ax_q (q_mov rfl) ?_
  refine ax_q (q_ibin rfl rfl rfl) ?_
  refine ax_q (q_mov rfl) ?_
  refine ax_nil ?_
  refine cx_keep rfl rfl ?_
  refine cx_cond rfl (fun h0 => ?_) (fun h0 => ?_)
  · have h0 := dT h0
    refine cx_seq ?_
    refine cx_ops ?_
    first | refine ax_q (q_fadr_ptr rfl) ?_ | refine ax_q (q_fadr_rptr rfl) ?_ | refine ax_q (q_fadr_ip rfl) ?_
    first | refine ax_q (q_load1_ptr rfl rfl rfl) ?_ | refine ax_q (q_load1_ip rfl) ?_ | refine ax_q (q_load1_rptr rfl rfl rfl rfl) ?_ | refine ax_q (q_load1_rptr rfl rfl (by assumption) rfl) ?_ | refine ax_q (q_load1_rptr rfl rfl (mapAt (by first | assumption | omega)) rfl) ?_
    refine ax_q (q_ibin rfl rfl rfl) ?_
    first | refine ax_call rfl (vc_pure0 (c_truth  ) hP rfl rfl ?_) | refine ax_call rfl (vc_lend0 (c_truth  ) hP (by repeat (first | exact lal_id _ rfl | exact LAL.nil | refine LAL.cons ?_ ?_ | exact la_id _ rfl | exact LA.lend (lend_whole rfl (by first | (simp; done) | (rw [List.length_map]; rfl))) | refine LA.agg ?_ | refine LA.fn ?_ | refine LA.lend ?_ | exact Lend.d _ | exact Lend.zs _ | exact lend_whole rfl (by first | (simp; done) | (rw [List.length_map]; rfl)) | refine Lend.ptr rfl ?_ | refine Lend.fn ?_ | exact LendL.nil | refine LendL.cons ?_ ?_)) rfl rfl ?_)
    refine ax_e (e_st rfl rfl rfl rfl rfl rfl rfl) ?_
    refine ax_q (q_mov rfl) ?_
    refine ax_nil ?_
    refine cx_keep rfl rfl ?_
    refine cx_ret (ret0 rfl rfl ?_)
    have e : unF op a = (vB (decide (a.Kind = 0)), 0) := by unfold unF; rw [if_pos (by omega)]
    exact ⟨by rw [e]; rfl, rfl⟩
  · have h0 := dF h0
    refine cx_seq ?_
    refine cx_ops ?_
    first | refine ax_q (q_fadr_ptr rfl) ?_ | refine ax_q (q_fadr_rptr rfl) ?_ | refine ax_q (q_fadr_ip rfl) ?_
    first | refine ax_q (q_load1_ptr rfl rfl rfl) ?_ | refine ax_q (q_load1_ip rfl) ?_ | refine ax_q (q_load1_rptr rfl rfl rfl rfl) ?_ | refine ax_q (q_load1_rptr rfl rfl (by assumption) rfl) ?_ | refine ax_q (q_load1_rptr rfl rfl (mapAt (by first | assumption | omega)) rfl) ?_
    refine ax_q (q_ibin rfl rfl rfl) ?_
    refine ax_q (q_mov rfl) ?_
    refine ax_nil ?_
    refine cx_keep rfl rfl ?_
    refine cx_cond rfl (fun h1 => ?_) (fun h1 => ?_)
    · have h1 := dT h1
      refine cx_seq ?_
      refine cx_ops ?_
      refine ax_q (q_build rfl) ?_
      refine ax_e (e_st rfl rfl rfl rfl rfl rfl rfl) ?_
      refine ax_q (q_mov rfl) ?_
      refine ax_nil ?_
      refine cx_keep rfl rfl ?_
      refine cx_ret (ret0 rfl rfl ?_)
      have e : unF op a = (.zero, 10) := by unfold unF; rw [if_neg (by omega), if_pos (by omega)]
      exact ⟨by rw [e]; rfl, rfl⟩
    · have h1 := dF h1
      refine cx_seq ?_
      refine cx_ops ?_
      first | refine ax_q (q_fadr_ptr rfl) ?_ | refine ax_q (q_fadr_rptr rfl) ?_ | refine ax_q (q_fadr_ip rfl) ?_
      first | refine ax_q (q_load1_ptr rfl rfl rfl) ?_ | refine ax_q (q_load1_ip rfl) ?_ | refine ax_q (q_load1_rptr rfl rfl rfl rfl) ?_ | refine ax_q (q_load1_rptr rfl rfl (by assumption) rfl) ?_ | refine ax_q (q_load1_rptr rfl rfl (mapAt (by first | assumption | omega)) rfl) ?_
      refine ax_q (q_ibin rfl rfl rfl) ?_
      refine ax_q (q_mov rfl) ?_
      refine ax_nil ?_
      refine cx_keep rfl rfl ?_
      refine cx_cond rfl (fun h2 => ?_) (fun h2 => ?_)
      · have h2 := dT h2
        refine cx_seq ?_
        refine cx_ops ?_
        refine ax_q (q_build rfl) ?_
        refine ax_e (e_st rfl rfl rfl rfl rfl rfl rfl) ?_
        refine ax_q (q_mov rfl) ?_
        refine ax_nil ?_
        refine cx_keep rfl rfl ?_
        refine cx_ret (ret0 rfl rfl ?_)
        have e : unF op a = (.zero, 0) := by unfold unF; rw [if_neg (by omega), if_neg (by omega), if_pos (by omega)]
        exact ⟨by rw [e]; rfl, rfl⟩
      · have h2 := dF h2
        refine cx_seq ?_
        refine cx_ops ?_
        refine ax_q (q_mov rfl) ?_
        refine ax_q (q_ibin rfl rfl rfl) ?_
        refine ax_q (q_mov rfl) ?_
        refine ax_nil ?_
        refine cx_keep rfl rfl ?_
        refine cx_cond rfl (fun h3 => ?_) (fun h3 => ?_)
        · have h3 := dT h3
          refine cx_seq ?_
          refine cx_ops ?_
          first | refine ax_q (q_fadr_ptr rfl) ?_ | refine ax_q (q_fadr_rptr rfl) ?_ | refine ax_q (q_fadr_ip rfl) ?_
          first | refine ax_q (q_load1_ptr rfl rfl rfl) ?_ | refine ax_q (q_load1_ip rfl) ?_ | refine ax_q (q_load1_rptr rfl rfl rfl rfl) ?_ | refine ax_q (q_load1_rptr rfl rfl (by assumption) rfl) ?_ | refine ax_q (q_load1_rptr rfl rfl (mapAt (by first | assumption | omega)) rfl) ?_
          refine ax_q (q_ibin rfl rfl rfl) ?_
          first | refine ax_call rfl (vc_pure0 (c_truth  ) hP rfl rfl ?_) | refine ax_call rfl (vc_lend0 (c_truth  ) hP (by repeat (first | exact lal_id _ rfl | exact LAL.nil | refine LAL.cons ?_ ?_ | exact la_id _ rfl | exact LA.lend (lend_whole rfl (by first | (simp; done) | (rw [List.length_map]; rfl))) | refine LA.agg ?_ | refine LA.fn ?_ | refine LA.lend ?_ | exact Lend.d _ | exact Lend.zs _ | exact lend_whole rfl (by first | (simp; done) | (rw [List.length_map]; rfl)) | refine Lend.ptr rfl ?_ | refine Lend.fn ?_ | exact LendL.nil | refine LendL.cons ?_ ?_)) rfl rfl ?_)
          refine ax_e (e_st rfl rfl rfl rfl rfl rfl rfl) ?_
          refine ax_q (q_mov rfl) ?_
          refine ax_nil ?_
          refine cx_keep rfl rfl ?_
          refine cx_ret (ret0 rfl rfl ?_)
          have e : unF op a = (vB (decide (a.N = 0)), 0) := by unfold unF; rw [if_neg (by omega), if_neg (by omega), if_neg (by omega), if_pos (by omega)]
          exact ⟨by rw [e]; rfl, rfl⟩
        · have h3 := dF h3
          refine cx_skip ?_
          refine cx_keep rfl rfl ?_
          refine cx_seq ?_
          refine cx_ops ?_
          first | refine ax_q (q_fadr_ptr rfl) ?_ | refine ax_q (q_fadr_rptr rfl) ?_ | refine ax_q (q_fadr_ip rfl) ?_
          first | refine ax_q (q_load1_ptr rfl rfl rfl) ?_ | refine ax_q (q_load1_ip rfl) ?_ | refine ax_q (q_load1_rptr rfl rfl rfl rfl) ?_ | refine ax_q (q_load1_rptr rfl rfl (by assumption) rfl) ?_ | refine ax_q (q_load1_rptr rfl rfl (mapAt (by first | assumption | omega)) rfl) ?_
          first | refine ax_q (q_negI rfl (by omega)) ?_ | refine ax_q (q_neg rfl) ?_
          first | refine ax_call rfl (vc_pure0 (c_numberValue  ) hP rfl rfl ?_) | refine ax_call rfl (vc_lend0 (c_numberValue  ) hP (by repeat (first | exact lal_id _ rfl | exact LAL.nil | refine LAL.cons ?_ ?_ | exact la_id _ rfl | exact LA.lend (lend_whole rfl (by first | (simp; done) | (rw [List.length_map]; rfl))) | refine LA.agg ?_ | refine LA.fn ?_ | refine LA.lend ?_ | exact Lend.d _ | exact Lend.zs _ | exact lend_whole rfl (by first | (simp; done) | (rw [List.length_map]; rfl)) | refine Lend.ptr rfl ?_ | refine Lend.fn ?_ | exact LendL.nil | refine LendL.cons ?_ ?_)) rfl rfl ?_)
          refine ax_e (e_st rfl rfl rfl rfl rfl rfl rfl) ?_
          refine ax_q (q_mov rfl) ?_
          refine ax_nil ?_
          refine cx_keep rfl rfl ?_
          refine cx_ret (ret0 rfl rfl ?_)
          have e : unF op a = (vI (-a.N), 0) := by unfold unF; rw [if_neg (by omega), if_neg (by omega), if_neg (by omega), if_neg (by omega)]
          exact ⟨by rw [e]; rfl, rfl⟩


/- loop.example/g00332/impl.isZero -/
def k_c_isZero : XCode :=
  .seq (.ops [.op (some 1) (.box (.t 0)),
     .op (some 2) (.mov (.k (.bool false)))])
  (.keep [1] (.seq (.ops [.op (some 3) (.loadN 3 (.t 1)),
     .op (some 4) (.build [.int .i64 0, .int .i64 0, .str []] [(0, 1, .k (.int .i64 1))]),
     .op (some 5) (.eqs false [0, 0, 2] (.t 3) (.t 4)),
     .op (some 2) (.mov (.t 5))])
  (.keep [2] (.ret))))
theorem k_c_isZero_fits : fitsF Try.prog 92 ⟨6, k_c_isZero, [.t 2]⟩ = true := by kernel_rfl
theorem c_isZero {v : GValue} (hv : RV v) : Con Try.prog noMv 92 [v.av] [] (fun r h => r = bool (isZ v) ∧ h = []) := by
  refine con_of2 k_c_isZero_fits rfl fun C hP hmv => ?_
  unfold k_c_isZero
  refine cx_seq ?_
  refine cx_ops ?_
  refine ax_e (e_box rfl rfl (by decide) rfl rfl rfl) ?_
  refine ax_q (q_mov rfl) ?_
  refine ax_nil ?_
  refine cx_keep rfl rfl ?_
  refine cx_seq ?_
  refine cx_ops ?_
  first | refine ax_q (q_ldN rfl rfl rfl) ?_ | refine ax_q (q_loadN_ip rfl (Nat.le_refl _)) ?_ | refine ax_q (q_loadN_ip rfl (by decide)) ?_ | refine ax_q (q_loadN_rptr rfl rfl (by assumption) (by decide)) ?_ | refine ax_q (q_loadN_rptr rfl rfl (mapAt (by first | assumption | omega)) (by decide)) ?_
  refine ax_q (q_build rfl) ?_
  first | refine ax_q (GValue.q_eqs rfl rfl) ?_ | refine ax_q (q_eqs rfl rfl rfl) ?_
  refine ax_q (q_mov rfl) ?_
  refine ax_nil ?_
  refine cx_keep rfl rfl ?_
  refine cx_ret (ret0 rfl rfl ?_)
  exact ⟨by rw [← RV.eqZ hv, eqV_eq]; rfl, rfl⟩


/- loop.example/g00332/impl.isOther -/
def k_c_isOther : XCode :=
  .seq (.ops [.op (some 1) (.box (.t 0)),
     .op (some 2) (.mov (.k (.bool false)))])
  (.keep [1] (.seq (.ops [.op (some 3) (.fadr (.t 1) 0),
     .op (some 4) (.load1 (.t 3)),
     .op (some 5) (.bin .eql (.t 4) (.k (.int .i64 1))),
     .op (some 6) (.mov (.t 5)),
     .andor 10 true 3 6 [.op (some 7) (.fadr (.t 1) 1), .op (some 8) (.load1 (.t 7)), .op (some 9) (.bin .neq (.t 8) (.k (.int .i64 0)))] (.t 9),
     .op (some 2) (.mov (.t 10))])
  (.keep [2] (.ret))))
theorem k_c_isOther_fits : fitsF Try.prog 93 ⟨11, k_c_isOther, [.t 2]⟩ = true := by kernel_rfl
theorem c_isOther {v : GValue} : Con Try.prog noMv 93 [v.av] [] (fun r h => r = bool (isO v) ∧ h = []) := by
  refine con_of2 k_c_isOther_fits rfl fun C hP hmv => ?_
  unfold k_c_isOther
  refine cx_seq ?_
  refine cx_ops ?_
  refine ax_e (e_box rfl rfl (by decide) rfl rfl rfl) ?_
  refine ax_q (q_mov rfl) ?_
  refine ax_nil ?_
  refine cx_keep rfl rfl ?_
  refine cx_seq ?_
  refine cx_ops ?_
  first | refine ax_q (q_fadr_ptr rfl) ?_ | refine ax_q (q_fadr_rptr rfl) ?_ | refine ax_q (q_fadr_ip rfl) ?_
  first | refine ax_q (q_load1_ptr rfl rfl rfl) ?_ | refine ax_q (q_load1_ip rfl) ?_ | refine ax_q (q_load1_rptr rfl rfl rfl rfl) ?_ | refine ax_q (q_load1_rptr rfl rfl (by assumption) rfl) ?_ | refine ax_q (q_load1_rptr rfl rfl (mapAt (by first | assumption | omega)) rfl) ?_
  refine ax_q (q_ibin rfl rfl rfl) ?_
  refine ax_q (q_mov rfl) ?_
  apply ax_and rfl rfl
  · intro g
    have g := dT g
    first | refine ax_q (q_fadr_ptr rfl) ?_ | refine ax_q (q_fadr_rptr rfl) ?_ | refine ax_q (q_fadr_ip rfl) ?_
    first | refine ax_q (q_load1_ptr rfl rfl rfl) ?_ | refine ax_q (q_load1_ip rfl) ?_ | refine ax_q (q_load1_rptr rfl rfl rfl rfl) ?_ | refine ax_q (q_load1_rptr rfl rfl (by assumption) rfl) ?_ | refine ax_q (q_load1_rptr rfl rfl (mapAt (by first | assumption | omega)) rfl) ?_
    refine ax_q (q_ibin rfl rfl rfl) ?_
    exact ax_nil ⟨rfl, by repeat (first | exact trivial | refine ⟨rfl, ?_⟩ | refine ⟨?_, ?_⟩)⟩
  refine ax_q (q_mov rfl) ?_
  refine ax_nil ?_
  refine cx_keep rfl rfl ?_
  refine cx_ret (ret0 rfl rfl ?_)
  exact ⟨rfl, rfl⟩


/- loop.example/g00332/impl.connect -/
def k_c_connect : XCode :=
  .seq (.ops [.op (some 4) (.box (.t 1)),
     .op (some 5) (.box (.t 2)),
     .op (some 6) (.alloc [.int .i64 0, .int .i64 0, .str []]),
     .op (some 7) (.mov (.k (.int .i64 0)))])
  (.keep [0, 4, 5, 6] (.seq (.block 0 (.seq (.ops [.op (some 9) (.fadr (.t 4) 0),
       .op (some 10) (.load1 (.t 9)),
       .op (some 11) (.bin .eql (.t 10) (.k (.int .i64 2))),
       .op (some 12) (.mov (.t 11)),
       .andor 16 false 3 12 [.op (some 13) (.fadr (.t 5) 0), .op (some 14) (.load1 (.t 13)), .op (some 15) (.bin .eql (.t 14) (.k (.int .i64 2)))] (.t 15),
       .op (some 8) (.mov (.t 16))])
    (.keep [0, 4, 5, 6, 8] (.cond (.t 8)
     (.seq (.ops [.op (some 17) (.build [.int .i64 0, .int .i64 0, .str []] []),
         .op none (.store 3 (.t 6) (.t 17)),
         .op (some 7) (.mov (.k (.int .i64 10)))])
      (.keep [6, 7] (.ret)))
     (.seq (.ops [.op (some 19) (.mov (.t 0)),
         .op (some 20) (.bin .eql (.t 19) (.k (.int .i64 12))),
         .op (some 21) (.mov (.t 20)),
         .andor 28 true 2 21 [.op (some 22) (.loadN 3 (.t 4)), .call (some 23) 92 [.t 22], .op (some 24) (.mov (.t 23)), .andor 27 false 5 24 [.op (some 25) (.loadN 3 (.t 5)), .call (some 26) 92 [.t 25]] (.t 26)] (.t 27),
         .op (some 18) (.mov (.t 28))])
      (.keep [0, 4, 5, 6, 18] (.cond (.t 18)
       (.seq (.ops [.call (some 29) 94 [.k (.bool false)],
           .op none (.store 3 (.t 6) (.t 29)),
           .op (some 7) (.mov (.k (.int .i64 0)))])
        (.keep [6, 7] (.ret)))
       (.seq (.ops [.op (some 31) (.mov (.t 0)),
           .op (some 32) (.bin .eql (.t 31) (.k (.int .i64 13))),
           .op (some 33) (.mov (.t 32)),
           .andor 40 true 2 33 [.op (some 34) (.loadN 3 (.t 4)), .call (some 35) 93 [.t 34], .op (some 36) (.mov (.t 35)), .andor 39 false 5 36 [.op (some 37) (.loadN 3 (.t 5)), .call (some 38) 93 [.t 37]] (.t 38)] (.t 39),
           .op (some 30) (.mov (.t 40))])
        (.keep [0, 4, 5, 6, 30] (.cond (.t 30)
         (.seq (.ops [.call (some 41) 94 [.k (.bool true)],
             .op none (.store 3 (.t 6) (.t 41)),
             .op (some 7) (.mov (.k (.int .i64 0)))])
          (.keep [6, 7] (.ret)))
         (.seq (.ops [.op (some 43) (.fadr (.t 4) 0),
             .op (some 44) (.load1 (.t 43)),
             .op (some 45) (.bin .eql (.t 44) (.k (.int .i64 0))),
             .op (some 46) (.mov (.t 45)),
             .andor 50 false 3 46 [.op (some 47) (.fadr (.t 5) 0), .op (some 48) (.load1 (.t 47)), .op (some 49) (.bin .eql (.t 48) (.k (.int .i64 0)))] (.t 49),
             .op (some 42) (.mov (.t 50))])
          (.keep [0, 6, 42] (.cond (.t 42)
           (.seq (.ops [.op (some 51) (.build [.int .i64 0, .int .i64 0, .str []] []),
               .op none (.store 3 (.t 6) (.t 51)),
               .op (some 7) (.mov (.k (.int .i64 0)))])
            (.keep [6, 7] (.ret)))
           (.skip))))))))))))))
  (.keep [0, 6] (.seq (.ops [.op (some 52) (.mov (.t 0)),
     .op (some 53) (.bin .eql (.t 52) (.k (.int .i64 12))),
     .call (some 54) 94 [.t 53],
     .op none (.store 3 (.t 6) (.t 54)),
     .op (some 7) (.mov (.k (.int .i64 0)))])
  (.keep [6, 7] (.ret))))))
theorem k_c_connect_fits : fitsF Try.prog 107 ⟨55, k_c_connect, [.cN 6 3, .t 7]⟩ = true := by kernel_rfl
theorem c_connect {op : Int} {a b : GValue} (ha : RV a) (hb : RV b) : Con Try.prog noMv 107 [int op, a.av, b.av] [] (fun r h => r = .tup [(conF op a b).1.av, int (conF op a b).2] ∧ h = []) := by
  refine con_of2 k_c_connect_fits rfl fun C hP hmv => ?_
  unfold k_c_connect
  refine cx_seq ?_
  refine cx_ops ?_
  refine ax_e (e_box rfl rfl (by decide) rfl rfl rfl) ?_
  refine ax_e (e_box rfl rfl (by decide) rfl rfl rfl) ?_
  refine ax_e (e_alloc (by decide) rfl rfl) ?_
  refine ax_q (q_mov rfl) ?_
  refine ax_nil ?_
  refine cx_keep rfl rfl ?_
  refine cx_seq ?_
  refine cx_block ?_
  refine cx_seq ?_
  refine cx_ops ?_
  first | refine ax_q (q_fadr_ptr rfl) ?_ | refine ax_q (q_fadr_rptr rfl) ?_ | refine ax_q (q_fadr_ip rfl) ?_
  first | refine ax_q (q_load1_ptr rfl rfl rfl) ?_ | refine ax_q (q_load1_ip rfl) ?_ | refine ax_q (q_load1_rptr rfl rfl rfl rfl) ?_ | refine ax_q (q_load1_rptr rfl rfl (by assumption) rfl) ?_ | refine ax_q (q_load1_rptr rfl rfl (mapAt (by first | assumption | omega)) rfl) ?_
  refine ax_q (q_ibin rfl rfl rfl) ?_
  refine ax_q (q_mov rfl) ?_
  apply ax_or rfl rfl
  · intro g
    have g := dF g
    first | refine ax_q (q_fadr_ptr rfl) ?_ | refine ax_q (q_fadr_rptr rfl) ?_ | refine ax_q (q_fadr_ip rfl) ?_
    first | refine ax_q (q_load1_ptr rfl rfl rfl) ?_ | refine ax_q (q_load1_ip rfl) ?_ | refine ax_q (q_load1_rptr rfl rfl rfl rfl) ?_ | refine ax_q (q_load1_rptr rfl rfl (by assumption) rfl) ?_ | refine ax_q (q_load1_rptr rfl rfl (mapAt (by first | assumption | omega)) rfl) ?_
    refine ax_q (q_ibin rfl rfl rfl) ?_
    exact ax_nil ⟨rfl, by repeat (first | exact trivial | refine ⟨rfl, ?_⟩ | refine ⟨?_, ?_⟩)⟩
  refine ax_q (q_mov rfl) ?_
  refine ax_nil ?_
  refine cx_keep rfl rfl ?_
  refine cx_cond rfl (fun h0 => ?_) (fun h0 => ?_)
  · have h0 := (fun h => (or_T h).imp dT dT) h0
    refine cx_seq ?_
    refine cx_ops ?_
    refine ax_q (q_build rfl) ?_
    refine ax_e (e_st rfl rfl rfl rfl rfl rfl rfl) ?_
    refine ax_q (q_mov rfl) ?_
    refine ax_nil ?_
    refine cx_keep rfl rfl ?_
    refine cx_ret (ret0 rfl rfl ?_)
    have e : conF op a b = (.zero, 10) := by unfold conF; rw [if_pos h0]
    exact ⟨by rw [e]; rfl, rfl⟩
  · have h0 := (fun h => And.intro (dF (or_F h).1) (dF (or_F h).2)) h0
    refine cx_seq ?_
    refine cx_ops ?_
    refine ax_q (q_mov rfl) ?_
    refine ax_q (q_ibin rfl rfl rfl) ?_
    refine ax_q (q_mov rfl) ?_
    apply ax_and rfl rfl
    · intro g
      have g := dT g
      first | refine ax_q (q_ldN rfl rfl rfl) ?_ | refine ax_q (q_loadN_ip rfl (Nat.le_refl _)) ?_ | refine ax_q (q_loadN_ip rfl (by decide)) ?_ | refine ax_q (q_loadN_rptr rfl rfl (by assumption) (by decide)) ?_ | refine ax_q (q_loadN_rptr rfl rfl (mapAt (by first | assumption | omega)) (by decide)) ?_
      first | refine ax_call rfl (vc_pure0 (c_isZero (v := a) ?_) hP rfl rfl ?_) | refine ax_call rfl (vc_lend0 (c_isZero (v := a) ?_) hP (by repeat (first | exact lal_id _ rfl | exact LAL.nil | refine LAL.cons ?_ ?_ | exact la_id _ rfl | exact LA.lend (lend_whole rfl (by first | (simp; done) | (rw [List.length_map]; rfl))) | refine LA.agg ?_ | refine LA.fn ?_ | refine LA.lend ?_ | exact Lend.d _ | exact Lend.zs _ | exact lend_whole rfl (by first | (simp; done) | (rw [List.length_map]; rfl)) | refine Lend.ptr rfl ?_ | refine Lend.fn ?_ | exact LendL.nil | refine LendL.cons ?_ ?_)) rfl rfl ?_)
      · first | assumption | omega | (simp; done) | (simp; omega)
      refine ax_q (q_mov rfl) ?_
      apply ax_or rfl rfl
      · intro g
        first | refine ax_q (q_ldN rfl rfl rfl) ?_ | refine ax_q (q_loadN_ip rfl (Nat.le_refl _)) ?_ | refine ax_q (q_loadN_ip rfl (by decide)) ?_ | refine ax_q (q_loadN_rptr rfl rfl (by assumption) (by decide)) ?_ | refine ax_q (q_loadN_rptr rfl rfl (mapAt (by first | assumption | omega)) (by decide)) ?_
        first | refine ax_call rfl (vc_pure0 (c_isZero (v := b) ?_) hP rfl rfl ?_) | refine ax_call rfl (vc_lend0 (c_isZero (v := b) ?_) hP (by repeat (first | exact lal_id _ rfl | exact LAL.nil | refine LAL.cons ?_ ?_ | exact la_id _ rfl | exact LA.lend (lend_whole rfl (by first | (simp; done) | (rw [List.length_map]; rfl))) | refine LA.agg ?_ | refine LA.fn ?_ | refine LA.lend ?_ | exact Lend.d _ | exact Lend.zs _ | exact lend_whole rfl (by first | (simp; done) | (rw [List.length_map]; rfl)) | refine Lend.ptr rfl ?_ | refine Lend.fn ?_ | exact LendL.nil | refine LendL.cons ?_ ?_)) rfl rfl ?_)
        · first | assumption | omega | (simp; done) | (simp; omega)
        exact ax_nil ⟨rfl, by repeat (first | exact trivial | refine ⟨rfl, ?_⟩ | refine ⟨?_, ?_⟩)⟩
      exact ax_nil ⟨rfl, by repeat (first | exact trivial | refine ⟨rfl, ?_⟩ | refine ⟨?_, ?_⟩)⟩
    refine ax_q (q_mov rfl) ?_
    refine ax_nil ?_
    refine cx_keep rfl rfl ?_
    refine cx_cond rfl (fun h1 => ?_) (fun h1 => ?_)
    · have h1 := (fun h => And.intro (dT (and_T h).1) ((fun h => (or_T h).imp id id) (and_T h).2)) h1
      refine cx_seq ?_
      refine cx_ops ?_
      first | refine ax_call rfl (vc_pure0 (c_truth  ) hP rfl rfl ?_) | refine ax_call rfl (vc_lend0 (c_truth  ) hP (by repeat (first | exact lal_id _ rfl | exact LAL.nil | refine LAL.cons ?_ ?_ | exact la_id _ rfl | exact LA.lend (lend_whole rfl (by first | (simp; done) | (rw [List.length_map]; rfl))) | refine LA.agg ?_ | refine LA.fn ?_ | refine LA.lend ?_ | exact Lend.d _ | exact Lend.zs _ | exact lend_whole rfl (by first | (simp; done) | (rw [List.length_map]; rfl)) | refine Lend.ptr rfl ?_ | refine Lend.fn ?_ | exact LendL.nil | refine LendL.cons ?_ ?_)) rfl rfl ?_)
      refine ax_e (e_st rfl rfl rfl rfl rfl rfl rfl) ?_
      refine ax_q (q_mov rfl) ?_
      refine ax_nil ?_
      refine cx_keep rfl rfl ?_
      refine cx_ret (ret0 rfl rfl ?_)
      have e : conF op a b = (vI 0, 0) := by unfold conF; rw [if_neg (by omega), if_pos h1]
      exact ⟨by rw [e]; rfl, rfl⟩
    · have h1 := (fun h => (and_F h).imp dF (fun h => And.intro (id (or_F h).1) (id (or_F h).2))) h1
      refine cx_seq ?_
      refine cx_ops ?_
      refine ax_q (q_mov rfl) ?_
      refine ax_q (q_ibin rfl rfl rfl) ?_
      refine ax_q (q_mov rfl) ?_
      apply ax_and rfl rfl
      · intro g
        have g := dT g
        first | refine ax_q (q_ldN rfl rfl rfl) ?_ | refine ax_q (q_loadN_ip rfl (Nat.le_refl _)) ?_ | refine ax_q (q_loadN_ip rfl (by decide)) ?_ | refine ax_q (q_loadN_rptr rfl rfl (by assumption) (by decide)) ?_ | refine ax_q (q_loadN_rptr rfl rfl (mapAt (by first | assumption | omega)) (by decide)) ?_
        first | refine ax_call rfl (vc_pure0 (c_isOther (v := a) ) hP rfl rfl ?_) | refine ax_call rfl (vc_lend0 (c_isOther (v := a) ) hP (by repeat (first | exact lal_id _ rfl | exact LAL.nil | refine LAL.cons ?_ ?_ | exact la_id _ rfl | exact LA.lend (lend_whole rfl (by first | (simp; done) | (rw [List.length_map]; rfl))) | refine LA.agg ?_ | refine LA.fn ?_ | refine LA.lend ?_ | exact Lend.d _ | exact Lend.zs _ | exact lend_whole rfl (by first | (simp; done) | (rw [List.length_map]; rfl)) | refine Lend.ptr rfl ?_ | refine Lend.fn ?_ | exact LendL.nil | refine LendL.cons ?_ ?_)) rfl rfl ?_)
        refine ax_q (q_mov rfl) ?_
        apply ax_or rfl rfl
        · intro g
          first | refine ax_q (q_ldN rfl rfl rfl) ?_ | refine ax_q (q_loadN_ip rfl (Nat.le_refl _)) ?_ | refine ax_q (q_loadN_ip rfl (by decide)) ?_ | refine ax_q (q_loadN_rptr rfl rfl (by assumption) (by decide)) ?_ | refine ax_q (q_loadN_rptr rfl rfl (mapAt (by first | assumption | omega)) (by decide)) ?_
          first | refine ax_call rfl (vc_pure0 (c_isOther (v := b) ) hP rfl rfl ?_) | refine ax_call rfl (vc_lend0 (c_isOther (v := b) ) hP (by repeat (first | exact lal_id _ rfl | exact LAL.nil | refine LAL.cons ?_ ?_ | exact la_id _ rfl | exact LA.lend (lend_whole rfl (by first | (simp; done) | (rw [List.length_map]; rfl))) | refine LA.agg ?_ | refine LA.fn ?_ | refine LA.lend ?_ | exact Lend.d _ | exact Lend.zs _ | exact lend_whole rfl (by first | (simp; done) | (rw [List.length_map]; rfl)) | refine Lend.ptr rfl ?_ | refine Lend.fn ?_ | exact LendL.nil | refine LendL.cons ?_ ?_)) rfl rfl ?_)
          exact ax_nil ⟨rfl, by repeat (first | exact trivial | refine ⟨rfl, ?_⟩ | refine ⟨?_, ?_⟩)⟩
        exact ax_nil ⟨rfl, by repeat (first | exact trivial | refine ⟨rfl, ?_⟩ | refine ⟨?_, ?_⟩)⟩
      refine ax_q (q_mov rfl) ?_
      refine ax_nil ?_
      refine cx_keep rfl rfl ?_
      refine cx_cond rfl (fun h2 => ?_) (fun h2 => ?_)
      · have h2 := (fun h => And.intro (dT (and_T h).1) ((fun h => (or_T h).imp id id) (and_T h).2)) h2
        refine cx_seq ?_
        refine cx_ops ?_
        first | refine ax_call rfl (vc_pure0 (c_truth  ) hP rfl rfl ?_) | refine ax_call rfl (vc_lend0 (c_truth  ) hP (by repeat (first | exact lal_id _ rfl | exact LAL.nil | refine LAL.cons ?_ ?_ | exact la_id _ rfl | exact LA.lend (lend_whole rfl (by first | (simp; done) | (rw [List.length_map]; rfl))) | refine LA.agg ?_ | refine LA.fn ?_ | refine LA.lend ?_ | exact Lend.d _ | exact Lend.zs _ | exact lend_whole rfl (by first | (simp; done) | (rw [List.length_map]; rfl)) | refine Lend.ptr rfl ?_ | refine Lend.fn ?_ | exact LendL.nil | refine LendL.cons ?_ ?_)) rfl rfl ?_)
        refine ax_e (e_st rfl rfl rfl rfl rfl rfl rfl) ?_
        refine ax_q (q_mov rfl) ?_
        refine ax_nil ?_
        refine cx_keep rfl rfl ?_
        refine cx_ret (ret0 rfl rfl ?_)
        have e : conF op a b = (vI 1, 0) := by unfold conF; rw [if_neg (by omega), if_neg (nAOO h1), if_pos h2]
        exact ⟨by rw [e]; rfl, rfl⟩
      · have h2 := (fun h => (and_F h).imp dF (fun h => And.intro (id (or_F h).1) (id (or_F h).2))) h2
        refine cx_seq ?_
        refine cx_ops ?_
        first | refine ax_q (q_fadr_ptr rfl) ?_ | refine ax_q (q_fadr_rptr rfl) ?_ | refine ax_q (q_fadr_ip rfl) ?_
        first | refine ax_q (q_load1_ptr rfl rfl rfl) ?_ | refine ax_q (q_load1_ip rfl) ?_ | refine ax_q (q_load1_rptr rfl rfl rfl rfl) ?_ | refine ax_q (q_load1_rptr rfl rfl (by assumption) rfl) ?_ | refine ax_q (q_load1_rptr rfl rfl (mapAt (by first | assumption | omega)) rfl) ?_
        refine ax_q (q_ibin rfl rfl rfl) ?_
        refine ax_q (q_mov rfl) ?_
        apply ax_or rfl rfl
        · intro g
          have g := dF g
          first | refine ax_q (q_fadr_ptr rfl) ?_ | refine ax_q (q_fadr_rptr rfl) ?_ | refine ax_q (q_fadr_ip rfl) ?_
          first | refine ax_q (q_load1_ptr rfl rfl rfl) ?_ | refine ax_q (q_load1_ip rfl) ?_ | refine ax_q (q_load1_rptr rfl rfl rfl rfl) ?_ | refine ax_q (q_load1_rptr rfl rfl (by assumption) rfl) ?_ | refine ax_q (q_load1_rptr rfl rfl (mapAt (by first | assumption | omega)) rfl) ?_
          refine ax_q (q_ibin rfl rfl rfl) ?_
          exact ax_nil ⟨rfl, by repeat (first | exact trivial | refine ⟨rfl, ?_⟩ | refine ⟨?_, ?_⟩)⟩
        refine ax_q (q_mov rfl) ?_
        refine ax_nil ?_
        refine cx_keep rfl rfl ?_
        refine cx_cond rfl (fun h3 => ?_) (fun h3 => ?_)
        · have h3 := (fun h => (or_T h).imp dT dT) h3
          refine cx_seq ?_
          refine cx_ops ?_
          refine ax_q (q_build rfl) ?_
          refine ax_e (e_st rfl rfl rfl rfl rfl rfl rfl) ?_
          refine ax_q (q_mov rfl) ?_
          refine ax_nil ?_
          refine cx_keep rfl rfl ?_
          refine cx_ret (ret0 rfl rfl ?_)
          have e : conF op a b = (.zero, 0) := by unfold conF; rw [if_neg (by omega), if_neg (nAOO h1), if_neg (nAOO h2), if_pos h3]
          exact ⟨by rw [e]; rfl, rfl⟩
        · have h3 := (fun h => And.intro (dF (or_F h).1) (dF (or_F h).2)) h3
          refine cx_skip ?_
          refine cx_keep rfl rfl ?_
          refine cx_seq ?_
          refine cx_ops ?_
          refine ax_q (q_mov rfl) ?_
          refine ax_q (q_ibin rfl rfl rfl) ?_
          first | refine ax_call rfl (vc_pure0 (c_truth  ) hP rfl rfl ?_) | refine ax_call rfl (vc_lend0 (c_truth  ) hP (by repeat (first | exact lal_id _ rfl | exact LAL.nil | refine LAL.cons ?_ ?_ | exact la_id _ rfl | exact LA.lend (lend_whole rfl (by first | (simp; done) | (rw [List.length_map]; rfl))) | refine LA.agg ?_ | refine LA.fn ?_ | refine LA.lend ?_ | exact Lend.d _ | exact Lend.zs _ | exact lend_whole rfl (by first | (simp; done) | (rw [List.length_map]; rfl)) | refine Lend.ptr rfl ?_ | refine Lend.fn ?_ | exact LendL.nil | refine LendL.cons ?_ ?_)) rfl rfl ?_)
          refine ax_e (e_st rfl rfl rfl rfl rfl rfl rfl) ?_
          refine ax_q (q_mov rfl) ?_
          refine ax_nil ?_
          refine cx_keep rfl rfl ?_
          refine cx_ret (ret0 rfl rfl ?_)
          have e : conF op a b = (vB (decide (op = 12)), 0) := by unfold conF; rw [if_neg (by omega), if_neg (nAOO h1), if_neg (nAOO h2), if_neg (by omega)]
          exact ⟨by rw [e]; rfl, rfl⟩


/- cmp.Or[int] -/
def k_c_Or : XCode :=
  .seq (.ops [.op (some 2) (.mov (.k (.int .i64 0)))])
  (.keep [0] (.seq (.ops [.op (some 3) (.mov (.k (.int .i64 0)))])
  (.keep [0, 3] (.seq (.seq (.ops [.op (some 6) (.mov (.t 0)),
      .op (some 7) (.lenS (.t 6)),
      .op (some 8) (.mov (.k (.int .i64 0)))])
   (.keep [3, 6, 7, 8] (.block 0 (.loop (.seq (.ops [.op (some 9) (.bin .lss (.t 8) (.t 7))])
     (.keep [3, 6, 7, 8, 9] (.seq (.cond (.t 9)
       (.skip)
       (.exit 0))
     (.keep [3, 6, 7, 8] (.seq (.block 1 (.seq (.ops [.op (some 10) (.iadr 1 (.t 6) (.t 8)),
          .op (some 11) (.load1 (.t 10)),
          .op (some 5) (.mov (.t 11))])
       (.keep [3, 5, 6, 7, 8] (.seq (.ops [.op (some 12) (.mov (.t 5)),
          .op (some 13) (.mov (.t 3)),
          .op (some 14) (.bin .neq (.t 12) (.t 13))])
       (.keep [3, 5, 6, 7, 8, 14] (.cond (.t 14)
        (.seq (.ops [.op (some 15) (.mov (.t 5)),
            .op (some 2) (.mov (.t 15))])
         (.keep [2] (.ret)))
        (.skip)))))))
     (.keep [3, 6, 7, 8] (.ops [.op (some 16) (.bin .add (.t 8) (.k (.int .i64 1))),
       .op (some 8) (.mov (.t 16))])))))))))))
  (.keep [3] (.seq (.ops [.op (some 17) (.mov (.t 3)),
     .op (some 2) (.mov (.t 17))])
  (.keep [2] (.ret))))))))
theorem k_c_Or_fits : fitsF Try.prog 115 ⟨18, k_c_Or, [.t 2]⟩ = true := by kernel_rfl
theorem c_Or {xs : List Int} (hl : xs.length ≤ 1000) : Con Try.prog noMv 115 [.d (.sl 1 (xs.map intRow))] [] (fun r h => r = int (orF xs) ∧ h = []) := by
  refine con_of2 k_c_Or_fits rfl fun C hP hmv => ?_
  unfold k_c_Or
  refine cx_seq ?_
  refine cx_ops ?_
  refine ax_q (q_mov rfl) ?_
  refine ax_nil ?_
  refine cx_keep rfl rfl ?_
  refine cx_seq ?_
  refine cx_ops ?_
  refine ax_q (q_mov rfl) ?_
  refine ax_nil ?_
  refine cx_keep rfl rfl ?_
  refine cx_seq ?_
  refine cx_seq ?_
  refine cx_ops ?_
  refine ax_q (q_mov rfl) ?_
  first | refine ax_q (q_lenS_map rfl) ?_ | refine ax_q (q_lenS_osl rfl) ?_ | refine ax_q (q_lenS_zs rfl) ?_ | refine ax_q (q_lenS rfl) ?_
  refine ax_q (q_mov rfl) ?_
  refine ax_nil ?_
  refine cx_keep rfl rfl ?_
  refine cx_block ?_
  refine cx_loopU (fun n k => k ≤ xs.length ∧ n = xs.length - k ∧ ∀ j, j < k → ∀ x, xs[j]? = some x → x = 0) (fun k : Nat => [(8, int k)]) (fun _ => []) ⟨_, 0, ⟨Nat.zero_le _, rfl, fun j hj => by omega⟩, by repeat (first | exact trivial | refine ⟨rfl, ?_⟩ | refine ⟨?_, ?_⟩)⟩ ?_
  rintro n k ⟨hk, rfl, hb⟩
  refine cx_seq ?_
  refine cx_ops ?_
  refine ax_q (q_ibin rfl rfl rfl) ?_
  refine ax_nil ?_
  refine cx_keep rfl rfl ?_
  refine cx_seq ?_
  refine cx_cond rfl (fun h0 => ?_) (fun h0 => ?_)
  · have h0 := dT h0
    have h0x : k < xs.length := by omega
    refine cx_skip ?_
    refine cx_keep rfl rfl ?_
    refine cx_seq ?_
    refine cx_block ?_
    refine cx_seq ?_
    refine cx_ops ?_
    first | refine ax_q (q_ix rfl rfl (by assumption)) ?_ | refine ax_q (q_ix rfl rfl (mapAt (by first | assumption | omega))) ?_ | refine ax_q (q_ixo rfl rfl (by first | assumption | omega)) ?_ | refine ax_q (q_ixI rfl rfl (by omega) (mapAt (by first | assumption | omega))) ?_ | refine ax_q (q_ixoI rfl rfl (by omega) (by omega)) ?_
    first | refine ax_q (q_load1_ptr rfl rfl rfl) ?_ | refine ax_q (q_load1_ip rfl) ?_ | refine ax_q (q_load1_rptr rfl rfl rfl rfl) ?_ | refine ax_q (q_load1_rptr rfl rfl (by assumption) rfl) ?_ | refine ax_q (q_load1_rptr rfl rfl (mapAt (by first | assumption | omega)) rfl) ?_
    refine ax_q (q_mov rfl) ?_
    refine ax_nil ?_
    refine cx_keep rfl rfl ?_
    refine cx_seq ?_
    refine cx_ops ?_
    refine ax_q (q_mov rfl) ?_
    refine ax_q (q_mov rfl) ?_
    refine ax_q (q_ibin rfl rfl rfl) ?_
    refine ax_nil ?_
    refine cx_keep rfl rfl ?_
    refine cx_cond rfl (fun h1 => ?_) (fun h1 => ?_)
    · have h1 := nT h1
      refine cx_seq ?_
      refine cx_ops ?_
      refine ax_q (q_mov rfl) ?_
      refine ax_q (q_mov rfl) ?_
      refine ax_nil ?_
      refine cx_keep rfl rfl ?_
      refine cx_ret (ret0 rfl rfl ?_)
      exact ⟨by rw [orF_hit h0x hb h1]; rfl, rfl⟩
    · have h1 := nF h1
      refine cx_skip ?_
      refine cx_keep rfl rfl ?_
      refine cx_ops ?_
      refine ax_qe (r' := int ((k + 1 : Nat) : Int)) (q_ibin rfl rfl rfl) (by rw [wi (by omega) (by omega)]; rfl) ?_
      refine ax_q (q_mov rfl) ?_
      refine ax_nil ?_
      exact ⟨_, k + 1, by omega, ⟨by omega, rfl, fun j hj x hx => by
        rcases Nat.lt_succ_iff_lt_or_eq.1 hj with h | rfl
        · exact hb j h x hx
        · rw [List.getElem?_eq_getElem h0x] at hx; cases hx; exact h1⟩, by repeat (first | exact trivial | refine ⟨rfl, ?_⟩ | refine ⟨?_, ?_⟩)⟩
  · have h0 := dF h0
    have h0x : k = xs.length := by omega
    refine cx_exit rfl ?_
    refine cx_keep rfl rfl ?_
    refine cx_seq ?_
    refine cx_ops ?_
    refine ax_q (q_mov rfl) ?_
    refine ax_q (q_mov rfl) ?_
    refine ax_nil ?_
    refine cx_keep rfl rfl ?_
    refine cx_ret (ret0 rfl rfl ?_)
    exact ⟨by rw [orF_none (fun j hj => hb j (by omega))]; rfl, rfl⟩


/- cmp.isNaN[int] -/
def k_c_isNaN_int : XCode :=
  .seq (.ops [.op (some 2) (.mov (.k (.bool false)))])
  (.keep [0] (.seq (.ops [.op (some 3) (.mov (.t 0)),
     .op (some 4) (.mov (.t 0)),
     .op (some 5) (.bin .neq (.t 3) (.t 4)),
     .op (some 2) (.mov (.t 5))])
  (.keep [2] (.ret))))
theorem k_c_isNaN_int_fits : fitsF Try.prog 118 ⟨6, k_c_isNaN_int, [.t 2]⟩ = true := by kernel_rfl
theorem c_isNaN_int {x : Int} : Con Try.prog noMv 118 [int x] [] (fun r h => r = bool false ∧ h = []) := by
  refine con_of2 k_c_isNaN_int_fits rfl fun C hP hmv => ?_
  unfold k_c_isNaN_int
  refine cx_seq ?_
  refine cx_ops ?_
  refine ax_q (q_mov rfl) ?_
  refine ax_nil ?_
  refine cx_keep rfl rfl ?_
  refine cx_seq ?_
  refine cx_ops ?_
  refine ax_q (q_mov rfl) ?_
  refine ax_q (q_mov rfl) ?_
  refine ax_q (q_ibin rfl rfl rfl) ?_
  refine ax_q (q_mov rfl) ?_
  refine ax_nil ?_
  refine cx_keep rfl rfl ?_
  refine cx_ret (ret0 rfl rfl ?_)
  exact ⟨by simp; rfl, rfl⟩


/- cmp.Compare[int] -/
def k_c_Compare_int : XCode :=
  .seq (.ops [.op (some 4) (.mov (.k (.int .i64 0)))])
  (.keep [0, 1] (.seq (.ops [.op (some 7) (.mov (.t 0)),
     .call (some 8) 118 [.t 7],
     .op (some 5) (.mov (.t 8))])
  (.keep [0, 1, 5] (.seq (.ops [.op (some 9) (.mov (.t 1)),
     .call (some 10) 118 [.t 9],
     .op (some 6) (.mov (.t 10))])
  (.keep [0, 1, 5, 6] (.seq (.seq (.ops [.op (some 11) (.mov (.t 5))])
   (.keep [0, 1, 6, 11] (.cond (.t 11)
    (.seq (.seq (.ops [.op (some 12) (.mov (.t 6))])
      (.keep [12] (.cond (.t 12)
       (.seq (.ops [.op (some 4) (.mov (.k (.int .i64 0)))])
        (.keep [4] (.ret)))
       (.skip))))
     (.keep [] (.seq (.ops [.op (some 4) (.mov (.k (.int .i64 (-1))))])
     (.keep [4] (.ret)))))
    (.skip))))
  (.keep [0, 1, 6] (.seq (.seq (.ops [.op (some 13) (.mov (.t 6))])
   (.keep [0, 1, 13] (.cond (.t 13)
    (.seq (.ops [.op (some 4) (.mov (.k (.int .i64 1)))])
     (.keep [4] (.ret)))
    (.skip))))
  (.keep [0, 1] (.seq (.seq (.ops [.op (some 14) (.mov (.t 0)),
      .op (some 15) (.mov (.t 1)),
      .op (some 16) (.bin .lss (.t 14) (.t 15))])
   (.keep [0, 1, 16] (.cond (.t 16)
    (.seq (.ops [.op (some 4) (.mov (.k (.int .i64 (-1))))])
     (.keep [4] (.ret)))
    (.skip))))
  (.keep [0, 1] (.seq (.seq (.ops [.op (some 17) (.mov (.t 0)),
      .op (some 18) (.mov (.t 1)),
      .op (some 19) (.bin .gtr (.t 17) (.t 18))])
   (.keep [19] (.cond (.t 19)
    (.seq (.ops [.op (some 4) (.mov (.k (.int .i64 1)))])
     (.keep [4] (.ret)))
    (.skip))))
  (.keep [] (.seq (.ops [.op (some 4) (.mov (.k (.int .i64 0)))])
  (.keep [4] (.ret))))))))))))))))
theorem k_c_Compare_int_fits : fitsF Try.prog 116 ⟨20, k_c_Compare_int, [.t 4]⟩ = true := by kernel_rfl
theorem c_Compare_int {a b : Int} : Con Try.prog noMv 116 [int a, int b] [] (fun r h => r = int (cmpI a b) ∧ h = []) := by
  refine con_of2 k_c_Compare_int_fits rfl fun C hP hmv => ?_
  unfold k_c_Compare_int
  refine cx_seq ?_
  refine cx_ops ?_
  refine ax_q (q_mov rfl) ?_
  refine ax_nil ?_
  refine cx_keep rfl rfl ?_
  refine cx_seq ?_
  refine cx_ops ?_
  refine ax_q (q_mov rfl) ?_
  first | refine ax_call rfl (vc_pure0 (c_isNaN_int  ) hP rfl rfl ?_) | refine ax_call rfl (vc_lend0 (c_isNaN_int  ) hP (by repeat (first | exact lal_id _ rfl | exact LAL.nil | refine LAL.cons ?_ ?_ | exact la_id _ rfl | exact LA.lend (lend_whole rfl (by first | (simp; done) | (rw [List.length_map]; rfl))) | refine LA.agg ?_ | refine LA.fn ?_ | refine LA.lend ?_ | exact Lend.d _ | exact Lend.zs _ | exact lend_whole rfl (by first | (simp; done) | (rw [List.length_map]; rfl)) | refine Lend.ptr rfl ?_ | refine Lend.fn ?_ | exact LendL.nil | refine LendL.cons ?_ ?_)) rfl rfl ?_)
  refine ax_q (q_mov rfl) ?_
  refine ax_nil ?_
  refine cx_keep rfl rfl ?_
  refine cx_seq ?_
  refine cx_ops ?_
  refine ax_q (q_mov rfl) ?_
  first | refine ax_call rfl (vc_pure0 (c_isNaN_int  ) hP rfl rfl ?_) | refine ax_call rfl (vc_lend0 (c_isNaN_int  ) hP (by repeat (first | exact lal_id _ rfl | exact LAL.nil | refine LAL.cons ?_ ?_ | exact la_id _ rfl | exact LA.lend (lend_whole rfl (by first | (simp; done) | (rw [List.length_map]; rfl))) | refine LA.agg ?_ | refine LA.fn ?_ | refine LA.lend ?_ | exact Lend.d _ | exact Lend.zs _ | exact lend_whole rfl (by first | (simp; done) | (rw [List.length_map]; rfl)) | refine Lend.ptr rfl ?_ | refine Lend.fn ?_ | exact LendL.nil | refine LendL.cons ?_ ?_)) rfl rfl ?_)
  refine ax_q (q_mov rfl) ?_
  refine ax_nil ?_
  refine cx_keep rfl rfl ?_
  refine cx_seq ?_
  refine cx_seq ?_
  refine cx_ops ?_
  refine ax_q (q_mov rfl) ?_
  refine ax_nil ?_
  refine cx_keep rfl rfl ?_
  refine cx_cond rfl (fun h0 => ?_) (fun h0 => ?_)
  · skip
    exact absurd h0 Bool.false_ne_true
  · skip
    refine cx_skip ?_
    refine cx_keep rfl rfl ?_
    refine cx_seq ?_
    refine cx_seq ?_
    refine cx_ops ?_
    refine ax_q (q_mov rfl) ?_
    refine ax_nil ?_
    refine cx_keep rfl rfl ?_
    refine cx_cond rfl (fun h2 => ?_) (fun h2 => ?_)
    · skip
      exact absurd h2 Bool.false_ne_true
    · skip
      refine cx_skip ?_
      refine cx_keep rfl rfl ?_
      refine cx_seq ?_
      refine cx_seq ?_
      refine cx_ops ?_
      refine ax_q (q_mov rfl) ?_
      refine ax_q (q_mov rfl) ?_
      refine ax_q (q_ibin rfl rfl rfl) ?_
      refine ax_nil ?_
      refine cx_keep rfl rfl ?_
      refine cx_cond rfl (fun h3 => ?_) (fun h3 => ?_)
      · have h3 := dT h3
        refine cx_seq ?_
        refine cx_ops ?_
        refine ax_q (q_mov rfl) ?_
        refine ax_nil ?_
        refine cx_keep rfl rfl ?_
        refine cx_ret (ret0 rfl rfl ?_)
        exact ⟨by rw [show cmpI a b = -1 from by unfold cmpI; rw [if_neg (by omega), if_pos h3]]; rfl, rfl⟩
      · have h3 := dF h3
        refine cx_skip ?_
        refine cx_keep rfl rfl ?_
        refine cx_seq ?_
        refine cx_seq ?_
        refine cx_ops ?_
        refine ax_q (q_mov rfl) ?_
        refine ax_q (q_mov rfl) ?_
        refine ax_q (q_ibin rfl rfl rfl) ?_
        refine ax_nil ?_
        refine cx_keep rfl rfl ?_
        refine cx_cond rfl (fun h4 => ?_) (fun h4 => ?_)
        · have h4 := dT h4
          refine cx_seq ?_
          refine cx_ops ?_
          refine ax_q (q_mov rfl) ?_
          refine ax_nil ?_
          refine cx_keep rfl rfl ?_
          refine cx_ret (ret0 rfl rfl ?_)
          exact ⟨by rw [show cmpI a b = 1 from by unfold cmpI; rw [if_neg (by omega), if_neg h3]]; rfl, rfl⟩
        · have h4 := dF h4
          refine cx_skip ?_
          refine cx_keep rfl rfl ?_
          refine cx_seq ?_
          refine cx_ops ?_
          refine ax_q (q_mov rfl) ?_
          refine ax_nil ?_
          refine cx_keep rfl rfl ?_
          refine cx_ret (ret0 rfl rfl ?_)
          exact ⟨by rw [show cmpI a b = 0 from by unfold cmpI; rw [if_pos (by omega)]]; rfl, rfl⟩


/- cmp.isNaN[string] -/
def k_c_isNaN_string : XCode :=
  .seq (.ops [.op (some 2) (.mov (.k (.bool false)))])
  (.keep [0] (.seq (.ops [.op (some 3) (.mov (.t 0)),
     .op (some 4) (.mov (.t 0)),
     .op (some 5) (.bin .neq (.t 3) (.t 4)),
     .op (some 2) (.mov (.t 5))])
  (.keep [2] (.ret))))
theorem k_c_isNaN_string_fits : fitsF Try.prog 119 ⟨6, k_c_isNaN_string, [.t 2]⟩ = true := by kernel_rfl
theorem c_isNaN_string {x : Str} : Con Try.prog noMv 119 [str x] [] (fun r h => r = bool false ∧ h = []) := by
  refine con_of2 k_c_isNaN_string_fits rfl fun C hP hmv => ?_
  unfold k_c_isNaN_string
  refine cx_seq ?_
  refine cx_ops ?_
  refine ax_q (q_mov rfl) ?_
  refine ax_nil ?_
  refine cx_keep rfl rfl ?_
  refine cx_seq ?_
  refine cx_ops ?_
  refine ax_q (q_mov rfl) ?_
  refine ax_q (q_mov rfl) ?_
  refine ax_q (q_sbin rfl rfl rfl) ?_
  refine ax_q (q_mov rfl) ?_
  refine ax_nil ?_
  refine cx_keep rfl rfl ?_
  refine cx_ret (ret0 rfl rfl ?_)
  exact ⟨by simp; rfl, rfl⟩


/- cmp.Compare[string] -/
def k_c_Compare_string : XCode :=
  .seq (.ops [.op (some 4) (.mov (.k (.int .i64 0)))])
  (.keep [0, 1] (.seq (.ops [.op (some 7) (.mov (.t 0)),
     .call (some 8) 119 [.t 7],
     .op (some 5) (.mov (.t 8))])
  (.keep [0, 1, 5] (.seq (.ops [.op (some 9) (.mov (.t 1)),
     .call (some 10) 119 [.t 9],
     .op (some 6) (.mov (.t 10))])
  (.keep [0, 1, 5, 6] (.seq (.seq (.ops [.op (some 11) (.mov (.t 5))])
   (.keep [0, 1, 6, 11] (.cond (.t 11)
    (.seq (.seq (.ops [.op (some 12) (.mov (.t 6))])
      (.keep [12] (.cond (.t 12)
       (.seq (.ops [.op (some 4) (.mov (.k (.int .i64 0)))])
        (.keep [4] (.ret)))
       (.skip))))
     (.keep [] (.seq (.ops [.op (some 4) (.mov (.k (.int .i64 (-1))))])
     (.keep [4] (.ret)))))
    (.skip))))
  (.keep [0, 1, 6] (.seq (.seq (.ops [.op (some 13) (.mov (.t 6))])
   (.keep [0, 1, 13] (.cond (.t 13)
    (.seq (.ops [.op (some 4) (.mov (.k (.int .i64 1)))])
     (.keep [4] (.ret)))
    (.skip))))
  (.keep [0, 1] (.seq (.seq (.ops [.op (some 14) (.mov (.t 0)),
      .op (some 15) (.mov (.t 1)),
      .op (some 16) (.bin .lss (.t 14) (.t 15))])
   (.keep [0, 1, 16] (.cond (.t 16)
    (.seq (.ops [.op (some 4) (.mov (.k (.int .i64 (-1))))])
     (.keep [4] (.ret)))
    (.skip))))
  (.keep [0, 1] (.seq (.seq (.ops [.op (some 17) (.mov (.t 0)),
      .op (some 18) (.mov (.t 1)),
      .op (some 19) (.bin .gtr (.t 17) (.t 18))])
   (.keep [19] (.cond (.t 19)
    (.seq (.ops [.op (some 4) (.mov (.k (.int .i64 1)))])
     (.keep [4] (.ret)))
    (.skip))))
  (.keep [] (.seq (.ops [.op (some 4) (.mov (.k (.int .i64 0)))])
  (.keep [4] (.ret))))))))))))))))
theorem k_c_Compare_string_fits : fitsF Try.prog 117 ⟨20, k_c_Compare_string, [.t 4]⟩ = true := by kernel_rfl
theorem c_Compare_string {a b : Str} : Con Try.prog noMv 117 [str a, str b] [] (fun r h => r = int (cmpS a b) ∧ h = []) := by
  refine con_of2 k_c_Compare_string_fits rfl fun C hP hmv => ?_
  unfold k_c_Compare_string
  refine cx_seq ?_
  refine cx_ops ?_
  refine ax_q (q_mov rfl) ?_
  refine ax_nil ?_
  refine cx_keep rfl rfl ?_
  refine cx_seq ?_
  refine cx_ops ?_
  refine ax_q (q_mov rfl) ?_
  first | refine ax_call rfl (vc_pure0 (c_isNaN_string  ) hP rfl rfl ?_) | refine ax_call rfl (vc_lend0 (c_isNaN_string  ) hP (by repeat (first | exact lal_id _ rfl | exact LAL.nil | refine LAL.cons ?_ ?_ | exact la_id _ rfl | exact LA.lend (lend_whole rfl (by first | (simp; done) | (rw [List.length_map]; rfl))) | refine LA.agg ?_ | refine LA.fn ?_ | refine LA.lend ?_ | exact Lend.d _ | exact Lend.zs _ | exact lend_whole rfl (by first | (simp; done) | (rw [List.length_map]; rfl)) | refine Lend.ptr rfl ?_ | refine Lend.fn ?_ | exact LendL.nil | refine LendL.cons ?_ ?_)) rfl rfl ?_)
  refine ax_q (q_mov rfl) ?_
  refine ax_nil ?_
  refine cx_keep rfl rfl ?_
  refine cx_seq ?_
  refine cx_ops ?_
  refine ax_q (q_mov rfl) ?_
  first | refine ax_call rfl (vc_pure0 (c_isNaN_string  ) hP rfl rfl ?_) | refine ax_call rfl (vc_lend0 (c_isNaN_string  ) hP (by repeat (first | exact lal_id _ rfl | exact LAL.nil | refine LAL.cons ?_ ?_ | exact la_id _ rfl | exact LA.lend (lend_whole rfl (by first | (simp; done) | (rw [List.length_map]; rfl))) | refine LA.agg ?_ | refine LA.fn ?_ | refine LA.lend ?_ | exact Lend.d _ | exact Lend.zs _ | exact lend_whole rfl (by first | (simp; done) | (rw [List.length_map]; rfl)) | refine Lend.ptr rfl ?_ | refine Lend.fn ?_ | exact LendL.nil | refine LendL.cons ?_ ?_)) rfl rfl ?_)
  refine ax_q (q_mov rfl) ?_
  refine ax_nil ?_
  refine cx_keep rfl rfl ?_
  refine cx_seq ?_
  refine cx_seq ?_
  refine cx_ops ?_
  refine ax_q (q_mov rfl) ?_
  refine ax_nil ?_
  refine cx_keep rfl rfl ?_
  refine cx_cond rfl (fun h0 => ?_) (fun h0 => ?_)
  · skip
    exact absurd h0 Bool.false_ne_true
  · skip
    refine cx_skip ?_
    refine cx_keep rfl rfl ?_
    refine cx_seq ?_
    refine cx_seq ?_
    refine cx_ops ?_
    refine ax_q (q_mov rfl) ?_
    refine ax_nil ?_
    refine cx_keep rfl rfl ?_
    refine cx_cond rfl (fun h2 => ?_) (fun h2 => ?_)
    · skip
      exact absurd h2 Bool.false_ne_true
    · skip
      refine cx_skip ?_
      refine cx_keep rfl rfl ?_
      refine cx_seq ?_
      refine cx_seq ?_
      refine cx_ops ?_
      refine ax_q (q_mov rfl) ?_
      refine ax_q (q_mov rfl) ?_
      refine ax_q (q_sbin rfl rfl rfl) ?_
      refine ax_nil ?_
      refine cx_keep rfl rfl ?_
      refine cx_cond rfl (fun h3 => ?_) (fun h3 => ?_)
      · skip
        refine cx_seq ?_
        refine cx_ops ?_
        refine ax_q (q_mov rfl) ?_
        refine ax_nil ?_
        refine cx_keep rfl rfl ?_
        refine cx_ret (ret0 rfl rfl ?_)
        exact ⟨by rw [cmpS_lt h3]; rfl, rfl⟩
      · skip
        refine cx_skip ?_
        refine cx_keep rfl rfl ?_
        refine cx_seq ?_
        refine cx_seq ?_
        refine cx_ops ?_
        refine ax_q (q_mov rfl) ?_
        refine ax_q (q_mov rfl) ?_
        refine ax_q (q_sbin rfl rfl rfl) ?_
        refine ax_nil ?_
        refine cx_keep rfl rfl ?_
        refine cx_cond rfl (fun h4 => ?_) (fun h4 => ?_)
        · skip
          refine cx_seq ?_
          refine cx_ops ?_
          refine ax_q (q_mov rfl) ?_
          refine ax_nil ?_
          refine cx_keep rfl rfl ?_
          refine cx_ret (ret0 rfl rfl ?_)
          exact ⟨by rw [cmpS_gt h4]; rfl, rfl⟩
        · skip
          refine cx_skip ?_
          refine cx_keep rfl rfl ?_
          refine cx_seq ?_
          refine cx_ops ?_
          refine ax_q (q_mov rfl) ?_
          refine ax_nil ?_
          refine cx_keep rfl rfl ?_
          refine cx_ret (ret0 rfl rfl ?_)
          exact ⟨by rw [cmpS_eq h3 h4]; rfl, rfl⟩


/- loop.example/g00332/impl.compareValues -/
def k_c_compareValues : XCode :=
  .seq (.ops [.op (some 2) (.box (.t 0)),
     .op (some 3) (.box (.t 1)),
     .op (some 4) (.mov (.k (.int .i64 0)))])
  (.keep [2, 3] (.seq (.drawE [[], [0], [], [2], [0, 1, 2, 3], [], [5], [], [7], [0, 1, 2, 3, 4, 5, 6, 7, 8], [], [10], [], [12], [0, 1, 2, 3, 4, 5, 6, 7, 8, 9, 10, 11, 12, 13], [0, 1, 2, 3, 4, 5, 6, 7, 8, 9, 10, 11, 12, 13, 14], [0, 1, 2, 3, 4, 5, 6, 7, 8, 9, 10, 11, 12, 13, 14, 15], [0, 1, 2, 3, 4, 5, 6, 7, 8, 9, 10, 11, 12, 13, 14, 15, 16]] [.op (some 5) (.fadr (.t 2) 0),
     .op (some 6) (.load1 (.t 5)),
     .op (some 7) (.fadr (.t 3) 0),
     .op (some 8) (.load1 (.t 7)),
     .call (some 9) 116 [.t 6, .t 8],
     .op (some 10) (.fadr (.t 2) 1),
     .op (some 11) (.load1 (.t 10)),
     .op (some 12) (.fadr (.t 3) 1),
     .op (some 13) (.load1 (.t 12)),
     .call (some 14) 116 [.t 11, .t 13],
     .op (some 15) (.fadr (.t 2) 2),
     .op (some 16) (.load1 (.t 15)),
     .op (some 17) (.fadr (.t 3) 2),
     .op (some 18) (.load1 (.t 17))]
    [.call (some 19) 117 [.t 16, .t 18],
     .op (some 20) (.bslice 1 [.t 9, .t 14, .t 19]),
     .call (some 21) 115 [.t 20],
     .op (some 4) (.mov (.t 21))])
  (.keep [4] (.ret))))
theorem k_c_compareValues_fits : fitsF Try.prog 108 ⟨22, k_c_compareValues, [.t 4]⟩ = true := by kernel_rfl
set_option maxHeartbeats 2000000 in
theorem c_compareValues {a b : GValue} : Con Try.prog noMv 108 [a.av, b.av] [] (fun r h => r = int (cmpV a b) ∧ h = []) := by
  refine con_of2 k_c_compareValues_fits rfl fun C hP hmv => ?_
  unfold k_c_compareValues
  refine cx_seq ?_
  refine cx_ops ?_
  refine ax_e (e_box rfl rfl (by decide) rfl rfl rfl) ?_
  refine ax_e (e_box rfl rfl (by decide) rfl rfl rfl) ?_
  refine ax_q (q_mov rfl) ?_
  refine ax_nil ?_
  refine cx_keep rfl rfl ?_
  refine cx_seq ?_
  refine cx_drawL 0 5 (fun _ => false) (fun _ => true) [] ([]) [[2], [5], [3], [7], [6, 8], [2], [10], [3], [12], [11, 13], [2], [15], [3], [17]] [[], [], [], [], [], [], [], [], [], [], [], [], [], []] rfl ?_
  first | refine ⟨⟨5, _, []⟩, .inl ⟨rfl, rfl, rfl, locl_of (loc_q (q_fadr_ptr rfl))⟩, ?_⟩ | refine ⟨⟨5, _, []⟩, .inl ⟨rfl, rfl, rfl, locl_of (loc_q (q_fadr_rptr rfl))⟩, ?_⟩ | refine ⟨⟨5, _, []⟩, .inl ⟨rfl, rfl, rfl, locl_of (loc_q (q_fadr_ip rfl))⟩, ?_⟩
  first | refine ⟨_, .inr ⟨rfl, _, rfl, .inr ⟨rfl, rfl, .inl rfl, rfl, rfl⟩, loc_q (q_load1_ptr rfl rfl rfl)⟩, ?_⟩ | refine ⟨_, .inr ⟨rfl, _, rfl, .inr ⟨rfl, rfl, .inl rfl, rfl, rfl⟩, loc_q (q_load1_ip rfl)⟩, ?_⟩ | refine ⟨_, .inr ⟨rfl, _, rfl, .inr ⟨rfl, rfl, .inl rfl, rfl, rfl⟩, loc_q (q_load1_rptr rfl rfl rfl rfl)⟩, ?_⟩ | refine ⟨_, .inr ⟨rfl, _, rfl, .inr ⟨rfl, rfl, .inl rfl, rfl, rfl⟩, loc_q (q_load1_rptr rfl rfl (by assumption) rfl)⟩, ?_⟩ | refine ⟨_, .inr ⟨rfl, _, rfl, .inr ⟨rfl, rfl, .inl rfl, rfl, rfl⟩, loc_q (q_load1_rptr rfl rfl (mapAt (by first | assumption | omega)) rfl)⟩, ?_⟩
  first | refine ⟨_, .inr ⟨rfl, _, rfl, .inr ⟨rfl, rfl, .inr rfl, rfl, rfl⟩, loc_q (q_fadr_ptr rfl)⟩, ?_⟩ | refine ⟨_, .inr ⟨rfl, _, rfl, .inr ⟨rfl, rfl, .inr rfl, rfl, rfl⟩, loc_q (q_fadr_rptr rfl)⟩, ?_⟩ | refine ⟨_, .inr ⟨rfl, _, rfl, .inr ⟨rfl, rfl, .inr rfl, rfl, rfl⟩, loc_q (q_fadr_ip rfl)⟩, ?_⟩
  first | refine ⟨_, .inr ⟨rfl, _, rfl, .inr ⟨rfl, rfl, .inr rfl, rfl, rfl⟩, loc_q (q_load1_ptr rfl rfl rfl)⟩, ?_⟩ | refine ⟨_, .inr ⟨rfl, _, rfl, .inr ⟨rfl, rfl, .inr rfl, rfl, rfl⟩, loc_q (q_load1_ip rfl)⟩, ?_⟩ | refine ⟨_, .inr ⟨rfl, _, rfl, .inr ⟨rfl, rfl, .inr rfl, rfl, rfl⟩, loc_q (q_load1_rptr rfl rfl rfl rfl)⟩, ?_⟩ | refine ⟨_, .inr ⟨rfl, _, rfl, .inr ⟨rfl, rfl, .inr rfl, rfl, rfl⟩, loc_q (q_load1_rptr rfl rfl (by assumption) rfl)⟩, ?_⟩ | refine ⟨_, .inr ⟨rfl, _, rfl, .inr ⟨rfl, rfl, .inr rfl, rfl, rfl⟩, loc_q (q_load1_rptr rfl rfl (mapAt (by first | assumption | omega)) rfl)⟩, ?_⟩
  first | refine ⟨_, .inr ⟨rfl, _, rfl, .inr ⟨rfl, rfl, .inl rfl, rfl, rfl⟩, loc_call (fun i => 9 + 200 * i) false rfl (c_Compare_int  ) hP (.inr ⟨rfl, rfl, rfl⟩) rfl rfl (fun h => by cases h)⟩, ?_⟩ | refine ⟨_, .inr ⟨rfl, _, rfl, .inr ⟨rfl, rfl, .inl rfl, rfl, rfl⟩, loc_call (fun i => 9 + 200 * i) true rfl (c_Compare_int  ) hP (.inl ⟨rfl, (by repeat (first | exact lal_id _ rfl | exact LAL.nil | refine LAL.cons ?_ ?_ | exact la_id _ rfl | exact LA.lend (lend_whole rfl (by first | (simp; done) | (rw [List.length_map]; rfl))) | refine LA.agg ?_ | refine LA.fn ?_ | refine LA.lend ?_ | exact Lend.d _ | exact Lend.zs _ | exact lend_whole rfl (by first | (simp; done) | (rw [List.length_map]; rfl)) | refine Lend.ptr rfl ?_ | refine Lend.fn ?_ | exact LendL.nil | refine LendL.cons ?_ ?_))⟩) rfl rfl (fun _ => ⟨rfl, noisl_of (by repeat (first | exact trivial | refine ⟨noisl_map (fun _ => rfl), ?_⟩ | refine ⟨?_, ?_⟩))⟩)⟩, ?_⟩
  first | refine ⟨_, .inr ⟨rfl, _, rfl, .inr ⟨rfl, rfl, .inr rfl, rfl, rfl⟩, loc_q (q_fadr_ptr rfl)⟩, ?_⟩ | refine ⟨_, .inr ⟨rfl, _, rfl, .inr ⟨rfl, rfl, .inr rfl, rfl, rfl⟩, loc_q (q_fadr_rptr rfl)⟩, ?_⟩ | refine ⟨_, .inr ⟨rfl, _, rfl, .inr ⟨rfl, rfl, .inr rfl, rfl, rfl⟩, loc_q (q_fadr_ip rfl)⟩, ?_⟩
  first | refine ⟨_, .inr ⟨rfl, _, rfl, .inr ⟨rfl, rfl, .inr rfl, rfl, rfl⟩, loc_q (q_load1_ptr rfl rfl rfl)⟩, ?_⟩ | refine ⟨_, .inr ⟨rfl, _, rfl, .inr ⟨rfl, rfl, .inr rfl, rfl, rfl⟩, loc_q (q_load1_ip rfl)⟩, ?_⟩ | refine ⟨_, .inr ⟨rfl, _, rfl, .inr ⟨rfl, rfl, .inr rfl, rfl, rfl⟩, loc_q (q_load1_rptr rfl rfl rfl rfl)⟩, ?_⟩ | refine ⟨_, .inr ⟨rfl, _, rfl, .inr ⟨rfl, rfl, .inr rfl, rfl, rfl⟩, loc_q (q_load1_rptr rfl rfl (by assumption) rfl)⟩, ?_⟩ | refine ⟨_, .inr ⟨rfl, _, rfl, .inr ⟨rfl, rfl, .inr rfl, rfl, rfl⟩, loc_q (q_load1_rptr rfl rfl (mapAt (by first | assumption | omega)) rfl)⟩, ?_⟩
  first | refine ⟨_, .inr ⟨rfl, _, rfl, .inr ⟨rfl, rfl, .inr rfl, rfl, rfl⟩, loc_q (q_fadr_ptr rfl)⟩, ?_⟩ | refine ⟨_, .inr ⟨rfl, _, rfl, .inr ⟨rfl, rfl, .inr rfl, rfl, rfl⟩, loc_q (q_fadr_rptr rfl)⟩, ?_⟩ | refine ⟨_, .inr ⟨rfl, _, rfl, .inr ⟨rfl, rfl, .inr rfl, rfl, rfl⟩, loc_q (q_fadr_ip rfl)⟩, ?_⟩
  first | refine ⟨_, .inr ⟨rfl, _, rfl, .inr ⟨rfl, rfl, .inr rfl, rfl, rfl⟩, loc_q (q_load1_ptr rfl rfl rfl)⟩, ?_⟩ | refine ⟨_, .inr ⟨rfl, _, rfl, .inr ⟨rfl, rfl, .inr rfl, rfl, rfl⟩, loc_q (q_load1_ip rfl)⟩, ?_⟩ | refine ⟨_, .inr ⟨rfl, _, rfl, .inr ⟨rfl, rfl, .inr rfl, rfl, rfl⟩, loc_q (q_load1_rptr rfl rfl rfl rfl)⟩, ?_⟩ | refine ⟨_, .inr ⟨rfl, _, rfl, .inr ⟨rfl, rfl, .inr rfl, rfl, rfl⟩, loc_q (q_load1_rptr rfl rfl (by assumption) rfl)⟩, ?_⟩ | refine ⟨_, .inr ⟨rfl, _, rfl, .inr ⟨rfl, rfl, .inr rfl, rfl, rfl⟩, loc_q (q_load1_rptr rfl rfl (mapAt (by first | assumption | omega)) rfl)⟩, ?_⟩
  first | refine ⟨_, .inr ⟨rfl, _, rfl, .inr ⟨rfl, rfl, .inl rfl, rfl, rfl⟩, loc_call (fun i => 14 + 200 * i) false rfl (c_Compare_int  ) hP (.inr ⟨rfl, rfl, rfl⟩) rfl rfl (fun h => by cases h)⟩, ?_⟩ | refine ⟨_, .inr ⟨rfl, _, rfl, .inr ⟨rfl, rfl, .inl rfl, rfl, rfl⟩, loc_call (fun i => 14 + 200 * i) true rfl (c_Compare_int  ) hP (.inl ⟨rfl, (by repeat (first | exact lal_id _ rfl | exact LAL.nil | refine LAL.cons ?_ ?_ | exact la_id _ rfl | exact LA.lend (lend_whole rfl (by first | (simp; done) | (rw [List.length_map]; rfl))) | refine LA.agg ?_ | refine LA.fn ?_ | refine LA.lend ?_ | exact Lend.d _ | exact Lend.zs _ | exact lend_whole rfl (by first | (simp; done) | (rw [List.length_map]; rfl)) | refine Lend.ptr rfl ?_ | refine Lend.fn ?_ | exact LendL.nil | refine LendL.cons ?_ ?_))⟩) rfl rfl (fun _ => ⟨rfl, noisl_of (by repeat (first | exact trivial | refine ⟨noisl_map (fun _ => rfl), ?_⟩ | refine ⟨?_, ?_⟩))⟩)⟩, ?_⟩
  first | refine ⟨_, .inr ⟨rfl, _, rfl, .inr ⟨rfl, rfl, .inr rfl, rfl, rfl⟩, loc_q (q_fadr_ptr rfl)⟩, ?_⟩ | refine ⟨_, .inr ⟨rfl, _, rfl, .inr ⟨rfl, rfl, .inr rfl, rfl, rfl⟩, loc_q (q_fadr_rptr rfl)⟩, ?_⟩ | refine ⟨_, .inr ⟨rfl, _, rfl, .inr ⟨rfl, rfl, .inr rfl, rfl, rfl⟩, loc_q (q_fadr_ip rfl)⟩, ?_⟩
  first | refine ⟨_, .inr ⟨rfl, _, rfl, .inr ⟨rfl, rfl, .inr rfl, rfl, rfl⟩, loc_q (q_load1_ptr rfl rfl rfl)⟩, ?_⟩ | refine ⟨_, .inr ⟨rfl, _, rfl, .inr ⟨rfl, rfl, .inr rfl, rfl, rfl⟩, loc_q (q_load1_ip rfl)⟩, ?_⟩ | refine ⟨_, .inr ⟨rfl, _, rfl, .inr ⟨rfl, rfl, .inr rfl, rfl, rfl⟩, loc_q (q_load1_rptr rfl rfl rfl rfl)⟩, ?_⟩ | refine ⟨_, .inr ⟨rfl, _, rfl, .inr ⟨rfl, rfl, .inr rfl, rfl, rfl⟩, loc_q (q_load1_rptr rfl rfl (by assumption) rfl)⟩, ?_⟩ | refine ⟨_, .inr ⟨rfl, _, rfl, .inr ⟨rfl, rfl, .inr rfl, rfl, rfl⟩, loc_q (q_load1_rptr rfl rfl (mapAt (by first | assumption | omega)) rfl)⟩, ?_⟩
  first | refine ⟨_, .inr ⟨rfl, _, rfl, .inr ⟨rfl, rfl, .inr rfl, rfl, rfl⟩, loc_q (q_fadr_ptr rfl)⟩, ?_⟩ | refine ⟨_, .inr ⟨rfl, _, rfl, .inr ⟨rfl, rfl, .inr rfl, rfl, rfl⟩, loc_q (q_fadr_rptr rfl)⟩, ?_⟩ | refine ⟨_, .inr ⟨rfl, _, rfl, .inr ⟨rfl, rfl, .inr rfl, rfl, rfl⟩, loc_q (q_fadr_ip rfl)⟩, ?_⟩
  first | refine ⟨_, .inr ⟨rfl, _, rfl, .inr ⟨rfl, rfl, .inr rfl, rfl, rfl⟩, loc_q (q_load1_ptr rfl rfl rfl)⟩, ?_⟩ | refine ⟨_, .inr ⟨rfl, _, rfl, .inr ⟨rfl, rfl, .inr rfl, rfl, rfl⟩, loc_q (q_load1_ip rfl)⟩, ?_⟩ | refine ⟨_, .inr ⟨rfl, _, rfl, .inr ⟨rfl, rfl, .inr rfl, rfl, rfl⟩, loc_q (q_load1_rptr rfl rfl rfl rfl)⟩, ?_⟩ | refine ⟨_, .inr ⟨rfl, _, rfl, .inr ⟨rfl, rfl, .inr rfl, rfl, rfl⟩, loc_q (q_load1_rptr rfl rfl (by assumption) rfl)⟩, ?_⟩ | refine ⟨_, .inr ⟨rfl, _, rfl, .inr ⟨rfl, rfl, .inr rfl, rfl, rfl⟩, loc_q (q_load1_rptr rfl rfl (mapAt (by first | assumption | omega)) rfl)⟩, ?_⟩
  refine ⟨rfl, ?_⟩
  first | refine ax_call rfl (vc_pure0 (c_Compare_string  ) hP rfl rfl ?_) | refine ax_call rfl (vc_lend0 (c_Compare_string  ) hP (by repeat (first | exact lal_id _ rfl | exact LAL.nil | refine LAL.cons ?_ ?_ | exact la_id _ rfl | exact LA.lend (lend_whole rfl (by first | (simp; done) | (rw [List.length_map]; rfl))) | refine LA.agg ?_ | refine LA.fn ?_ | refine LA.lend ?_ | exact Lend.d _ | exact Lend.zs _ | exact lend_whole rfl (by first | (simp; done) | (rw [List.length_map]; rfl)) | refine Lend.ptr rfl ?_ | refine Lend.fn ?_ | exact LendL.nil | refine LendL.cons ?_ ?_)) rfl rfl ?_)
  refine ax_e (e_bslice rfl (by decide) rfl rfl) ?_
  first | refine ax_call rfl (vc_pure0 (c_Or (xs := [cmpI a.Kind b.Kind, cmpI a.N b.N, cmpS a.T b.T]) ?_) hP rfl rfl ?_) | refine ax_call rfl (vc_lend0 (c_Or (xs := [cmpI a.Kind b.Kind, cmpI a.N b.N, cmpS a.T b.T]) ?_) hP (by repeat (first | exact lal_id _ rfl | exact LAL.nil | refine LAL.cons ?_ ?_ | exact la_id _ rfl | exact LA.lend (lend_whole rfl (by first | (simp; done) | (rw [List.length_map]; rfl))) | refine LA.agg ?_ | refine LA.fn ?_ | refine LA.lend ?_ | exact Lend.d _ | exact Lend.zs _ | exact lend_whole rfl (by first | (simp; done) | (rw [List.length_map]; rfl)) | refine Lend.ptr rfl ?_ | refine Lend.fn ?_ | exact LendL.nil | refine LendL.cons ?_ ?_)) rfl rfl ?_)
  · first | assumption | omega | (simp; done) | (simp; omega)
  refine ax_q (q_mov rfl) ?_
  refine ax_nil ?_
  refine cx_keep rfl rfl ?_
  refine cx_ret (ret0 rfl rfl ?_)
  exact ⟨by rw [cmpV_or]; rfl, rfl⟩


/- loop.example/g00332/impl.arith -/
def k_c_arith : XCode :=
  .seq (.ops [.op (some 6) (.alloc [.int .i64 0, .int .i64 0, .str []]),
     .op (some 7) (.mov (.k (.int .i64 0)))])
  (.keep [0, 1, 2, 6] (.seq (.ops [.op (some 8) (.mov (.k (.int .i64 0)))])
  (.keep [0, 1, 2, 6] (.seq (.seq (.ops [.op (some 9) (.mov (.t 0))])
   (.keep [1, 2, 6, 9] (.block 0 (.seq (.ops [.op (some 17) (.bin .eql (.t 9) (.k (.int .i64 6))),
       .op (some 16) (.mov (.t 17))])
    (.keep [1, 2, 6, 9, 16] (.cond (.t 16)
     (.ops [.op (some 18) (.mov (.t 1)),
        .op (some 19) (.mov (.t 2)),
        .op (some 20) (.bin .add (.t 18) (.t 19)),
        .op (some 8) (.mov (.t 20))])
     (.seq (.ops [.op (some 22) (.bin .eql (.t 9) (.k (.int .i64 7))),
         .op (some 21) (.mov (.t 22))])
      (.keep [1, 2, 6, 9, 21] (.cond (.t 21)
       (.ops [.op (some 23) (.mov (.t 1)),
          .op (some 24) (.mov (.t 2)),
          .op (some 25) (.bin .sub (.t 23) (.t 24)),
          .op (some 8) (.mov (.t 25))])
       (.seq (.ops [.op (some 27) (.bin .eql (.t 9) (.k (.int .i64 8))),
           .op (some 26) (.mov (.t 27))])
        (.keep [1, 2, 6, 26] (.cond (.t 26)
         (.ops [.op (some 28) (.mov (.t 1)),
            .op (some 29) (.mov (.t 2)),
            .op (some 30) (.bin .mul (.t 28) (.t 29)),
            .op (some 8) (.mov (.t 30))])
         (.seq (.seq (.ops [.op (some 10) (.mov (.t 2)),
              .op (some 11) (.bin .eql (.t 10) (.k (.int .i64 0)))])
           (.keep [1, 2, 6, 11] (.cond (.t 11)
            (.seq (.ops [.op (some 12) (.build [.int .i64 0, .int .i64 0, .str []] []),
                .op none (.store 3 (.t 6) (.t 12)),
                .op (some 7) (.mov (.k (.int .i64 11)))])
             (.keep [6, 7] (.ret)))
            (.skip))))
          (.keep [1, 2, 6] (.ops [.op (some 13) (.mov (.t 1)),
            .op (some 14) (.mov (.t 2)),
            .op (some 15) (.bin .quo (.t 13) (.t 14)),
            .op (some 8) (.mov (.t 15))])))))))))))))))
  (.keep [6, 8] (.seq (.seq (.ops [.op (some 31) (.mov (.t 8)),
      .call (some 32) 102 [.t 31],
      .op (some 33) (.not (.t 32))])
   (.keep [6, 8, 33] (.cond (.t 33)
    (.seq (.ops [.op (some 34) (.build [.int .i64 0, .int .i64 0, .str []] []),
        .op none (.store 3 (.t 6) (.t 34)),
        .op (some 7) (.mov (.k (.int .i64 12)))])
     (.keep [6, 7] (.ret)))
    (.skip))))
  (.keep [6, 8] (.seq (.ops [.op (some 35) (.mov (.t 8)),
     .call (some 36) 106 [.t 35],
     .op none (.store 3 (.t 6) (.t 36)),
     .op (some 7) (.mov (.k (.int .i64 0)))])
  (.keep [6, 7] (.ret))))))))))
theorem k_c_arith_fits : fitsF Try.prog 109 ⟨37, k_c_arith, [.cN 6 3, .t 7]⟩ = true := by kernel_rfl
theorem c_arith {op a b : Int} (hn : -1000000000 ≤ a ∧ a ≤ 1000000000) (hm : -1000000000 ≤ b ∧ b ≤ 1000000000) : Con Try.prog noMv 109 [int op, int a, int b] [] (fun r h => r = .tup [(ariF op a b).1.av, int (ariF op a b).2] ∧ h = []) := by
  refine con_of2 k_c_arith_fits rfl fun C hP hmv => ?_
  unfold k_c_arith
  have hmul := mulB hn hm
  refine cx_seq ?_
  refine cx_ops ?_
  refine ax_e (e_alloc (by decide) rfl rfl) ?_
  refine ax_q (q_mov rfl) ?_
  refine ax_nil ?_
  refine cx_keep rfl rfl ?_
  refine cx_seq ?_
  refine cx_ops ?_
  refine ax_q (q_mov rfl) ?_
  refine ax_nil ?_
  refine cx_keep rfl rfl ?_
  refine cx_seq ?_
  refine cx_seq ?_
  refine cx_ops ?_
  refine ax_q (q_mov rfl) ?_
  refine ax_nil ?_
  refine cx_keep rfl rfl ?_
  refine cx_block ?_
  refine cx_seq ?_
  refine cx_ops ?_
  refine ax_q (q_ibin rfl rfl rfl) ?_
  refine ax_q (q_mov rfl) ?_
  refine ax_nil ?_
  refine cx_keep rfl rfl ?_
  refine cx_cond rfl (fun h0 => ?_) (fun h0 => ?_)
  · have h0 := dT h0
    refine cx_ops ?_
    refine ax_q (q_mov rfl) ?_
    refine ax_q (q_mov rfl) ?_
    refine ax_q (q_add rfl rfl (by omega)) ?_
    refine ax_q (q_mov rfl) ?_
    refine ax_nil ?_
    refine cx_keep rfl rfl ?_
    refine cx_seq ?_
    refine cx_seq ?_
    refine cx_ops ?_
    refine ax_q (q_mov rfl) ?_
    first | refine ax_call rfl (vc_pure0 (c_isNumber  ) hP rfl rfl ?_) | refine ax_call rfl (vc_lend0 (c_isNumber  ) hP (by repeat (first | exact lal_id _ rfl | exact LAL.nil | refine LAL.cons ?_ ?_ | exact la_id _ rfl | exact LA.lend (lend_whole rfl (by first | (simp; done) | (rw [List.length_map]; rfl))) | refine LA.agg ?_ | refine LA.fn ?_ | refine LA.lend ?_ | exact Lend.d _ | exact Lend.zs _ | exact lend_whole rfl (by first | (simp; done) | (rw [List.length_map]; rfl)) | refine Lend.ptr rfl ?_ | refine Lend.fn ?_ | exact LendL.nil | refine LendL.cons ?_ ?_)) rfl rfl ?_)
    refine ax_q (q_not rfl) ?_
    refine ax_nil ?_
    refine cx_keep rfl rfl ?_
    refine cx_cond rfl (fun h4 => ?_) (fun h4 => ?_)
    · have h4 := bT h4
      refine cx_seq ?_
      refine cx_ops ?_
      refine ax_q (q_build rfl) ?_
      refine ax_e (e_st rfl rfl rfl rfl rfl rfl rfl) ?_
      refine ax_q (q_mov rfl) ?_
      refine ax_nil ?_
      refine cx_keep rfl rfl ?_
      refine cx_ret (ret0 rfl rfl ?_)
      exact ⟨by rw [ari_6 h0, bnd_no h4]; rfl, rfl⟩
    · have h4 := bF h4
      refine cx_skip ?_
      refine cx_keep rfl rfl ?_
      refine cx_seq ?_
      refine cx_ops ?_
      refine ax_q (q_mov rfl) ?_
      first | refine ax_call rfl (vc_pure0 (c_numberValue  ) hP rfl rfl ?_) | refine ax_call rfl (vc_lend0 (c_numberValue  ) hP (by repeat (first | exact lal_id _ rfl | exact LAL.nil | refine LAL.cons ?_ ?_ | exact la_id _ rfl | exact LA.lend (lend_whole rfl (by first | (simp; done) | (rw [List.length_map]; rfl))) | refine LA.agg ?_ | refine LA.fn ?_ | refine LA.lend ?_ | exact Lend.d _ | exact Lend.zs _ | exact lend_whole rfl (by first | (simp; done) | (rw [List.length_map]; rfl)) | refine Lend.ptr rfl ?_ | refine Lend.fn ?_ | exact LendL.nil | refine LendL.cons ?_ ?_)) rfl rfl ?_)
      refine ax_e (e_st rfl rfl rfl rfl rfl rfl rfl) ?_
      refine ax_q (q_mov rfl) ?_
      refine ax_nil ?_
      refine cx_keep rfl rfl ?_
      refine cx_ret (ret0 rfl rfl ?_)
      exact ⟨by rw [ari_6 h0, bnd_yes h4]; rfl, rfl⟩
  · have h0 := dF h0
    refine cx_seq ?_
    refine cx_ops ?_
    refine ax_q (q_ibin rfl rfl rfl) ?_
    refine ax_q (q_mov rfl) ?_
    refine ax_nil ?_
    refine cx_keep rfl rfl ?_
    refine cx_cond rfl (fun h1 => ?_) (fun h1 => ?_)
    · have h1 := dT h1
      refine cx_ops ?_
      refine ax_q (q_mov rfl) ?_
      refine ax_q (q_mov rfl) ?_
      refine ax_q (q_sub rfl rfl (by omega)) ?_
      refine ax_q (q_mov rfl) ?_
      refine ax_nil ?_
      refine cx_keep rfl rfl ?_
      refine cx_seq ?_
      refine cx_seq ?_
      refine cx_ops ?_
      refine ax_q (q_mov rfl) ?_
      first | refine ax_call rfl (vc_pure0 (c_isNumber  ) hP rfl rfl ?_) | refine ax_call rfl (vc_lend0 (c_isNumber  ) hP (by repeat (first | exact lal_id _ rfl | exact LAL.nil | refine LAL.cons ?_ ?_ | exact la_id _ rfl | exact LA.lend (lend_whole rfl (by first | (simp; done) | (rw [List.length_map]; rfl))) | refine LA.agg ?_ | refine LA.fn ?_ | refine LA.lend ?_ | exact Lend.d _ | exact Lend.zs _ | exact lend_whole rfl (by first | (simp; done) | (rw [List.length_map]; rfl)) | refine Lend.ptr rfl ?_ | refine Lend.fn ?_ | exact LendL.nil | refine LendL.cons ?_ ?_)) rfl rfl ?_)
      refine ax_q (q_not rfl) ?_
      refine ax_nil ?_
      refine cx_keep rfl rfl ?_
      refine cx_cond rfl (fun h4 => ?_) (fun h4 => ?_)
      · have h4 := bT h4
        refine cx_seq ?_
        refine cx_ops ?_
        refine ax_q (q_build rfl) ?_
        refine ax_e (e_st rfl rfl rfl rfl rfl rfl rfl) ?_
        refine ax_q (q_mov rfl) ?_
        refine ax_nil ?_
        refine cx_keep rfl rfl ?_
        refine cx_ret (ret0 rfl rfl ?_)
        exact ⟨by rw [ari_7 h1, bnd_no h4]; rfl, rfl⟩
      · have h4 := bF h4
        refine cx_skip ?_
        refine cx_keep rfl rfl ?_
        refine cx_seq ?_
        refine cx_ops ?_
        refine ax_q (q_mov rfl) ?_
        first | refine ax_call rfl (vc_pure0 (c_numberValue  ) hP rfl rfl ?_) | refine ax_call rfl (vc_lend0 (c_numberValue  ) hP (by repeat (first | exact lal_id _ rfl | exact LAL.nil | refine LAL.cons ?_ ?_ | exact la_id _ rfl | exact LA.lend (lend_whole rfl (by first | (simp; done) | (rw [List.length_map]; rfl))) | refine LA.agg ?_ | refine LA.fn ?_ | refine LA.lend ?_ | exact Lend.d _ | exact Lend.zs _ | exact lend_whole rfl (by first | (simp; done) | (rw [List.length_map]; rfl)) | refine Lend.ptr rfl ?_ | refine Lend.fn ?_ | exact LendL.nil | refine LendL.cons ?_ ?_)) rfl rfl ?_)
        refine ax_e (e_st rfl rfl rfl rfl rfl rfl rfl) ?_
        refine ax_q (q_mov rfl) ?_
        refine ax_nil ?_
        refine cx_keep rfl rfl ?_
        refine cx_ret (ret0 rfl rfl ?_)
        exact ⟨by rw [ari_7 h1, bnd_yes h4]; rfl, rfl⟩
    · have h1 := dF h1
      refine cx_seq ?_
      refine cx_ops ?_
      refine ax_q (q_ibin rfl rfl rfl) ?_
      refine ax_q (q_mov rfl) ?_
      refine ax_nil ?_
      refine cx_keep rfl rfl ?_
      refine cx_cond rfl (fun h2 => ?_) (fun h2 => ?_)
      · have h2 := dT h2
        refine cx_ops ?_
        refine ax_q (q_mov rfl) ?_
        refine ax_q (q_mov rfl) ?_
        refine ax_q (q_mul rfl rfl (by omega)) ?_
        refine ax_q (q_mov rfl) ?_
        refine ax_nil ?_
        refine cx_keep rfl rfl ?_
        refine cx_seq ?_
        refine cx_seq ?_
        refine cx_ops ?_
        refine ax_q (q_mov rfl) ?_
        first | refine ax_call rfl (vc_pure0 (c_isNumber  ) hP rfl rfl ?_) | refine ax_call rfl (vc_lend0 (c_isNumber  ) hP (by repeat (first | exact lal_id _ rfl | exact LAL.nil | refine LAL.cons ?_ ?_ | exact la_id _ rfl | exact LA.lend (lend_whole rfl (by first | (simp; done) | (rw [List.length_map]; rfl))) | refine LA.agg ?_ | refine LA.fn ?_ | refine LA.lend ?_ | exact Lend.d _ | exact Lend.zs _ | exact lend_whole rfl (by first | (simp; done) | (rw [List.length_map]; rfl)) | refine Lend.ptr rfl ?_ | refine Lend.fn ?_ | exact LendL.nil | refine LendL.cons ?_ ?_)) rfl rfl ?_)
        refine ax_q (q_not rfl) ?_
        refine ax_nil ?_
        refine cx_keep rfl rfl ?_
        refine cx_cond rfl (fun h4 => ?_) (fun h4 => ?_)
        · have h4 := bT h4
          refine cx_seq ?_
          refine cx_ops ?_
          refine ax_q (q_build rfl) ?_
          refine ax_e (e_st rfl rfl rfl rfl rfl rfl rfl) ?_
          refine ax_q (q_mov rfl) ?_
          refine ax_nil ?_
          refine cx_keep rfl rfl ?_
          refine cx_ret (ret0 rfl rfl ?_)
          exact ⟨by rw [ari_8 h2, bnd_no h4]; rfl, rfl⟩
        · have h4 := bF h4
          refine cx_skip ?_
          refine cx_keep rfl rfl ?_
          refine cx_seq ?_
          refine cx_ops ?_
          refine ax_q (q_mov rfl) ?_
          first | refine ax_call rfl (vc_pure0 (c_numberValue  ) hP rfl rfl ?_) | refine ax_call rfl (vc_lend0 (c_numberValue  ) hP (by repeat (first | exact lal_id _ rfl | exact LAL.nil | refine LAL.cons ?_ ?_ | exact la_id _ rfl | exact LA.lend (lend_whole rfl (by first | (simp; done) | (rw [List.length_map]; rfl))) | refine LA.agg ?_ | refine LA.fn ?_ | refine LA.lend ?_ | exact Lend.d _ | exact Lend.zs _ | exact lend_whole rfl (by first | (simp; done) | (rw [List.length_map]; rfl)) | refine Lend.ptr rfl ?_ | refine Lend.fn ?_ | exact LendL.nil | refine LendL.cons ?_ ?_)) rfl rfl ?_)
          refine ax_e (e_st rfl rfl rfl rfl rfl rfl rfl) ?_
          refine ax_q (q_mov rfl) ?_
          refine ax_nil ?_
          refine cx_keep rfl rfl ?_
          refine cx_ret (ret0 rfl rfl ?_)
          exact ⟨by rw [ari_8 h2, bnd_yes h4]; rfl, rfl⟩
      · have h2 := dF h2
        refine cx_seq ?_
        refine cx_seq ?_
        refine cx_ops ?_
        refine ax_q (q_mov rfl) ?_
        refine ax_q (q_ibin rfl rfl rfl) ?_
        refine ax_nil ?_
        refine cx_keep rfl rfl ?_
        refine cx_cond rfl (fun h3 => ?_) (fun h3 => ?_)
        · have h3 := dT h3
          refine cx_seq ?_
          refine cx_ops ?_
          refine ax_q (q_build rfl) ?_
          refine ax_e (e_st rfl rfl rfl rfl rfl rfl rfl) ?_
          refine ax_q (q_mov rfl) ?_
          refine ax_nil ?_
          refine cx_keep rfl rfl ?_
          refine cx_ret (ret0 rfl rfl ?_)
          exact ⟨by rw [ari_0 h0 h1 h2 h3]; rfl, rfl⟩
        · have h3 := dF h3
          refine cx_skip ?_
          refine cx_keep rfl rfl ?_
          refine cx_ops ?_
          refine ax_q (q_mov rfl) ?_
          refine ax_q (q_mov rfl) ?_
          refine ax_qe (r' := int (a.tdiv b)) (q_idiv rfl rfl rfl (by omega)) (by have := tdivB (a := a) (b := b) hn; rw [wi (by omega) (by omega)]) ?_
          refine ax_q (q_mov rfl) ?_
          refine ax_nil ?_
          refine cx_keep rfl rfl ?_
          refine cx_seq ?_
          refine cx_seq ?_
          refine cx_ops ?_
          refine ax_q (q_mov rfl) ?_
          first | refine ax_call rfl (vc_pure0 (c_isNumber  ) hP rfl rfl ?_) | refine ax_call rfl (vc_lend0 (c_isNumber  ) hP (by repeat (first | exact lal_id _ rfl | exact LAL.nil | refine LAL.cons ?_ ?_ | exact la_id _ rfl | exact LA.lend (lend_whole rfl (by first | (simp; done) | (rw [List.length_map]; rfl))) | refine LA.agg ?_ | refine LA.fn ?_ | refine LA.lend ?_ | exact Lend.d _ | exact Lend.zs _ | exact lend_whole rfl (by first | (simp; done) | (rw [List.length_map]; rfl)) | refine Lend.ptr rfl ?_ | refine Lend.fn ?_ | exact LendL.nil | refine LendL.cons ?_ ?_)) rfl rfl ?_)
          refine ax_q (q_not rfl) ?_
          refine ax_nil ?_
          refine cx_keep rfl rfl ?_
          refine cx_cond rfl (fun h4 => ?_) (fun h4 => ?_)
          · have h4 := bT h4
            refine cx_seq ?_
            refine cx_ops ?_
            refine ax_q (q_build rfl) ?_
            refine ax_e (e_st rfl rfl rfl rfl rfl rfl rfl) ?_
            refine ax_q (q_mov rfl) ?_
            refine ax_nil ?_
            refine cx_keep rfl rfl ?_
            refine cx_ret (ret0 rfl rfl ?_)
            exact ⟨by rw [ari_d h0 h1 h2 h3, bnd_no h4]; rfl, rfl⟩
          · have h4 := bF h4
            refine cx_skip ?_
            refine cx_keep rfl rfl ?_
            refine cx_seq ?_
            refine cx_ops ?_
            refine ax_q (q_mov rfl) ?_
            first | refine ax_call rfl (vc_pure0 (c_numberValue  ) hP rfl rfl ?_) | refine ax_call rfl (vc_lend0 (c_numberValue  ) hP (by repeat (first | exact lal_id _ rfl | exact LAL.nil | refine LAL.cons ?_ ?_ | exact la_id _ rfl | exact LA.lend (lend_whole rfl (by first | (simp; done) | (rw [List.length_map]; rfl))) | refine LA.agg ?_ | refine LA.fn ?_ | refine LA.lend ?_ | exact Lend.d _ | exact Lend.zs _ | exact lend_whole rfl (by first | (simp; done) | (rw [List.length_map]; rfl)) | refine Lend.ptr rfl ?_ | refine Lend.fn ?_ | exact LendL.nil | refine LendL.cons ?_ ?_)) rfl rfl ?_)
            refine ax_e (e_st rfl rfl rfl rfl rfl rfl rfl) ?_
            refine ax_q (q_mov rfl) ?_
            refine ax_nil ?_
            refine cx_keep rfl rfl ?_
            refine cx_ret (ret0 rfl rfl ?_)
            exact ⟨by rw [ari_d h0 h1 h2 h3, bnd_yes h4]; rfl, rfl⟩


/- loop.example/g00332/impl.binary -/
def k_c_binary : XCode :=
  .seq (.ops [.op (some 4) (.box (.t 1)),
     .op (some 5) (.box (.t 2)),
     .op (some 6) (.alloc [.int .i64 0, .int .i64 0, .str []]),
     .op (some 7) (.mov (.k (.int .i64 0)))])
  (.keep [0, 4, 5, 6] (.seq (.seq (.ops [.op (some 9) (.mov (.t 0)),
      .op (some 10) (.bin .eql (.t 9) (.k (.int .i64 12))),
      .op (some 11) (.mov (.t 10)),
      .andor 14 false 2 11 [.op (some 12) (.mov (.t 0)), .op (some 13) (.bin .eql (.t 12) (.k (.int .i64 13)))] (.t 13)])
   (.keep [0, 4, 5, 6, 14] (.cond (.t 14)
    (.seq (.ops [.op (some 15) (.mov (.t 0)),
        .op (some 16) (.loadN 3 (.t 4)),
        .op (some 17) (.loadN 3 (.t 5)),
        .call (some 18) 107 [.t 15, .t 16, .t 17],
        .op (some 19) (.ext (.t 18) 0),
        .op (some 20) (.ext (.t 18) 1),
        .op none (.store 3 (.t 6) (.t 19)),
        .op (some 7) (.mov (.t 20))])
     (.keep [6, 7] (.ret)))
    (.skip))))
  (.keep [0, 4, 5, 6] (.seq (.ops [.op (some 21) (.mov (.t 0)),
     .op (some 22) (.bin .eql (.t 21) (.k (.int .i64 10))),
     .op (some 23) (.mov (.t 22)),
     .andor 26 false 2 23 [.op (some 24) (.mov (.t 0)), .op (some 25) (.bin .eql (.t 24) (.k (.int .i64 11)))] (.t 25),
     .op (some 8) (.mov (.t 26))])
  (.keep [0, 4, 5, 6, 8] (.seq (.block 0 (.seq (.ops [.op (some 28) (.mov (.t 8)),
       .op (some 29) (.not (.t 28)),
       .op (some 30) (.mov (.t 29)),
       .andor 39 true 2 30 [.op (some 31) (.fadr (.t 4) 0), .op (some 32) (.load1 (.t 31)), .op (some 33) (.bin .eql (.t 32) (.k (.int .i64 2))), .op (some 34) (.mov (.t 33)), .andor 38 false 6 34 [.op (some 35) (.fadr (.t 5) 0), .op (some 36) (.load1 (.t 35)), .op (some 37) (.bin .eql (.t 36) (.k (.int .i64 2)))] (.t 37)] (.t 38),
       .op (some 27) (.mov (.t 39))])
    (.keep [0, 4, 5, 6, 27] (.cond (.t 27)
     (.seq (.ops [.op (some 40) (.build [.int .i64 0, .int .i64 0, .str []] []),
         .op none (.store 3 (.t 6) (.t 40)),
         .op (some 7) (.mov (.k (.int .i64 10)))])
      (.keep [6, 7] (.ret)))
     (.seq (.ops [.op (some 42) (.fadr (.t 4) 0),
         .op (some 43) (.load1 (.t 42)),
         .op (some 44) (.bin .eql (.t 43) (.k (.int .i64 0))),
         .op (some 45) (.mov (.t 44)),
         .andor 49 false 3 45 [.op (some 46) (.fadr (.t 5) 0), .op (some 47) (.load1 (.t 46)), .op (some 48) (.bin .eql (.t 47) (.k (.int .i64 0)))] (.t 48),
         .op (some 41) (.mov (.t 49))])
      (.keep [0, 4, 5, 6, 41] (.cond (.t 41)
       (.seq (.ops [.op (some 50) (.build [.int .i64 0, .int .i64 0, .str []] []),
           .op none (.store 3 (.t 6) (.t 50)),
           .op (some 7) (.mov (.k (.int .i64 0)))])
        (.keep [6, 7] (.ret)))
       (.seq (.ops [.op (some 52) (.fadr (.t 4) 0),
           .op (some 53) (.load1 (.t 52)),
           .op (some 54) (.fadr (.t 5) 0),
           .op (some 55) (.load1 (.t 54)),
           .op (some 56) (.bin .neq (.t 53) (.t 55)),
           .op (some 51) (.mov (.t 56))])
        (.keep [0, 4, 5, 6, 51] (.cond (.t 51)
         (.seq (.ops [.op (some 57) (.build [.int .i64 0, .int .i64 0, .str []] []),
             .op none (.store 3 (.t 6) (.t 57)),
             .op (some 7) (.mov (.k (.int .i64 10)))])
          (.keep [6, 7] (.ret)))
         (.seq (.ops [.op (some 59) (.mov (.t 0)),
             .op (some 60) (.bin .eql (.t 59) (.k (.int .i64 10))),
             .op (some 58) (.mov (.t 60))])
          (.keep [0, 4, 5, 6, 58] (.cond (.t 58)
           (.seq (.ops [.op (some 61) (.loadN 3 (.t 4)),
               .op (some 62) (.loadN 3 (.t 5)),
               .op (some 63) (.eqs false [0, 0, 2] (.t 61) (.t 62)),
               .call (some 64) 94 [.t 63],
               .op none (.store 3 (.t 6) (.t 64)),
               .op (some 7) (.mov (.k (.int .i64 0)))])
            (.keep [6, 7] (.ret)))
           (.seq (.ops [.op (some 66) (.mov (.t 0)),
               .op (some 67) (.bin .eql (.t 66) (.k (.int .i64 11))),
               .op (some 65) (.mov (.t 67))])
            (.keep [0, 4, 5, 6, 65] (.cond (.t 65)
             (.seq (.ops [.op (some 68) (.loadN 3 (.t 4)),
                 .op (some 69) (.loadN 3 (.t 5)),
                 .call (some 70) 108 [.t 68, .t 69],
                 .op (some 71) (.bin .lss (.t 70) (.k (.int .i64 0))),
                 .call (some 72) 94 [.t 71],
                 .op none (.store 3 (.t 6) (.t 72)),
                 .op (some 7) (.mov (.k (.int .i64 0)))])
              (.keep [6, 7] (.ret)))
             (.skip)))))))))))))))))
  (.keep [0, 4, 5, 6] (.seq (.ops [.op (some 73) (.mov (.t 0)),
     .op (some 74) (.fadr (.t 4) 1),
     .op (some 75) (.load1 (.t 74)),
     .op (some 76) (.fadr (.t 5) 1),
     .op (some 77) (.load1 (.t 76)),
     .call (some 78) 109 [.t 73, .t 75, .t 77],
     .op (some 79) (.ext (.t 78) 0),
     .op (some 80) (.ext (.t 78) 1),
     .op none (.store 3 (.t 6) (.t 79)),
     .op (some 7) (.mov (.t 80))])
  (.keep [6, 7] (.ret))))))))))
theorem k_c_binary_fits : fitsF Try.prog 91 ⟨81, k_c_binary, [.cN 6 3, .t 7]⟩ = true := by kernel_rfl
theorem c_binary {op : Int} {a b : GValue} (ha : RV a) (hb : RV b) : Con Try.prog noMv 91 [int op, a.av, b.av] [] (fun r h => r = .tup [(binF op a b).1.av, int (binF op a b).2] ∧ h = []) := by
  refine con_of2 k_c_binary_fits rfl fun C hP hmv => ?_
  unfold k_c_binary
  have hn := ha.n; have hm := hb.n; have hmul := mulB hn hm; have hka := ha.k; have hkb := hb.k
  refine cx_seq ?_
  refine cx_ops ?_
  refine ax_e (e_box rfl rfl (by decide) rfl rfl rfl) ?_
  refine ax_e (e_box rfl rfl (by decide) rfl rfl rfl) ?_
  refine ax_e (e_alloc (by decide) rfl rfl) ?_
  refine ax_q (q_mov rfl) ?_
  refine ax_nil ?_
  refine cx_keep rfl rfl ?_
  refine cx_seq ?_
  refine cx_seq ?_
  refine cx_ops ?_
  refine ax_q (q_mov rfl) ?_
  refine ax_q (q_ibin rfl rfl rfl) ?_
  refine ax_q (q_mov rfl) ?_
  apply ax_or rfl rfl
  · intro g
    have g := dF g
    refine ax_q (q_mov rfl) ?_
    refine ax_q (q_ibin rfl rfl rfl) ?_
    exact ax_nil ⟨rfl, by repeat (first | exact trivial | refine ⟨rfl, ?_⟩ | refine ⟨?_, ?_⟩)⟩
  refine ax_nil ?_
  refine cx_keep rfl rfl ?_
  refine cx_cond rfl (fun h0 => ?_) (fun h0 => ?_)
  · have h0 := (fun h => (or_T h).imp dT dT) h0
    refine cx_seq ?_
    refine cx_ops ?_
    refine ax_q (q_mov rfl) ?_
    first | refine ax_q (q_ldN rfl rfl rfl) ?_ | refine ax_q (q_loadN_ip rfl (Nat.le_refl _)) ?_ | refine ax_q (q_loadN_ip rfl (by decide)) ?_ | refine ax_q (q_loadN_rptr rfl rfl (by assumption) (by decide)) ?_ | refine ax_q (q_loadN_rptr rfl rfl (mapAt (by first | assumption | omega)) (by decide)) ?_
    first | refine ax_q (q_ldN rfl rfl rfl) ?_ | refine ax_q (q_loadN_ip rfl (Nat.le_refl _)) ?_ | refine ax_q (q_loadN_ip rfl (by decide)) ?_ | refine ax_q (q_loadN_rptr rfl rfl (by assumption) (by decide)) ?_ | refine ax_q (q_loadN_rptr rfl rfl (mapAt (by first | assumption | omega)) (by decide)) ?_
    first | refine ax_call rfl (vc_pure0 (c_connect (a := a) (b := b) ?_ ?_) hP rfl rfl ?_) | refine ax_call rfl (vc_lend0 (c_connect (a := a) (b := b) ?_ ?_) hP (by repeat (first | exact lal_id _ rfl | exact LAL.nil | refine LAL.cons ?_ ?_ | exact la_id _ rfl | exact LA.lend (lend_whole rfl (by first | (simp; done) | (rw [List.length_map]; rfl))) | refine LA.agg ?_ | refine LA.fn ?_ | refine LA.lend ?_ | exact Lend.d _ | exact Lend.zs _ | exact lend_whole rfl (by first | (simp; done) | (rw [List.length_map]; rfl)) | refine Lend.ptr rfl ?_ | refine Lend.fn ?_ | exact LendL.nil | refine LendL.cons ?_ ?_)) rfl rfl ?_)
    · first | assumption | omega | (simp; done) | (simp; omega)
    · first | assumption | omega | (simp; done) | (simp; omega)
    refine ax_q (q_ext rfl rfl) ?_
    refine ax_q (q_ext rfl rfl) ?_
    refine ax_e (e_st rfl rfl rfl rfl rfl rfl rfl) ?_
    refine ax_q (q_mov rfl) ?_
    refine ax_nil ?_
    refine cx_keep rfl rfl ?_
    refine cx_ret (ret0 rfl rfl ?_)
    have e : binF op a b = conF op a b := by unfold binF; rw [if_pos h0]
    exact ⟨by rw [e]; rfl, rfl⟩
  · have h0 := (fun h => And.intro (dF (or_F h).1) (dF (or_F h).2)) h0
    refine cx_skip ?_
    refine cx_keep rfl rfl ?_
    refine cx_seq ?_
    refine cx_ops ?_
    refine ax_q (q_mov rfl) ?_
    refine ax_q (q_ibin rfl rfl rfl) ?_
    refine ax_q (q_mov rfl) ?_
    apply ax_or rfl rfl
    · intro g
      have g := dF g
      refine ax_q (q_mov rfl) ?_
      refine ax_q (q_ibin rfl rfl rfl) ?_
      exact ax_nil ⟨rfl, by repeat (first | exact trivial | refine ⟨rfl, ?_⟩ | refine ⟨?_, ?_⟩)⟩
    refine ax_q (q_mov rfl) ?_
    refine ax_nil ?_
    refine cx_keep rfl rfl ?_
    refine cx_seq ?_
    refine cx_block ?_
    refine cx_seq ?_
    refine cx_ops ?_
    refine ax_q (q_mov rfl) ?_
    refine ax_q (q_not rfl) ?_
    refine ax_q (q_mov rfl) ?_
    apply ax_and rfl rfl
    · intro g
      have g := (fun h => (fun h => And.intro (dF (or_F h).1) (dF (or_F h).2)) (bT h)) g
      first | refine ax_q (q_fadr_ptr rfl) ?_ | refine ax_q (q_fadr_rptr rfl) ?_ | refine ax_q (q_fadr_ip rfl) ?_
      first | refine ax_q (q_load1_ptr rfl rfl rfl) ?_ | refine ax_q (q_load1_ip rfl) ?_ | refine ax_q (q_load1_rptr rfl rfl rfl rfl) ?_ | refine ax_q (q_load1_rptr rfl rfl (by assumption) rfl) ?_ | refine ax_q (q_load1_rptr rfl rfl (mapAt (by first | assumption | omega)) rfl) ?_
      refine ax_q (q_ibin rfl rfl rfl) ?_
      refine ax_q (q_mov rfl) ?_
      apply ax_or rfl rfl
      · intro g
        have g := dF g
        first | refine ax_q (q_fadr_ptr rfl) ?_ | refine ax_q (q_fadr_rptr rfl) ?_ | refine ax_q (q_fadr_ip rfl) ?_
        first | refine ax_q (q_load1_ptr rfl rfl rfl) ?_ | refine ax_q (q_load1_ip rfl) ?_ | refine ax_q (q_load1_rptr rfl rfl rfl rfl) ?_ | refine ax_q (q_load1_rptr rfl rfl (by assumption) rfl) ?_ | refine ax_q (q_load1_rptr rfl rfl (mapAt (by first | assumption | omega)) rfl) ?_
        refine ax_q (q_ibin rfl rfl rfl) ?_
        exact ax_nil ⟨rfl, by repeat (first | exact trivial | refine ⟨rfl, ?_⟩ | refine ⟨?_, ?_⟩)⟩
      exact ax_nil ⟨rfl, by repeat (first | exact trivial | refine ⟨rfl, ?_⟩ | refine ⟨?_, ?_⟩)⟩
    refine ax_q (q_mov rfl) ?_
    refine ax_nil ?_
    refine cx_keep rfl rfl ?_
    refine cx_cond rfl (fun h1 => ?_) (fun h1 => ?_)
    · have h1 := (fun h => And.intro ((fun h => (fun h => And.intro (dF (or_F h).1) (dF (or_F h).2)) (bT h)) (and_T h).1) ((fun h => (or_T h).imp dT dT) (and_T h).2)) h1
      refine cx_seq ?_
      refine cx_ops ?_
      refine ax_q (q_build rfl) ?_
      refine ax_e (e_st rfl rfl rfl rfl rfl rfl rfl) ?_
      refine ax_q (q_mov rfl) ?_
      refine ax_nil ?_
      refine cx_keep rfl rfl ?_
      refine cx_ret (ret0 rfl rfl ?_)
      have e : binF op a b = (.zero, 10) := by unfold binF; rw [if_neg (by omega), if_pos (by omega)]
      exact ⟨by rw [e]; rfl, rfl⟩
    · have h1 := (fun h => (and_F h).imp (fun h => (fun h => (or_T h).imp dT dT) (bF h)) (fun h => And.intro (dF (or_F h).1) (dF (or_F h).2))) h1
      refine cx_seq ?_
      refine cx_ops ?_
      first | refine ax_q (q_fadr_ptr rfl) ?_ | refine ax_q (q_fadr_rptr rfl) ?_ | refine ax_q (q_fadr_ip rfl) ?_
      first | refine ax_q (q_load1_ptr rfl rfl rfl) ?_ | refine ax_q (q_load1_ip rfl) ?_ | refine ax_q (q_load1_rptr rfl rfl rfl rfl) ?_ | refine ax_q (q_load1_rptr rfl rfl (by assumption) rfl) ?_ | refine ax_q (q_load1_rptr rfl rfl (mapAt (by first | assumption | omega)) rfl) ?_
      refine ax_q (q_ibin rfl rfl rfl) ?_
      refine ax_q (q_mov rfl) ?_
      apply ax_or rfl rfl
      · intro g
        have g := dF g
        first | refine ax_q (q_fadr_ptr rfl) ?_ | refine ax_q (q_fadr_rptr rfl) ?_ | refine ax_q (q_fadr_ip rfl) ?_
        first | refine ax_q (q_load1_ptr rfl rfl rfl) ?_ | refine ax_q (q_load1_ip rfl) ?_ | refine ax_q (q_load1_rptr rfl rfl rfl rfl) ?_ | refine ax_q (q_load1_rptr rfl rfl (by assumption) rfl) ?_ | refine ax_q (q_load1_rptr rfl rfl (mapAt (by first | assumption | omega)) rfl) ?_
        refine ax_q (q_ibin rfl rfl rfl) ?_
        exact ax_nil ⟨rfl, by repeat (first | exact trivial | refine ⟨rfl, ?_⟩ | refine ⟨?_, ?_⟩)⟩
      refine ax_q (q_mov rfl) ?_
      refine ax_nil ?_
      refine cx_keep rfl rfl ?_
      refine cx_cond rfl (fun h2 => ?_) (fun h2 => ?_)
      · have h2 := (fun h => (or_T h).imp dT dT) h2
        refine cx_seq ?_
        refine cx_ops ?_
        refine ax_q (q_build rfl) ?_
        refine ax_e (e_st rfl rfl rfl rfl rfl rfl rfl) ?_
        refine ax_q (q_mov rfl) ?_
        refine ax_nil ?_
        refine cx_keep rfl rfl ?_
        refine cx_ret (ret0 rfl rfl ?_)
        have e : binF op a b = (.zero, 0) := by unfold binF; rw [if_neg (by omega), if_neg (by omega), if_pos (by omega)]
        exact ⟨by rw [e]; rfl, rfl⟩
      · have h2 := (fun h => And.intro (dF (or_F h).1) (dF (or_F h).2)) h2
        refine cx_seq ?_
        refine cx_ops ?_
        first | refine ax_q (q_fadr_ptr rfl) ?_ | refine ax_q (q_fadr_rptr rfl) ?_ | refine ax_q (q_fadr_ip rfl) ?_
        first | refine ax_q (q_load1_ptr rfl rfl rfl) ?_ | refine ax_q (q_load1_ip rfl) ?_ | refine ax_q (q_load1_rptr rfl rfl rfl rfl) ?_ | refine ax_q (q_load1_rptr rfl rfl (by assumption) rfl) ?_ | refine ax_q (q_load1_rptr rfl rfl (mapAt (by first | assumption | omega)) rfl) ?_
        first | refine ax_q (q_fadr_ptr rfl) ?_ | refine ax_q (q_fadr_rptr rfl) ?_ | refine ax_q (q_fadr_ip rfl) ?_
        first | refine ax_q (q_load1_ptr rfl rfl rfl) ?_ | refine ax_q (q_load1_ip rfl) ?_ | refine ax_q (q_load1_rptr rfl rfl rfl rfl) ?_ | refine ax_q (q_load1_rptr rfl rfl (by assumption) rfl) ?_ | refine ax_q (q_load1_rptr rfl rfl (mapAt (by first | assumption | omega)) rfl) ?_
        refine ax_q (q_ibin rfl rfl rfl) ?_
        refine ax_q (q_mov rfl) ?_
        refine ax_nil ?_
        refine cx_keep rfl rfl ?_
        refine cx_cond rfl (fun h3 => ?_) (fun h3 => ?_)
        · have h3 := nT h3
          refine cx_seq ?_
          refine cx_ops ?_
          refine ax_q (q_build rfl) ?_
          refine ax_e (e_st rfl rfl rfl rfl rfl rfl rfl) ?_
          refine ax_q (q_mov rfl) ?_
          refine ax_nil ?_
          refine cx_keep rfl rfl ?_
          refine cx_ret (ret0 rfl rfl ?_)
          have e : binF op a b = (.zero, 10) := by unfold binF; rw [if_neg (by omega), if_neg (by omega), if_neg (by omega), if_pos (by omega)]
          exact ⟨by rw [e]; rfl, rfl⟩
        · have h3 := nF h3
          refine cx_seq ?_
          refine cx_ops ?_
          refine ax_q (q_mov rfl) ?_
          refine ax_q (q_ibin rfl rfl rfl) ?_
          refine ax_q (q_mov rfl) ?_
          refine ax_nil ?_
          refine cx_keep rfl rfl ?_
          refine cx_cond rfl (fun h4 => ?_) (fun h4 => ?_)
          · have h4 := dT h4
            refine cx_seq ?_
            refine cx_ops ?_
            first | refine ax_q (q_ldN rfl rfl rfl) ?_ | refine ax_q (q_loadN_ip rfl (Nat.le_refl _)) ?_ | refine ax_q (q_loadN_ip rfl (by decide)) ?_ | refine ax_q (q_loadN_rptr rfl rfl (by assumption) (by decide)) ?_ | refine ax_q (q_loadN_rptr rfl rfl (mapAt (by first | assumption | omega)) (by decide)) ?_
            first | refine ax_q (q_ldN rfl rfl rfl) ?_ | refine ax_q (q_loadN_ip rfl (Nat.le_refl _)) ?_ | refine ax_q (q_loadN_ip rfl (by decide)) ?_ | refine ax_q (q_loadN_rptr rfl rfl (by assumption) (by decide)) ?_ | refine ax_q (q_loadN_rptr rfl rfl (mapAt (by first | assumption | omega)) (by decide)) ?_
            refine ax_qe (r' := bool (eqV a b)) (q_eqs rfl rfl rfl) (rfl) ?_
            first | refine ax_call rfl (vc_pure0 (c_truth  ) hP rfl rfl ?_) | refine ax_call rfl (vc_lend0 (c_truth  ) hP (by repeat (first | exact lal_id _ rfl | exact LAL.nil | refine LAL.cons ?_ ?_ | exact la_id _ rfl | exact LA.lend (lend_whole rfl (by first | (simp; done) | (rw [List.length_map]; rfl))) | refine LA.agg ?_ | refine LA.fn ?_ | refine LA.lend ?_ | exact Lend.d _ | exact Lend.zs _ | exact lend_whole rfl (by first | (simp; done) | (rw [List.length_map]; rfl)) | refine Lend.ptr rfl ?_ | refine Lend.fn ?_ | exact LendL.nil | refine LendL.cons ?_ ?_)) rfl rfl ?_)
            refine ax_e (e_st rfl rfl rfl rfl rfl rfl rfl) ?_
            refine ax_q (q_mov rfl) ?_
            refine ax_nil ?_
            refine cx_keep rfl rfl ?_
            refine cx_ret (ret0 rfl rfl ?_)
            have e : binF op a b = (vB (eqV a b), 0) := by unfold binF; rw [if_neg (by omega), if_neg (by omega), if_neg (by omega), if_neg (by omega), if_pos (by omega)]
            exact ⟨by rw [e]; rfl, rfl⟩
          · have h4 := dF h4
            refine cx_seq ?_
            refine cx_ops ?_
            refine ax_q (q_mov rfl) ?_
            refine ax_q (q_ibin rfl rfl rfl) ?_
            refine ax_q (q_mov rfl) ?_
            refine ax_nil ?_
            refine cx_keep rfl rfl ?_
            refine cx_cond rfl (fun h5 => ?_) (fun h5 => ?_)
            · have h5 := dT h5
              refine cx_seq ?_
              refine cx_ops ?_
              first | refine ax_q (q_ldN rfl rfl rfl) ?_ | refine ax_q (q_loadN_ip rfl (Nat.le_refl _)) ?_ | refine ax_q (q_loadN_ip rfl (by decide)) ?_ | refine ax_q (q_loadN_rptr rfl rfl (by assumption) (by decide)) ?_ | refine ax_q (q_loadN_rptr rfl rfl (mapAt (by first | assumption | omega)) (by decide)) ?_
              first | refine ax_q (q_ldN rfl rfl rfl) ?_ | refine ax_q (q_loadN_ip rfl (Nat.le_refl _)) ?_ | refine ax_q (q_loadN_ip rfl (by decide)) ?_ | refine ax_q (q_loadN_rptr rfl rfl (by assumption) (by decide)) ?_ | refine ax_q (q_loadN_rptr rfl rfl (mapAt (by first | assumption | omega)) (by decide)) ?_
              first | refine ax_call rfl (vc_pure0 (c_compareValues (a := a) (b := b) ) hP rfl rfl ?_) | refine ax_call rfl (vc_lend0 (c_compareValues (a := a) (b := b) ) hP (by repeat (first | exact lal_id _ rfl | exact LAL.nil | refine LAL.cons ?_ ?_ | exact la_id _ rfl | exact LA.lend (lend_whole rfl (by first | (simp; done) | (rw [List.length_map]; rfl))) | refine LA.agg ?_ | refine LA.fn ?_ | refine LA.lend ?_ | exact Lend.d _ | exact Lend.zs _ | exact lend_whole rfl (by first | (simp; done) | (rw [List.length_map]; rfl)) | refine Lend.ptr rfl ?_ | refine Lend.fn ?_ | exact LendL.nil | refine LendL.cons ?_ ?_)) rfl rfl ?_)
              refine ax_q (q_ibin rfl rfl rfl) ?_
              first | refine ax_call rfl (vc_pure0 (c_truth  ) hP rfl rfl ?_) | refine ax_call rfl (vc_lend0 (c_truth  ) hP (by repeat (first | exact lal_id _ rfl | exact LAL.nil | refine LAL.cons ?_ ?_ | exact la_id _ rfl | exact LA.lend (lend_whole rfl (by first | (simp; done) | (rw [List.length_map]; rfl))) | refine LA.agg ?_ | refine LA.fn ?_ | refine LA.lend ?_ | exact Lend.d _ | exact Lend.zs _ | exact lend_whole rfl (by first | (simp; done) | (rw [List.length_map]; rfl)) | refine Lend.ptr rfl ?_ | refine Lend.fn ?_ | exact LendL.nil | refine LendL.cons ?_ ?_)) rfl rfl ?_)
              refine ax_e (e_st rfl rfl rfl rfl rfl rfl rfl) ?_
              refine ax_q (q_mov rfl) ?_
              refine ax_nil ?_
              refine cx_keep rfl rfl ?_
              refine cx_ret (ret0 rfl rfl ?_)
              have e : binF op a b = (vB (decide (cmpV a b < 0)), 0) := by unfold binF; rw [if_neg (by omega), if_neg (by omega), if_neg (by omega), if_neg (by omega), if_neg (by omega), if_pos (by omega)]
              exact ⟨by rw [e]; rfl, rfl⟩
            · have h5 := dF h5
              refine cx_skip ?_
              refine cx_keep rfl rfl ?_
              refine cx_seq ?_
              refine cx_ops ?_
              refine ax_q (q_mov rfl) ?_
              first | refine ax_q (q_fadr_ptr rfl) ?_ | refine ax_q (q_fadr_rptr rfl) ?_ | refine ax_q (q_fadr_ip rfl) ?_
              first | refine ax_q (q_load1_ptr rfl rfl rfl) ?_ | refine ax_q (q_load1_ip rfl) ?_ | refine ax_q (q_load1_rptr rfl rfl rfl rfl) ?_ | refine ax_q (q_load1_rptr rfl rfl (by assumption) rfl) ?_ | refine ax_q (q_load1_rptr rfl rfl (mapAt (by first | assumption | omega)) rfl) ?_
              first | refine ax_q (q_fadr_ptr rfl) ?_ | refine ax_q (q_fadr_rptr rfl) ?_ | refine ax_q (q_fadr_ip rfl) ?_
              first | refine ax_q (q_load1_ptr rfl rfl rfl) ?_ | refine ax_q (q_load1_ip rfl) ?_ | refine ax_q (q_load1_rptr rfl rfl rfl rfl) ?_ | refine ax_q (q_load1_rptr rfl rfl (by assumption) rfl) ?_ | refine ax_q (q_load1_rptr rfl rfl (mapAt (by first | assumption | omega)) rfl) ?_
              first | refine ax_call rfl (vc_pure0 (c_arith  ?_ ?_) hP rfl rfl ?_) | refine ax_call rfl (vc_lend0 (c_arith  ?_ ?_) hP (by repeat (first | exact lal_id _ rfl | exact LAL.nil | refine LAL.cons ?_ ?_ | exact la_id _ rfl | exact LA.lend (lend_whole rfl (by first | (simp; done) | (rw [List.length_map]; rfl))) | refine LA.agg ?_ | refine LA.fn ?_ | refine LA.lend ?_ | exact Lend.d _ | exact Lend.zs _ | exact lend_whole rfl (by first | (simp; done) | (rw [List.length_map]; rfl)) | refine Lend.ptr rfl ?_ | refine Lend.fn ?_ | exact LendL.nil | refine LendL.cons ?_ ?_)) rfl rfl ?_)
              · first | assumption | omega | (simp; done) | (simp; omega)
              · first | assumption | omega | (simp; done) | (simp; omega)
              refine ax_q (q_ext rfl rfl) ?_
              refine ax_q (q_ext rfl rfl) ?_
              refine ax_e (e_st rfl rfl rfl rfl rfl rfl rfl) ?_
              refine ax_q (q_mov rfl) ?_
              refine ax_nil ?_
              refine cx_keep rfl rfl ?_
              refine cx_ret (ret0 rfl rfl ?_)
              have e : binF op a b = ariF op a.N b.N := by unfold binF; rw [if_neg (by omega), if_neg (by omega), if_neg (by omega), if_neg (by omega), if_neg (by omega), if_neg (by omega)]
              exact ⟨by rw [e]; rfl, rfl⟩


/- loop.example/g00332/impl.eval -/
def k_c_eval : XCode :=
  .seq (.ops [.op (some 3) (.box (.t 0)),
     .op (some 5) (.box (.t 2)),
     .op (some 6) (.alloc [.int .i64 0, .int .i64 0, .str []]),
     .op (some 7) (.mov (.k (.int .i64 0)))])
  (.keep [1, 3, 5, 6] (.seq (.ops [.op (some 12) (.fadr (.t 3) 0),
     .op (some 13) (.load1 (.t 12)),
     .op (some 14) (.mov (.t 1)),
     .op (some 15) (.iadr 7 (.t 13) (.t 14)),
     .op (some 16) (.loadN 7 (.t 15)),
     .op (some 8) (.alloc [.int .i64 0, .int .i64 0, .int .i64 0, .int .i64 0, .int .i64 0, .int .i64 0, .str []]),
     .op none (.store 7 (.t 8) (.t 16))])
  (.keep [3, 5, 6, 8] (.seq (.seq (.ops [.op (some 17) (.fadr (.t 8) 0),
      .op (some 18) (.load1 (.t 17))])
   (.keep [3, 5, 6, 8, 18] (.block 0 (.seq (.ops [.op (some 20) (.bin .eql (.t 18) (.k (.int .i64 1))),
       .op (some 19) (.mov (.t 20))])
    (.keep [3, 5, 6, 8, 18, 19] (.cond (.t 19)
     (.seq (.ops [.op (some 21) (.fadr (.t 8) 4),
         .op (some 22) (.loadN 3 (.t 21)),
         .op none (.store 3 (.t 6) (.t 22)),
         .op (some 7) (.mov (.k (.int .i64 0)))])
      (.keep [6, 7] (.ret)))
     (.seq (.ops [.op (some 24) (.bin .eql (.t 18) (.k (.int .i64 2))),
         .op (some 23) (.mov (.t 24))])
      (.keep [3, 5, 6, 8, 23] (.cond (.t 23)
       (.seq (.ops [.op (some 25) (.loadN 7 (.t 5)),
           .op (some 26) (.fadr (.t 8) 3),
           .op (some 27) (.load1 (.t 26)),
           .call (some 28) 89 [.t 25, .t 27],
           .op none (.store 3 (.t 6) (.t 28)),
           .op (some 7) (.mov (.k (.int .i64 0)))])
        (.keep [6, 7] (.ret)))
       (.skip))))))))))
  (.keep [3, 5, 6, 8] (.seq (.ops [.op (some 30) (.loadN 1 (.t 3)),
     .op (some 31) (.fadr (.t 8) 1),
     .op (some 32) (.load1 (.t 31)),
     .op (some 33) (.loadN 7 (.t 5)),
     .call (some 34) 88 [.t 30, .t 32, .t 33],
     .op (some 29) (.mov (.t 34)),
     .op (some 35) (.ext (.t 29) 0),
     .op (some 36) (.ext (.t 29) 1),
     .op (some 9) (.alloc [.int .i64 0, .int .i64 0, .str []]),
     .op none (.store 3 (.t 9) (.t 35)),
     .op (some 10) (.mov (.t 36))])
  (.keep [3, 5, 6, 8, 9, 10] (.seq (.block 1 (.seq (.ops [.op (some 38) (.mov (.t 10)),
       .op (some 39) (.bin .neq (.t 38) (.k (.int .i64 0))),
       .op (some 37) (.mov (.t 39))])
    (.keep [3, 5, 6, 8, 9, 10, 37] (.cond (.t 37)
     (.seq (.ops [.op (some 40) (.build [.int .i64 0, .int .i64 0, .str []] []),
         .op (some 41) (.mov (.t 10)),
         .op none (.store 3 (.t 6) (.t 40)),
         .op (some 7) (.mov (.t 41))])
      (.keep [6, 7] (.ret)))
     (.seq (.ops [.op (some 43) (.fadr (.t 8) 0),
         .op (some 44) (.load1 (.t 43)),
         .call (some 45) 82 [.t 44],
         .op (some 42) (.mov (.t 45))])
      (.keep [3, 5, 6, 8, 9, 42] (.cond (.t 42)
       (.seq (.ops [.op (some 46) (.fadr (.t 8) 0),
           .op (some 47) (.load1 (.t 46)),
           .op (some 48) (.loadN 3 (.t 9)),
           .call (some 49) 90 [.t 47, .t 48],
           .op (some 50) (.ext (.t 49) 0),
           .op (some 51) (.ext (.t 49) 1),
           .op none (.store 3 (.t 6) (.t 50)),
           .op (some 7) (.mov (.t 51))])
        (.keep [6, 7] (.ret)))
       (.seq (.ops [.op (some 53) (.fadr (.t 8) 0),
           .op (some 54) (.load1 (.t 53)),
           .op (some 55) (.bin .eql (.t 54) (.k (.int .i64 12))),
           .op (some 56) (.mov (.t 55)),
           .andor 59 true 3 56 [.op (some 57) (.loadN 3 (.t 9)), .call (some 58) 92 [.t 57]] (.t 58),
           .op (some 52) (.mov (.t 59))])
        (.keep [3, 5, 6, 8, 9, 52] (.cond (.t 52)
         (.seq (.ops [.call (some 60) 94 [.k (.bool false)],
             .op none (.store 3 (.t 6) (.t 60)),
             .op (some 7) (.mov (.k (.int .i64 0)))])
          (.keep [6, 7] (.ret)))
         (.seq (.ops [.op (some 62) (.fadr (.t 8) 0),
             .op (some 63) (.load1 (.t 62)),
             .op (some 64) (.bin .eql (.t 63) (.k (.int .i64 13))),
             .op (some 65) (.mov (.t 64)),
             .andor 68 true 3 65 [.op (some 66) (.loadN 3 (.t 9)), .call (some 67) 93 [.t 66]] (.t 67),
             .op (some 61) (.mov (.t 68))])
          (.keep [3, 5, 6, 8, 9, 61] (.cond (.t 61)
           (.seq (.ops [.call (some 69) 94 [.k (.bool true)],
               .op none (.store 3 (.t 6) (.t 69)),
               .op (some 7) (.mov (.k (.int .i64 0)))])
            (.keep [6, 7] (.ret)))
           (.skip))))))))))))))
  (.keep [3, 5, 6, 8, 9] (.seq (.ops [.op (some 71) (.loadN 1 (.t 3)),
     .op (some 72) (.fadr (.t 8) 2),
     .op (some 73) (.load1 (.t 72)),
     .op (some 74) (.loadN 7 (.t 5)),
     .call (some 75) 88 [.t 71, .t 73, .t 74],
     .op (some 70) (.mov (.t 75)),
     .op (some 76) (.ext (.t 70) 0),
     .op (some 77) (.ext (.t 70) 1),
     .op (some 11) (.alloc [.int .i64 0, .int .i64 0, .str []]),
     .op none (.store 3 (.t 11) (.t 76)),
     .op (some 10) (.mov (.t 77))])
  (.keep [6, 8, 9, 10, 11] (.seq (.seq (.ops [.op (some 78) (.mov (.t 10)),
      .op (some 79) (.bin .neq (.t 78) (.k (.int .i64 0)))])
   (.keep [6, 8, 9, 10, 11, 79] (.cond (.t 79)
    (.seq (.ops [.op (some 80) (.build [.int .i64 0, .int .i64 0, .str []] []),
        .op (some 81) (.mov (.t 10)),
        .op none (.store 3 (.t 6) (.t 80)),
        .op (some 7) (.mov (.t 81))])
     (.keep [6, 7] (.ret)))
    (.skip))))
  (.keep [6, 8, 9, 11] (.seq (.ops [.op (some 82) (.fadr (.t 8) 0),
     .op (some 83) (.load1 (.t 82)),
     .op (some 84) (.loadN 3 (.t 9)),
     .op (some 85) (.loadN 3 (.t 11)),
     .call (some 86) 91 [.t 83, .t 84, .t 85],
     .op (some 87) (.ext (.t 86) 0),
     .op (some 88) (.ext (.t 86) 1),
     .op none (.store 3 (.t 6) (.t 87)),
     .op (some 7) (.mov (.t 88))])
  (.keep [6, 7] (.ret))))))))))))))))
theorem k_c_eval_fits : fitsF Try.prog 88 ⟨89, k_c_eval, [.cN 6 3, .t 7]⟩ = true := by kernel_rfl
set_option maxHeartbeats 4000000 in
theorem c_eval {e : GExpr} {w : GRow} {f : Nat} {i : Int} (hi : 0 ≤ i) (hf : i < f) (hl : i < e.Nodes.length) (ht : (T e.Nodes i).2.2 = true) (hr : RR w) (hw : e.Nodes.length ≤ 1048576) : Con Try.prog noMv 88 [e.av, int i, w.av] [] (fun r h => r = .tup [(evalF e.Nodes w f i).1.av, int (evalF e.Nodes w f i).2] ∧ h = []) := by
  induction f generalizing i with
  | zero => exact absurd hf (by omega)
  | succ f ih =>
    refine con_of2 k_c_eval_fits rfl fun C hP hmv => ?_
    unfold k_c_eval
    obtain ⟨j, rfl⟩ : ∃ j : Nat, i = (j : Int) := ⟨i.toNat, by omega⟩
    have hj : j < e.Nodes.length := by omega
    have hTV := T_V hj ht
    refine cx_seq ?_
    refine cx_ops ?_
    refine ax_e (e_box rfl rfl (by decide) rfl rfl rfl) ?_
    refine ax_e (e_box rfl rfl (by decide) rfl rfl rfl) ?_
    refine ax_e (e_alloc (by decide) rfl rfl) ?_
    refine ax_q (q_mov rfl) ?_
    refine ax_nil ?_
    refine cx_keep rfl rfl ?_
    refine cx_seq ?_
    refine cx_ops ?_
    first | refine ax_q (q_fadr_ptr rfl) ?_ | refine ax_q (q_fadr_rptr rfl) ?_ | refine ax_q (q_fadr_ip rfl) ?_
    first | refine ax_q (q_load1_ptr rfl rfl rfl) ?_ | refine ax_q (q_load1_ip rfl) ?_ | refine ax_q (q_load1_rptr rfl rfl rfl rfl) ?_ | refine ax_q (q_load1_rptr rfl rfl (by assumption) rfl) ?_ | refine ax_q (q_load1_rptr rfl rfl (mapAt (by first | assumption | omega)) rfl) ?_
    refine ax_q (q_mov rfl) ?_
    refine ax_q (q_ix rfl rfl (mapAt hj)) ?_
    first | refine ax_q (q_ldN rfl rfl rfl) ?_ | refine ax_q (q_loadN_ip rfl (Nat.le_refl _)) ?_ | refine ax_q (q_loadN_ip rfl (by decide)) ?_ | refine ax_q (q_loadN_rptr rfl rfl (by assumption) (by decide)) ?_ | refine ax_q (q_loadN_rptr rfl rfl (mapAt (by first | assumption | omega)) (by decide)) ?_
    refine ax_e (e_alloc (by decide) rfl rfl) ?_
    refine ax_e (e_st rfl rfl rfl rfl rfl rfl rfl) ?_
    refine ax_nil ?_
    refine cx_keep rfl rfl ?_
    refine cx_seq ?_
    refine cx_seq ?_
    refine cx_ops ?_
    first | refine ax_q (q_fadr_ptr rfl) ?_ | refine ax_q (q_fadr_rptr rfl) ?_ | refine ax_q (q_fadr_ip rfl) ?_
    first | refine ax_q (q_load1_ptr rfl rfl rfl) ?_ | refine ax_q (q_load1_ip rfl) ?_ | refine ax_q (q_load1_rptr rfl rfl rfl rfl) ?_ | refine ax_q (q_load1_rptr rfl rfl (by assumption) rfl) ?_ | refine ax_q (q_load1_rptr rfl rfl (mapAt (by first | assumption | omega)) rfl) ?_
    refine ax_nil ?_
    refine cx_keep rfl rfl ?_
    refine cx_block ?_
    refine cx_seq ?_
    refine cx_ops ?_
    refine ax_q (q_ibin rfl rfl rfl) ?_
    refine ax_q (q_mov rfl) ?_
    refine ax_nil ?_
    refine cx_keep rfl rfl ?_
    refine cx_cond rfl (fun h0 => ?_) (fun h0 => ?_)
    · have h0 := dT h0
      refine cx_seq ?_
      refine cx_ops ?_
      first | refine ax_q (q_fadr_ptr rfl) ?_ | refine ax_q (q_fadr_rptr rfl) ?_ | refine ax_q (q_fadr_ip rfl) ?_
      first | refine ax_q (q_ldN rfl rfl rfl) ?_ | refine ax_q (q_loadN_ip rfl (Nat.le_refl _)) ?_ | refine ax_q (q_loadN_ip rfl (by decide)) ?_ | refine ax_q (q_loadN_rptr rfl rfl (by assumption) (by decide)) ?_ | refine ax_q (q_loadN_rptr rfl rfl (mapAt (by first | assumption | omega)) (by decide)) ?_
      refine ax_e (e_st rfl rfl rfl rfl rfl rfl rfl) ?_
      refine ax_q (q_mov rfl) ?_
      refine ax_nil ?_
      refine cx_keep rfl rfl ?_
      refine cx_ret (ret0 rfl rfl ?_)
      exact ⟨by rw [evalF_1 hj h0]; rfl, rfl⟩
    · have h0 := dF h0
      refine cx_seq ?_
      refine cx_ops ?_
      refine ax_q (q_ibin rfl rfl rfl) ?_
      refine ax_q (q_mov rfl) ?_
      refine ax_nil ?_
      refine cx_keep rfl rfl ?_
      refine cx_cond rfl (fun h1 => ?_) (fun h1 => ?_)
      · have h1 := dT h1
        have hc := hTV.2 h1
        refine cx_seq ?_
        refine cx_ops ?_
        first | refine ax_q (q_ldN rfl rfl rfl) ?_ | refine ax_q (q_loadN_ip rfl (Nat.le_refl _)) ?_ | refine ax_q (q_loadN_ip rfl (by decide)) ?_ | refine ax_q (q_loadN_rptr rfl rfl (by assumption) (by decide)) ?_ | refine ax_q (q_loadN_rptr rfl rfl (mapAt (by first | assumption | omega)) (by decide)) ?_
        first | refine ax_q (q_fadr_ptr rfl) ?_ | refine ax_q (q_fadr_rptr rfl) ?_ | refine ax_q (q_fadr_ip rfl) ?_
        first | refine ax_q (q_load1_ptr rfl rfl rfl) ?_ | refine ax_q (q_load1_ip rfl) ?_ | refine ax_q (q_load1_rptr rfl rfl rfl rfl) ?_ | refine ax_q (q_load1_rptr rfl rfl (by assumption) rfl) ?_ | refine ax_q (q_load1_rptr rfl rfl (mapAt (by first | assumption | omega)) rfl) ?_
        first | refine ax_call rfl (vc_pure0 (c_columnOf  ?_) hP rfl rfl ?_) | refine ax_call rfl (vc_lend0 (c_columnOf  ?_) hP (by repeat (first | exact lal_id _ rfl | exact LAL.nil | refine LAL.cons ?_ ?_ | exact la_id _ rfl | exact LA.lend (lend_whole rfl (by first | (simp; done) | (rw [List.length_map]; rfl))) | refine LA.agg ?_ | refine LA.fn ?_ | refine LA.lend ?_ | exact Lend.d _ | exact Lend.zs _ | exact lend_whole rfl (by first | (simp; done) | (rw [List.length_map]; rfl)) | refine Lend.ptr rfl ?_ | refine Lend.fn ?_ | exact LendL.nil | refine LendL.cons ?_ ?_)) rfl rfl ?_)
        · first | assumption | omega | (simp; done) | (simp; omega)
        refine ax_e (e_st rfl rfl rfl rfl rfl rfl rfl) ?_
        refine ax_q (q_mov rfl) ?_
        refine ax_nil ?_
        refine cx_keep rfl rfl ?_
        refine cx_ret (ret0 rfl rfl ?_)
        exact ⟨by rw [evalF_2 hj h0 h1]; rfl, rfl⟩
      · have h1 := dF h1
        refine cx_skip ?_
        refine cx_keep rfl rfl ?_
        refine cx_seq ?_
        refine cx_ops ?_
        first | refine ax_q (q_ldN rfl rfl rfl) ?_ | refine ax_q (q_loadN_ip rfl (Nat.le_refl _)) ?_ | refine ax_q (q_loadN_ip rfl (by decide)) ?_ | refine ax_q (q_loadN_rptr rfl rfl (by assumption) (by decide)) ?_ | refine ax_q (q_loadN_rptr rfl rfl (mapAt (by first | assumption | omega)) (by decide)) ?_
        first | refine ax_q (q_fadr_ptr rfl) ?_ | refine ax_q (q_fadr_rptr rfl) ?_ | refine ax_q (q_fadr_ip rfl) ?_
        first | refine ax_q (q_load1_ptr rfl rfl rfl) ?_ | refine ax_q (q_load1_ip rfl) ?_ | refine ax_q (q_load1_rptr rfl rfl rfl rfl) ?_ | refine ax_q (q_load1_rptr rfl rfl (by assumption) rfl) ?_ | refine ax_q (q_load1_rptr rfl rfl (mapAt (by first | assumption | omega)) rfl) ?_
        first | refine ax_q (q_ldN rfl rfl rfl) ?_ | refine ax_q (q_loadN_ip rfl (Nat.le_refl _)) ?_ | refine ax_q (q_loadN_ip rfl (by decide)) ?_ | refine ax_q (q_loadN_rptr rfl rfl (by assumption) (by decide)) ?_ | refine ax_q (q_loadN_rptr rfl rfl (mapAt (by first | assumption | omega)) (by decide)) ?_
        obtain ⟨⟨hA0, hA1, hAt, hAs⟩, hB⟩ := T_kids hj ht h0 h1
        have hva := evalF_rv (r := w) hr (f := f) hA0 (by omega) (by omega) hAt
        first | refine ax_call rfl (vc_pure0 (ih (i := e.Nodes[j].A) ?_ ?_ ?_ ?_) hP rfl rfl ?_) | refine ax_call rfl (vc_lend0 (ih (i := e.Nodes[j].A) ?_ ?_ ?_ ?_) hP (by repeat (first | exact lal_id _ rfl | exact LAL.nil | refine LAL.cons ?_ ?_ | exact la_id _ rfl | exact LA.lend (lend_whole rfl (by first | (simp; done) | (rw [List.length_map]; rfl))) | refine LA.agg ?_ | refine LA.fn ?_ | refine LA.lend ?_ | exact Lend.d _ | exact Lend.zs _ | exact lend_whole rfl (by first | (simp; done) | (rw [List.length_map]; rfl)) | refine Lend.ptr rfl ?_ | refine Lend.fn ?_ | exact LendL.nil | refine LendL.cons ?_ ?_)) rfl rfl ?_)
        · first | assumption | omega | (simp; done) | (simp; omega)
        · first | assumption | omega | (simp; done) | (simp; omega)
        · first | assumption | omega | (simp; done) | (simp; omega)
        · first | assumption | omega | (simp; done) | (simp; omega)
        refine ax_q (q_mov rfl) ?_
        refine ax_q (q_ext rfl rfl) ?_
        refine ax_q (q_ext rfl rfl) ?_
        refine ax_e (e_alloc (by decide) rfl rfl) ?_
        refine ax_e (e_st rfl rfl rfl rfl rfl rfl rfl) ?_
        refine ax_q (q_mov rfl) ?_
        refine ax_nil ?_
        refine cx_keep rfl rfl ?_
        refine cx_seq ?_
        refine cx_block ?_
        refine cx_seq ?_
        refine cx_ops ?_
        refine ax_q (q_mov rfl) ?_
        refine ax_q (q_ibin rfl rfl rfl) ?_
        refine ax_q (q_mov rfl) ?_
        refine ax_nil ?_
        refine cx_keep rfl rfl ?_
        refine cx_cond rfl (fun h2 => ?_) (fun h2 => ?_)
        · have h2 := nT h2
          refine cx_seq ?_
          refine cx_ops ?_
          refine ax_q (q_build rfl) ?_
          refine ax_q (q_mov rfl) ?_
          refine ax_e (e_st rfl rfl rfl rfl rfl rfl rfl) ?_
          refine ax_q (q_mov rfl) ?_
          refine ax_nil ?_
          refine cx_keep rfl rfl ?_
          refine cx_ret (ret0 rfl rfl ?_)
          exact ⟨by rw [evalF_3 hj h0 h1 h2]; rfl, rfl⟩
        · have h2 := nF h2
          refine cx_seq ?_
          refine cx_ops ?_
          first | refine ax_q (q_fadr_ptr rfl) ?_ | refine ax_q (q_fadr_rptr rfl) ?_ | refine ax_q (q_fadr_ip rfl) ?_
          first | refine ax_q (q_load1_ptr rfl rfl rfl) ?_ | refine ax_q (q_load1_ip rfl) ?_ | refine ax_q (q_load1_rptr rfl rfl rfl rfl) ?_ | refine ax_q (q_load1_rptr rfl rfl (by assumption) rfl) ?_ | refine ax_q (q_load1_rptr rfl rfl (mapAt (by first | assumption | omega)) rfl) ?_
          first | refine ax_call rfl (vc_pure0 (c_isUnary  ) hP rfl rfl ?_) | refine ax_call rfl (vc_lend0 (c_isUnary  ) hP (by repeat (first | exact lal_id _ rfl | exact LAL.nil | refine LAL.cons ?_ ?_ | exact la_id _ rfl | exact LA.lend (lend_whole rfl (by first | (simp; done) | (rw [List.length_map]; rfl))) | refine LA.agg ?_ | refine LA.fn ?_ | refine LA.lend ?_ | exact Lend.d _ | exact Lend.zs _ | exact lend_whole rfl (by first | (simp; done) | (rw [List.length_map]; rfl)) | refine Lend.ptr rfl ?_ | refine Lend.fn ?_ | exact LendL.nil | refine LendL.cons ?_ ?_)) rfl rfl ?_)
          refine ax_q (q_mov rfl) ?_
          refine ax_nil ?_
          refine cx_keep rfl rfl ?_
          refine cx_cond rfl (fun h3 => ?_) (fun h3 => ?_)
          · skip
            have h3 : e.Nodes[j].Op ≤ 5 := (inR_iff.1 h3).2
            refine cx_seq ?_
            refine cx_ops ?_
            first | refine ax_q (q_fadr_ptr rfl) ?_ | refine ax_q (q_fadr_rptr rfl) ?_ | refine ax_q (q_fadr_ip rfl) ?_
            first | refine ax_q (q_load1_ptr rfl rfl rfl) ?_ | refine ax_q (q_load1_ip rfl) ?_ | refine ax_q (q_load1_rptr rfl rfl rfl rfl) ?_ | refine ax_q (q_load1_rptr rfl rfl (by assumption) rfl) ?_ | refine ax_q (q_load1_rptr rfl rfl (mapAt (by first | assumption | omega)) rfl) ?_
            first | refine ax_q (q_ldN rfl rfl rfl) ?_ | refine ax_q (q_loadN_ip rfl (Nat.le_refl _)) ?_ | refine ax_q (q_loadN_ip rfl (by decide)) ?_ | refine ax_q (q_loadN_rptr rfl rfl (by assumption) (by decide)) ?_ | refine ax_q (q_loadN_rptr rfl rfl (mapAt (by first | assumption | omega)) (by decide)) ?_
            first | refine ax_call rfl (vc_pure0 (c_unary (a := (evalF e.Nodes w f e.Nodes[j].A).1) ?_) hP rfl rfl ?_) | refine ax_call rfl (vc_lend0 (c_unary (a := (evalF e.Nodes w f e.Nodes[j].A).1) ?_) hP (by repeat (first | exact lal_id _ rfl | exact LAL.nil | refine LAL.cons ?_ ?_ | exact la_id _ rfl | exact LA.lend (lend_whole rfl (by first | (simp; done) | (rw [List.length_map]; rfl))) | refine LA.agg ?_ | refine LA.fn ?_ | refine LA.lend ?_ | exact Lend.d _ | exact Lend.zs _ | exact lend_whole rfl (by first | (simp; done) | (rw [List.length_map]; rfl)) | refine Lend.ptr rfl ?_ | refine Lend.fn ?_ | exact LendL.nil | refine LendL.cons ?_ ?_)) rfl rfl ?_)
            · first | assumption | omega | (simp; done) | (simp; omega)
            refine ax_q (q_ext rfl rfl) ?_
            refine ax_q (q_ext rfl rfl) ?_
            refine ax_e (e_st rfl rfl rfl rfl rfl rfl rfl) ?_
            refine ax_q (q_mov rfl) ?_
            refine ax_nil ?_
            refine cx_keep rfl rfl ?_
            refine cx_ret (ret0 rfl rfl ?_)
            exact ⟨by rw [evalF_4 hj h0 h1 h2 h3]; rfl, rfl⟩
          · skip
            have h3 : ¬ e.Nodes[j].Op ≤ 5 := fun hh => by have := ((T_un hj ht h0 h1).1 hh).1; rw [h3] at this; cases this
            refine cx_seq ?_
            refine cx_ops ?_
            first | refine ax_q (q_fadr_ptr rfl) ?_ | refine ax_q (q_fadr_rptr rfl) ?_ | refine ax_q (q_fadr_ip rfl) ?_
            first | refine ax_q (q_load1_ptr rfl rfl rfl) ?_ | refine ax_q (q_load1_ip rfl) ?_ | refine ax_q (q_load1_rptr rfl rfl rfl rfl) ?_ | refine ax_q (q_load1_rptr rfl rfl (by assumption) rfl) ?_ | refine ax_q (q_load1_rptr rfl rfl (mapAt (by first | assumption | omega)) rfl) ?_
            refine ax_q (q_ibin rfl rfl rfl) ?_
            refine ax_q (q_mov rfl) ?_
            apply ax_and rfl rfl
            · intro g
              have g := dT g
              first | refine ax_q (q_ldN rfl rfl rfl) ?_ | refine ax_q (q_loadN_ip rfl (Nat.le_refl _)) ?_ | refine ax_q (q_loadN_ip rfl (by decide)) ?_ | refine ax_q (q_loadN_rptr rfl rfl (by assumption) (by decide)) ?_ | refine ax_q (q_loadN_rptr rfl rfl (mapAt (by first | assumption | omega)) (by decide)) ?_
              first | refine ax_call rfl (vc_pure0 (c_isZero (v := (evalF e.Nodes w f e.Nodes[j].A).1) ?_) hP rfl rfl ?_) | refine ax_call rfl (vc_lend0 (c_isZero (v := (evalF e.Nodes w f e.Nodes[j].A).1) ?_) hP (by repeat (first | exact lal_id _ rfl | exact LAL.nil | refine LAL.cons ?_ ?_ | exact la_id _ rfl | exact LA.lend (lend_whole rfl (by first | (simp; done) | (rw [List.length_map]; rfl))) | refine LA.agg ?_ | refine LA.fn ?_ | refine LA.lend ?_ | exact Lend.d _ | exact Lend.zs _ | exact lend_whole rfl (by first | (simp; done) | (rw [List.length_map]; rfl)) | refine Lend.ptr rfl ?_ | refine Lend.fn ?_ | exact LendL.nil | refine LendL.cons ?_ ?_)) rfl rfl ?_)
              · first | assumption | omega | (simp; done) | (simp; omega)
              exact ax_nil ⟨rfl, by repeat (first | exact trivial | refine ⟨rfl, ?_⟩ | refine ⟨?_, ?_⟩)⟩
            refine ax_q (q_mov rfl) ?_
            refine ax_nil ?_
            refine cx_keep rfl rfl ?_
            refine cx_cond rfl (fun h4 => ?_) (fun h4 => ?_)
            · have h4 := (fun h => And.intro (dT (and_T h).1) (id (and_T h).2)) h4
              refine cx_seq ?_
              refine cx_ops ?_
              first | refine ax_call rfl (vc_pure0 (c_truth  ) hP rfl rfl ?_) | refine ax_call rfl (vc_lend0 (c_truth  ) hP (by repeat (first | exact lal_id _ rfl | exact LAL.nil | refine LAL.cons ?_ ?_ | exact la_id _ rfl | exact LA.lend (lend_whole rfl (by first | (simp; done) | (rw [List.length_map]; rfl))) | refine LA.agg ?_ | refine LA.fn ?_ | refine LA.lend ?_ | exact Lend.d _ | exact Lend.zs _ | exact lend_whole rfl (by first | (simp; done) | (rw [List.length_map]; rfl)) | refine Lend.ptr rfl ?_ | refine Lend.fn ?_ | exact LendL.nil | refine LendL.cons ?_ ?_)) rfl rfl ?_)
              refine ax_e (e_st rfl rfl rfl rfl rfl rfl rfl) ?_
              refine ax_q (q_mov rfl) ?_
              refine ax_nil ?_
              refine cx_keep rfl rfl ?_
              refine cx_ret (ret0 rfl rfl ?_)
              exact ⟨by rw [evalF_r hj h0 h1 h2 h3, if_pos h4]; rfl, rfl⟩
            · have h4 := (fun h => (and_F h).imp dF id) h4
              refine cx_seq ?_
              refine cx_ops ?_
              first | refine ax_q (q_fadr_ptr rfl) ?_ | refine ax_q (q_fadr_rptr rfl) ?_ | refine ax_q (q_fadr_ip rfl) ?_
              first | refine ax_q (q_load1_ptr rfl rfl rfl) ?_ | refine ax_q (q_load1_ip rfl) ?_ | refine ax_q (q_load1_rptr rfl rfl rfl rfl) ?_ | refine ax_q (q_load1_rptr rfl rfl (by assumption) rfl) ?_ | refine ax_q (q_load1_rptr rfl rfl (mapAt (by first | assumption | omega)) rfl) ?_
              refine ax_q (q_ibin rfl rfl rfl) ?_
              refine ax_q (q_mov rfl) ?_
              apply ax_and rfl rfl
              · intro g
                have g := dT g
                first | refine ax_q (q_ldN rfl rfl rfl) ?_ | refine ax_q (q_loadN_ip rfl (Nat.le_refl _)) ?_ | refine ax_q (q_loadN_ip rfl (by decide)) ?_ | refine ax_q (q_loadN_rptr rfl rfl (by assumption) (by decide)) ?_ | refine ax_q (q_loadN_rptr rfl rfl (mapAt (by first | assumption | omega)) (by decide)) ?_
                first | refine ax_call rfl (vc_pure0 (c_isOther (v := (evalF e.Nodes w f e.Nodes[j].A).1) ) hP rfl rfl ?_) | refine ax_call rfl (vc_lend0 (c_isOther (v := (evalF e.Nodes w f e.Nodes[j].A).1) ) hP (by repeat (first | exact lal_id _ rfl | exact LAL.nil | refine LAL.cons ?_ ?_ | exact la_id _ rfl | exact LA.lend (lend_whole rfl (by first | (simp; done) | (rw [List.length_map]; rfl))) | refine LA.agg ?_ | refine LA.fn ?_ | refine LA.lend ?_ | exact Lend.d _ | exact Lend.zs _ | exact lend_whole rfl (by first | (simp; done) | (rw [List.length_map]; rfl)) | refine Lend.ptr rfl ?_ | refine Lend.fn ?_ | exact LendL.nil | refine LendL.cons ?_ ?_)) rfl rfl ?_)
                exact ax_nil ⟨rfl, by repeat (first | exact trivial | refine ⟨rfl, ?_⟩ | refine ⟨?_, ?_⟩)⟩
              refine ax_q (q_mov rfl) ?_
              refine ax_nil ?_
              refine cx_keep rfl rfl ?_
              refine cx_cond rfl (fun h5 => ?_) (fun h5 => ?_)
              · have h5 := (fun h => And.intro (dT (and_T h).1) (id (and_T h).2)) h5
                refine cx_seq ?_
                refine cx_ops ?_
                first | refine ax_call rfl (vc_pure0 (c_truth  ) hP rfl rfl ?_) | refine ax_call rfl (vc_lend0 (c_truth  ) hP (by repeat (first | exact lal_id _ rfl | exact LAL.nil | refine LAL.cons ?_ ?_ | exact la_id _ rfl | exact LA.lend (lend_whole rfl (by first | (simp; done) | (rw [List.length_map]; rfl))) | refine LA.agg ?_ | refine LA.fn ?_ | refine LA.lend ?_ | exact Lend.d _ | exact Lend.zs _ | exact lend_whole rfl (by first | (simp; done) | (rw [List.length_map]; rfl)) | refine Lend.ptr rfl ?_ | refine Lend.fn ?_ | exact LendL.nil | refine LendL.cons ?_ ?_)) rfl rfl ?_)
                refine ax_e (e_st rfl rfl rfl rfl rfl rfl rfl) ?_
                refine ax_q (q_mov rfl) ?_
                refine ax_nil ?_
                refine cx_keep rfl rfl ?_
                refine cx_ret (ret0 rfl rfl ?_)
                exact ⟨by rw [evalF_r hj h0 h1 h2 h3, if_neg (nAO h4), if_pos h5]; rfl, rfl⟩
              · have h5 := (fun h => (and_F h).imp dF id) h5
                refine cx_skip ?_
                refine cx_keep rfl rfl ?_
                refine cx_seq ?_
                refine cx_ops ?_
                first | refine ax_q (q_ldN rfl rfl rfl) ?_ | refine ax_q (q_loadN_ip rfl (Nat.le_refl _)) ?_ | refine ax_q (q_loadN_ip rfl (by decide)) ?_ | refine ax_q (q_loadN_rptr rfl rfl (by assumption) (by decide)) ?_ | refine ax_q (q_loadN_rptr rfl rfl (mapAt (by first | assumption | omega)) (by decide)) ?_
                first | refine ax_q (q_fadr_ptr rfl) ?_ | refine ax_q (q_fadr_rptr rfl) ?_ | refine ax_q (q_fadr_ip rfl) ?_
                first | refine ax_q (q_load1_ptr rfl rfl rfl) ?_ | refine ax_q (q_load1_ip rfl) ?_ | refine ax_q (q_load1_rptr rfl rfl rfl rfl) ?_ | refine ax_q (q_load1_rptr rfl rfl (by assumption) rfl) ?_ | refine ax_q (q_load1_rptr rfl rfl (mapAt (by first | assumption | omega)) rfl) ?_
                first | refine ax_q (q_ldN rfl rfl rfl) ?_ | refine ax_q (q_loadN_ip rfl (Nat.le_refl _)) ?_ | refine ax_q (q_loadN_ip rfl (by decide)) ?_ | refine ax_q (q_loadN_rptr rfl rfl (by assumption) (by decide)) ?_ | refine ax_q (q_loadN_rptr rfl rfl (mapAt (by first | assumption | omega)) (by decide)) ?_
                obtain ⟨hB0, hB1, hBt, hBs⟩ := hB h3
                have hvb := evalF_rv (r := w) hr (f := f) hB0 (by omega) (by omega) hBt
                first | refine ax_call rfl (vc_pure0 (ih (i := e.Nodes[j].B) ?_ ?_ ?_ ?_) hP rfl rfl ?_) | refine ax_call rfl (vc_lend0 (ih (i := e.Nodes[j].B) ?_ ?_ ?_ ?_) hP (by repeat (first | exact lal_id _ rfl | exact LAL.nil | refine LAL.cons ?_ ?_ | exact la_id _ rfl | exact LA.lend (lend_whole rfl (by first | (simp; done) | (rw [List.length_map]; rfl))) | refine LA.agg ?_ | refine LA.fn ?_ | refine LA.lend ?_ | exact Lend.d _ | exact Lend.zs _ | exact lend_whole rfl (by first | (simp; done) | (rw [List.length_map]; rfl)) | refine Lend.ptr rfl ?_ | refine Lend.fn ?_ | exact LendL.nil | refine LendL.cons ?_ ?_)) rfl rfl ?_)
                · first | assumption | omega | (simp; done) | (simp; omega)
                · first | assumption | omega | (simp; done) | (simp; omega)
                · first | assumption | omega | (simp; done) | (simp; omega)
                · first | assumption | omega | (simp; done) | (simp; omega)
                refine ax_q (q_mov rfl) ?_
                refine ax_q (q_ext rfl rfl) ?_
                refine ax_q (q_ext rfl rfl) ?_
                refine ax_e (e_alloc (by decide) rfl rfl) ?_
                refine ax_e (e_st rfl rfl rfl rfl rfl rfl rfl) ?_
                refine ax_q (q_mov rfl) ?_
                refine ax_nil ?_
                refine cx_keep rfl rfl ?_
                refine cx_seq ?_
                refine cx_seq ?_
                refine cx_ops ?_
                refine ax_q (q_mov rfl) ?_
                refine ax_q (q_ibin rfl rfl rfl) ?_
                refine ax_nil ?_
                refine cx_keep rfl rfl ?_
                refine cx_cond rfl (fun h6 => ?_) (fun h6 => ?_)
                · have h6 := nT h6
                  refine cx_seq ?_
                  refine cx_ops ?_
                  refine ax_q (q_build rfl) ?_
                  refine ax_q (q_mov rfl) ?_
                  refine ax_e (e_st rfl rfl rfl rfl rfl rfl rfl) ?_
                  refine ax_q (q_mov rfl) ?_
                  refine ax_nil ?_
                  refine cx_keep rfl rfl ?_
                  refine cx_ret (ret0 rfl rfl ?_)
                  exact ⟨by rw [evalF_r hj h0 h1 h2 h3, if_neg (nAO h4), if_neg (nAO h5), if_pos h6]; rfl, rfl⟩
                · have h6 := nF h6
                  refine cx_skip ?_
                  refine cx_keep rfl rfl ?_
                  refine cx_seq ?_
                  refine cx_ops ?_
                  first | refine ax_q (q_fadr_ptr rfl) ?_ | refine ax_q (q_fadr_rptr rfl) ?_ | refine ax_q (q_fadr_ip rfl) ?_
                  first | refine ax_q (q_load1_ptr rfl rfl rfl) ?_ | refine ax_q (q_load1_ip rfl) ?_ | refine ax_q (q_load1_rptr rfl rfl rfl rfl) ?_ | refine ax_q (q_load1_rptr rfl rfl (by assumption) rfl) ?_ | refine ax_q (q_load1_rptr rfl rfl (mapAt (by first | assumption | omega)) rfl) ?_
                  first | refine ax_q (q_ldN rfl rfl rfl) ?_ | refine ax_q (q_loadN_ip rfl (Nat.le_refl _)) ?_ | refine ax_q (q_loadN_ip rfl (by decide)) ?_ | refine ax_q (q_loadN_rptr rfl rfl (by assumption) (by decide)) ?_ | refine ax_q (q_loadN_rptr rfl rfl (mapAt (by first | assumption | omega)) (by decide)) ?_
                  first | refine ax_q (q_ldN rfl rfl rfl) ?_ | refine ax_q (q_loadN_ip rfl (Nat.le_refl _)) ?_ | refine ax_q (q_loadN_ip rfl (by decide)) ?_ | refine ax_q (q_loadN_rptr rfl rfl (by assumption) (by decide)) ?_ | refine ax_q (q_loadN_rptr rfl rfl (mapAt (by first | assumption | omega)) (by decide)) ?_
                  first | refine ax_call rfl (vc_pure0 (c_binary (a := (evalF e.Nodes w f e.Nodes[j].A).1) (b := (evalF e.Nodes w f e.Nodes[j].B).1) ?_ ?_) hP rfl rfl ?_) | refine ax_call rfl (vc_lend0 (c_binary (a := (evalF e.Nodes w f e.Nodes[j].A).1) (b := (evalF e.Nodes w f e.Nodes[j].B).1) ?_ ?_) hP (by repeat (first | exact lal_id _ rfl | exact LAL.nil | refine LAL.cons ?_ ?_ | exact la_id _ rfl | exact LA.lend (lend_whole rfl (by first | (simp; done) | (rw [List.length_map]; rfl))) | refine LA.agg ?_ | refine LA.fn ?_ | refine LA.lend ?_ | exact Lend.d _ | exact Lend.zs _ | exact lend_whole rfl (by first | (simp; done) | (rw [List.length_map]; rfl)) | refine Lend.ptr rfl ?_ | refine Lend.fn ?_ | exact LendL.nil | refine LendL.cons ?_ ?_)) rfl rfl ?_)
                  · first | assumption | omega | (simp; done) | (simp; omega)
                  · first | assumption | omega | (simp; done) | (simp; omega)
                  refine ax_q (q_ext rfl rfl) ?_
                  refine ax_q (q_ext rfl rfl) ?_
                  refine ax_e (e_st rfl rfl rfl rfl rfl rfl rfl) ?_
                  refine ax_q (q_mov rfl) ?_
                  refine ax_nil ?_
                  refine cx_keep rfl rfl ?_
                  refine cx_ret (ret0 rfl rfl ?_)
                  exact ⟨by rw [evalF_r hj h0 h1 h2 h3, if_neg (nAO h4), if_neg (nAO h5), if_neg (by omega)]; rfl, rfl⟩


/- loop.example/g00332/impl.evalExpr -/
def k_c_evalExpr : XCode :=
  .seq (.ops [.op (some 2) (.box (.t 0)),
     .op (some 3) (.box (.t 1)),
     .op (some 4) (.alloc [.int .i64 0, .int .i64 0, .str []]),
     .op (some 5) (.mov (.k (.int .i64 0)))])
  (.keep [2, 3, 4] (.seq (.ops [.op (some 6) (.loadN 1 (.t 2)),
     .op (some 7) (.fadr (.t 2) 0),
     .op (some 8) (.load1 (.t 7)),
     .op (some 9) (.lenS (.t 8)),
     .op (some 10) (.bin .sub (.t 9) (.k (.int .i64 1))),
     .op (some 11) (.loadN 7 (.t 3)),
     .call (some 12) 88 [.t 6, .t 10, .t 11],
     .op (some 13) (.ext (.t 12) 0),
     .op (some 14) (.ext (.t 12) 1),
     .op none (.store 3 (.t 4) (.t 13)),
     .op (some 5) (.mov (.t 14))])
  (.keep [4, 5] (.ret))))
theorem k_c_evalExpr_fits : fitsF Try.prog 66 ⟨15, k_c_evalExpr, [.cN 4 3, .t 5]⟩ = true := by kernel_rfl
theorem c_evalExpr {e : GExpr} {w : GRow} (he : exprOK e = true) (hr : RR w) (hw : e.Nodes.length ≤ 1048576) : Con Try.prog noMv 66 [e.av, w.av] [] (fun r h => r = .tup [(evalF e.Nodes w (e.Nodes.length + 1) ((e.Nodes.length : Int) - 1)).1.av, int (evalF e.Nodes w (e.Nodes.length + 1) ((e.Nodes.length : Int) - 1)).2] ∧ h = []) := by
  refine con_of2 k_c_evalExpr_fits rfl fun C hP hmv => ?_
  unfold k_c_evalExpr
  refine cx_seq ?_
  refine cx_ops ?_
  refine ax_e (e_box rfl rfl (by decide) rfl rfl rfl) ?_
  refine ax_e (e_box rfl rfl (by decide) rfl rfl rfl) ?_
  refine ax_e (e_alloc (by decide) rfl rfl) ?_
  refine ax_q (q_mov rfl) ?_
  refine ax_nil ?_
  refine cx_keep rfl rfl ?_
  refine cx_seq ?_
  refine cx_ops ?_
  first | refine ax_q (q_ldN rfl rfl rfl) ?_ | refine ax_q (q_loadN_ip rfl (Nat.le_refl _)) ?_ | refine ax_q (q_loadN_ip rfl (by decide)) ?_ | refine ax_q (q_loadN_rptr rfl rfl (by assumption) (by decide)) ?_ | refine ax_q (q_loadN_rptr rfl rfl (mapAt (by first | assumption | omega)) (by decide)) ?_
  first | refine ax_q (q_fadr_ptr rfl) ?_ | refine ax_q (q_fadr_rptr rfl) ?_ | refine ax_q (q_fadr_ip rfl) ?_
  first | refine ax_q (q_load1_ptr rfl rfl rfl) ?_ | refine ax_q (q_load1_ip rfl) ?_ | refine ax_q (q_load1_rptr rfl rfl rfl rfl) ?_ | refine ax_q (q_load1_rptr rfl rfl (by assumption) rfl) ?_ | refine ax_q (q_load1_rptr rfl rfl (mapAt (by first | assumption | omega)) rfl) ?_
  first | refine ax_q (q_lenS_map rfl) ?_ | refine ax_q (q_lenS_osl rfl) ?_ | refine ax_q (q_lenS_zs rfl) ?_ | refine ax_q (q_lenS rfl) ?_
  refine ax_q (q_sub rfl rfl (by omega)) ?_
  first | refine ax_q (q_ldN rfl rfl rfl) ?_ | refine ax_q (q_loadN_ip rfl (Nat.le_refl _)) ?_ | refine ax_q (q_loadN_ip rfl (by decide)) ?_ | refine ax_q (q_loadN_rptr rfl rfl (by assumption) (by decide)) ?_ | refine ax_q (q_loadN_rptr rfl rfl (mapAt (by first | assumption | omega)) (by decide)) ?_
  obtain ⟨hz0, hz1, hz2, hz3, _⟩ := comp_hyps he
  first | refine ax_call rfl (vc_pure0 (c_eval (f := e.Nodes.length + 1) ?_ ?_ ?_ ?_ ?_ ?_) hP rfl rfl ?_) | refine ax_call rfl (vc_lend0 (c_eval (f := e.Nodes.length + 1) ?_ ?_ ?_ ?_ ?_ ?_) hP (by repeat (first | exact lal_id _ rfl | exact LAL.nil | refine LAL.cons ?_ ?_ | exact la_id _ rfl | exact LA.lend (lend_whole rfl (by first | (simp; done) | (rw [List.length_map]; rfl))) | refine LA.agg ?_ | refine LA.fn ?_ | refine LA.lend ?_ | exact Lend.d _ | exact Lend.zs _ | exact lend_whole rfl (by first | (simp; done) | (rw [List.length_map]; rfl)) | refine Lend.ptr rfl ?_ | refine Lend.fn ?_ | exact LendL.nil | refine LendL.cons ?_ ?_)) rfl rfl ?_)
  · first | assumption | omega | (simp; done) | (simp; omega)
  · first | assumption | omega | (simp; done) | (simp; omega)
  · first | assumption | omega | (simp; done) | (simp; omega)
  · first | assumption | omega | (simp; done) | (simp; omega)
  · first | assumption | omega | (simp; done) | (simp; omega)
  · first | assumption | omega | (simp; done) | (simp; omega)
  refine ax_q (q_ext rfl rfl) ?_
  refine ax_q (q_ext rfl rfl) ?_
  refine ax_e (e_st rfl rfl rfl rfl rfl rfl rfl) ?_
  refine ax_q (q_mov rfl) ?_
  refine ax_nil ?_
  refine cx_keep rfl rfl ?_
  refine cx_ret (ret0 rfl rfl ?_)
  exact ⟨rfl, rfl⟩


/- loop.example/g00332/impl.EvalExpr -/
def k_c_EvalExpr : XCode :=
  .seq (.ops [.op (some 2) (.box (.t 0)),
     .op (some 3) (.box (.t 1)),
     .op (some 4) (.alloc [.int .i64 0, .int .i64 0, .str []]),
     .op (some 5) (.mov (.k (.int .i64 0)))])
  (.keep [2, 3, 4] (.seq (.seq (.ops [.op (some 6) (.loadN 1 (.t 2)),
      .call (some 7) 50 [.t 6],
      .op (some 8) (.not (.t 7)),
      .op (some 9) (.mov (.t 8)),
      .andor 13 false 3 9 [.op (some 10) (.loadN 7 (.t 3)), .call (some 11) 53 [.t 10], .op (some 12) (.not (.t 11))] (.t 12)])
   (.keep [2, 3, 4, 13] (.cond (.t 13)
    (.seq (.ops [.op (some 14) (.build [.int .i64 0, .int .i64 0, .str []] []),
        .op none (.store 3 (.t 4) (.t 14)),
        .op (some 5) (.mov (.k (.int .i64 1)))])
     (.keep [4, 5] (.ret)))
    (.skip))))
  (.keep [2, 3, 4] (.seq (.ops [.op (some 15) (.loadN 1 (.t 2)),
     .op (some 16) (.loadN 7 (.t 3)),
     .call (some 17) 66 [.t 15, .t 16],
     .op (some 18) (.ext (.t 17) 0),
     .op (some 19) (.ext (.t 17) 1),
     .op none (.store 3 (.t 4) (.t 18)),
     .op (some 5) (.mov (.t 19))])
  (.keep [4, 5] (.ret))))))
theorem k_c_EvalExpr_fits : fitsF Try.prog 33 ⟨20, k_c_EvalExpr, [.cN 4 3, .t 5]⟩ = true := by kernel_rfl
theorem c_EvalExpr {e : GExpr} {w : GRow} (hw : e.Nodes.length ≤ 1048576) (hv : ∀ x ∈ e.Nodes, x.V.T.length ≤ 1048576) (hr1 : w.N.T.length ≤ 1048576) (hr2 : w.Name.T.length ≤ 1048576) : Con Try.prog noMv 33 [e.av, w.av] [] (fun r h => r = .tup [(evF e w).1.av, int (evF e w).2] ∧ h = []) := by
  refine con_of2 k_c_EvalExpr_fits rfl fun C hP hmv => ?_
  unfold k_c_EvalExpr
  refine cx_seq ?_
  refine cx_ops ?_
  refine ax_e (e_box rfl rfl (by decide) rfl rfl rfl) ?_
  refine ax_e (e_box rfl rfl (by decide) rfl rfl rfl) ?_
  refine ax_e (e_alloc (by decide) rfl rfl) ?_
  refine ax_q (q_mov rfl) ?_
  refine ax_nil ?_
  refine cx_keep rfl rfl ?_
  refine cx_seq ?_
  refine cx_seq ?_
  refine cx_ops ?_
  first | refine ax_q (q_ldN rfl rfl rfl) ?_ | refine ax_q (q_loadN_ip rfl (Nat.le_refl _)) ?_ | refine ax_q (q_loadN_ip rfl (by decide)) ?_ | refine ax_q (q_loadN_rptr rfl rfl (by assumption) (by decide)) ?_ | refine ax_q (q_loadN_rptr rfl rfl (mapAt (by first | assumption | omega)) (by decide)) ?_
  first | refine ax_call rfl (vc_pure0 (c_ExprOK (e := e) ?_ ?_) hP rfl rfl ?_) | refine ax_call rfl (vc_lend0 (c_ExprOK (e := e) ?_ ?_) hP (by repeat (first | exact lal_id _ rfl | exact LAL.nil | refine LAL.cons ?_ ?_ | exact la_id _ rfl | exact LA.lend (lend_whole rfl (by first | (simp; done) | (rw [List.length_map]; rfl))) | refine LA.agg ?_ | refine LA.fn ?_ | refine LA.lend ?_ | exact Lend.d _ | exact Lend.zs _ | exact lend_whole rfl (by first | (simp; done) | (rw [List.length_map]; rfl)) | refine Lend.ptr rfl ?_ | refine Lend.fn ?_ | exact LendL.nil | refine LendL.cons ?_ ?_)) rfl rfl ?_)
  · first | assumption | omega | (simp; done) | (simp; omega)
  · first | assumption | omega | (simp; done) | (simp; omega)
  refine ax_q (q_not rfl) ?_
  refine ax_q (q_mov rfl) ?_
  apply ax_or rfl rfl
  · intro g
    have g := bF g
    first | refine ax_q (q_ldN rfl rfl rfl) ?_ | refine ax_q (q_loadN_ip rfl (Nat.le_refl _)) ?_ | refine ax_q (q_loadN_ip rfl (by decide)) ?_ | refine ax_q (q_loadN_rptr rfl rfl (by assumption) (by decide)) ?_ | refine ax_q (q_loadN_rptr rfl rfl (mapAt (by first | assumption | omega)) (by decide)) ?_
    first | refine ax_call rfl (vc_pure0 (c_rowOK (a := w) ?_ ?_) hP rfl rfl ?_) | refine ax_call rfl (vc_lend0 (c_rowOK (a := w) ?_ ?_) hP (by repeat (first | exact lal_id _ rfl | exact LAL.nil | refine LAL.cons ?_ ?_ | exact la_id _ rfl | exact LA.lend (lend_whole rfl (by first | (simp; done) | (rw [List.length_map]; rfl))) | refine LA.agg ?_ | refine LA.fn ?_ | refine LA.lend ?_ | exact Lend.d _ | exact Lend.zs _ | exact lend_whole rfl (by first | (simp; done) | (rw [List.length_map]; rfl)) | refine Lend.ptr rfl ?_ | refine Lend.fn ?_ | exact LendL.nil | refine LendL.cons ?_ ?_)) rfl rfl ?_)
    · first | assumption | omega | (simp; done) | (simp; omega)
    · first | assumption | omega | (simp; done) | (simp; omega)
    refine ax_q (q_not rfl) ?_
    exact ax_nil ⟨rfl, by repeat (first | exact trivial | refine ⟨rfl, ?_⟩ | refine ⟨?_, ?_⟩)⟩
  refine ax_nil ?_
  refine cx_keep rfl rfl ?_
  refine cx_cond rfl (fun h0 => ?_) (fun h0 => ?_)
  · have h0 := (fun h => (or_T h).imp bT bT) h0
    refine cx_seq ?_
    refine cx_ops ?_
    refine ax_q (q_build rfl) ?_
    refine ax_e (e_st rfl rfl rfl rfl rfl rfl rfl) ?_
    refine ax_q (q_mov rfl) ?_
    refine ax_nil ?_
    refine cx_keep rfl rfl ?_
    refine cx_ret (ret0 rfl rfl ?_)
    exact ⟨by rw [evF_0 h0]; rfl, rfl⟩
  · have h0 := (fun h => And.intro (bF (or_F h).1) (bF (or_F h).2)) h0
    have hrr := RR.of h0.2
    refine cx_skip ?_
    refine cx_keep rfl rfl ?_
    refine cx_seq ?_
    refine cx_ops ?_
    first | refine ax_q (q_ldN rfl rfl rfl) ?_ | refine ax_q (q_loadN_ip rfl (Nat.le_refl _)) ?_ | refine ax_q (q_loadN_ip rfl (by decide)) ?_ | refine ax_q (q_loadN_rptr rfl rfl (by assumption) (by decide)) ?_ | refine ax_q (q_loadN_rptr rfl rfl (mapAt (by first | assumption | omega)) (by decide)) ?_
    first | refine ax_q (q_ldN rfl rfl rfl) ?_ | refine ax_q (q_loadN_ip rfl (Nat.le_refl _)) ?_ | refine ax_q (q_loadN_ip rfl (by decide)) ?_ | refine ax_q (q_loadN_rptr rfl rfl (by assumption) (by decide)) ?_ | refine ax_q (q_loadN_rptr rfl rfl (mapAt (by first | assumption | omega)) (by decide)) ?_
    first | refine ax_call rfl (vc_pure0 (c_evalExpr (e := e) (w := w) ?_ ?_ ?_) hP rfl rfl ?_) | refine ax_call rfl (vc_lend0 (c_evalExpr (e := e) (w := w) ?_ ?_ ?_) hP (by repeat (first | exact lal_id _ rfl | exact LAL.nil | refine LAL.cons ?_ ?_ | exact la_id _ rfl | exact LA.lend (lend_whole rfl (by first | (simp; done) | (rw [List.length_map]; rfl))) | refine LA.agg ?_ | refine LA.fn ?_ | refine LA.lend ?_ | exact Lend.d _ | exact Lend.zs _ | exact lend_whole rfl (by first | (simp; done) | (rw [List.length_map]; rfl)) | refine Lend.ptr rfl ?_ | refine Lend.fn ?_ | exact LendL.nil | refine LendL.cons ?_ ?_)) rfl rfl ?_)
    · exact h0.1
    · first | assumption | omega | (simp; done) | (simp; omega)
    · first | assumption | omega | (simp; done) | (simp; omega)
    refine ax_q (q_ext rfl rfl) ?_
    refine ax_q (q_ext rfl rfl) ?_
    refine ax_e (e_st rfl rfl rfl rfl rfl rfl rfl) ?_
    refine ax_q (q_mov rfl) ?_
    refine ax_nil ?_
    refine cx_keep rfl rfl ?_
    refine cx_ret (ret0 rfl rfl ?_)
    exact ⟨by rw [evF_1 h0.1 h0.2]; rfl, rfl⟩

end Go.Proofs.Ytalnddcijlkklaa
