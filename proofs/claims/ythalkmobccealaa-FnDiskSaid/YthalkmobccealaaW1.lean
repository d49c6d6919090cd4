/- The walks: what each function computes, as a contract without a world (part 1). -/
import Derived.Test.YthalkmobccealaaProg
import Derived.Test.YthalkmobccealaaW0
namespace Go.Proofs.Ythalkmobccealaa
open Go Go.AM
set_option maxRecDepth 10000
set_option linter.unusedVariables false
set_option linter.unusedSimpArgs false
/- cmp.Less[int] -/
def k_c_LessI : XCode :=
 .seq (.ops [.op (some 4) (.mov (.k (.bool false)))])
 (.keep [0, 1] (.seq (.ops [.op (some 5) (.mov (.t 0)),
   .call (some 6) 112 [.t 5],
   .op (some 7) (.mov (.t 6)),
   .andor 11 true 2 7 [.op (some 8) (.mov (.t 1)), .call (some 9) 112 [.t 8], .op (some 10) (.not (.t 9))] (.t 10),
   .op (some 12) (.mov (.t 11)),
   .andor 16 false 7 12 [.op (some 13) (.mov (.t 0)), .op (some 14) (.mov (.t 1)), .op (some 15) (.bin .lss (.t 13) (.t 14))] (.t 15),
   .op (some 4) (.mov (.t 16))])
 (.keep [4] (.ret))))
theorem k_c_LessI_fits : fitsF Try.prog 102 ⟨17, k_c_LessI, [.t 4]⟩ = true := by kernel_rfl
theorem c_LessI {a b : Int} : Con Try.prog noMv 102 [int a, int b] [] (fun r h => r = bool (decide (a < b)) ∧ h = []) := by
 refine con_of2 k_c_LessI_fits rfl fun C hP hmv => ?_
 unfold k_c_LessI
 refine cx_seq ?_
 refine cx_ops ?_
 refine ax_q (q_mov rfl) ?_
 refine ax_nil ?_
 refine cx_keep rfl rfl ?_
 refine cx_seq ?_
 refine cx_ops ?_
 refine ax_q (q_mov rfl) ?_
 first | refine ax_call rfl (vc_pure0 (c_isNaNI  ) hP rfl rfl ?_) | refine ax_call rfl (vc_lend0 (c_isNaNI  ) hP (by repeat (first | exact lal_id _ rfl | exact LAL.nil | refine LAL.cons ?_ ?_ | exact la_id _ rfl | exact LA.lend (lend_whole rfl (by first | (simp; done) | (rw [List.length_map]; rfl))) | refine LA.agg ?_ | refine LA.fn ?_ | refine LA.lend ?_ | exact Lend.d _ | exact Lend.zs _ | exact lend_whole rfl (by first | (simp; done) | (rw [List.length_map]; rfl)) | refine Lend.ptr rfl ?_ | refine Lend.fn ?_ | exact LendL.nil | refine LendL.cons ?_ ?_)) rfl rfl ?_)
 refine ax_q (q_mov rfl) ?_
 apply ax_and rfl rfl
 ·
  intro g
  refine ax_q (q_mov rfl) ?_
  first | refine ax_call rfl (vc_pure0 (c_isNaNI  ) hP rfl rfl ?_) | refine ax_call rfl (vc_lend0 (c_isNaNI  ) hP (by repeat (first | exact lal_id _ rfl | exact LAL.nil | refine LAL.cons ?_ ?_ | exact la_id _ rfl | exact LA.lend (lend_whole rfl (by first | (simp; done) | (rw [List.length_map]; rfl))) | refine LA.agg ?_ | refine LA.fn ?_ | refine LA.lend ?_ | exact Lend.d _ | exact Lend.zs _ | exact lend_whole rfl (by first | (simp; done) | (rw [List.length_map]; rfl)) | refine Lend.ptr rfl ?_ | refine Lend.fn ?_ | exact LendL.nil | refine LendL.cons ?_ ?_)) rfl rfl ?_)
  refine ax_q (q_not rfl) ?_
  exact ax_nil ⟨rfl, by repeat (first | exact trivial | refine ⟨rfl, ?_⟩ | refine ⟨?_, ?_⟩)⟩
 refine ax_q (q_mov rfl) ?_
 apply ax_or rfl rfl
 ·
  intro g
  have g := (fun h => (and_F h).imp id bF) g
  refine ax_q (q_mov rfl) ?_
  refine ax_q (q_mov rfl) ?_
  refine ax_q (q_ibin rfl rfl rfl) ?_
  exact ax_nil ⟨rfl, by repeat (first | exact trivial | refine ⟨rfl, ?_⟩ | refine ⟨?_, ?_⟩)⟩
 refine ax_q (q_mov rfl) ?_
 refine ax_nil ?_
 refine cx_keep rfl rfl ?_
 refine cx_ret (ret0 rfl rfl ?_)
 exact ⟨by simp; rfl, rfl⟩


/- slices.insertionSortOrdered[int] -/
def k_c_insI : XCode :=
 .seq (.ops [.op (some 8) (.mov (.t 1)),
   .op (some 9) (.bin .add (.t 8) (.k (.int .i64 1))),
   .op (some 6) (.mov (.t 9))])
 (.keep [0, 1, 2, 6] (.block 0 (.loop (.seq (.seq (.ops [.op (some 10) (.mov (.t 6)),
    .op (some 11) (.mov (.t 2)),
    .op (some 12) (.bin .lss (.t 10) (.t 11))])
   (.keep [0, 1, 2, 6, 12] (.cond (.t 12)
   (.skip)
   (.exit 0))))
  (.keep [0, 1, 2, 6] (.seq (.block 1 (.seq (.ops [.op (some 15) (.mov (.t 6)),
     .op (some 7) (.mov (.t 15))])
   (.keep [0, 1, 2, 6, 7] (.block 2 (.loop (.seq (.seq (.draw [.op (some 16) (.mov (.t 7)),
      .op (some 17) (.mov (.t 1)),
      .op (some 18) (.bin .gtr (.t 16) (.t 17)),
      .op (some 19) (.mov (.t 18)),
      .andor 30 true 3 19 [.op (some 20) (.mov (.t 0)), .op (some 21) (.mov (.t 7)), .op (some 22) (.iadr 1 (.t 20) (.t 21)), .op (some 23) (.load1 (.t 22)), .op (some 24) (.mov (.t 0)), .op (some 25) (.mov (.t 7)), .op (some 26) (.bin .sub (.t 25) (.k (.int .i64 1))), .op (some 27) (.iadr 1 (.t 24) (.t 26)), .op (some 28) (.load1 (.t 27)), .call (some 29) 102 [.t 23, .t 28]] (.t 29)])
     (.keep [0, 1, 2, 6, 7, 30] (.cond (.t 30)
     (.skip)
     (.exit 2))))
    (.keep [0, 1, 2, 6, 7] (.seq (.block 3 (.drawE [[], [], [], [], [3], [], [], [6], [5, 6, 7], [5, 6, 7, 8], [], [], [10, 11], [10, 11, 12], [0, 1, 5, 6, 7, 8, 9, 10, 11, 12, 13], [0, 1, 5, 6, 7, 8, 9, 10, 11, 12, 13, 14], [0, 1, 2, 3, 4, 5, 6, 7, 8, 9, 10, 11, 12, 13, 14, 15], [0, 1, 2, 3, 4, 5, 6, 7, 8, 9, 10, 11, 12, 13, 14, 15, 16]] [.op (some 33) (.mov (.t 0)),
      .op (some 34) (.mov (.t 7)),
      .op (some 35) (.mov (.t 0)),
      .op (some 36) (.mov (.t 7)),
      .op (some 37) (.bin .sub (.t 36) (.k (.int .i64 1))),
      .op (some 38) (.mov (.t 0)),
      .op (some 39) (.mov (.t 7)),
      .op (some 40) (.bin .sub (.t 39) (.k (.int .i64 1))),
      .op (some 41) (.iadr 1 (.t 38) (.t 40)),
      .op (some 42) (.load1 (.t 41)),
      .op (some 43) (.mov (.t 0)),
      .op (some 44) (.mov (.t 7)),
      .op (some 45) (.iadr 1 (.t 43) (.t 44)),
      .op (some 46) (.load1 (.t 45)),
      .op (some 47) (.iadr 1 (.t 33) (.t 34)),
      .op none (.store 1 (.t 47) (.t 42))]
      [.op (some 48) (.iadr 1 (.t 35) (.t 37)),
      .op none (.store 1 (.t 48) (.t 46))]))
    (.keep [0, 1, 2, 6, 7] (.ops [.op (some 31) (.mov (.t 7)),
     .op (some 32) (.bin .sub (.t 31) (.k (.int .i64 1))),
     .op (some 7) (.mov (.t 32))]))))))))))
  (.keep [0, 1, 2, 6] (.ops [.op (some 13) (.mov (.t 6)),
   .op (some 14) (.bin .add (.t 13) (.k (.int .i64 1))),
   .op (some 6) (.mov (.t 14))]))))))))
theorem k_c_insI_fits : fitsF Try.prog 96 ⟨49, k_c_insI, []⟩ = true := by kernel_rfl
set_option maxHeartbeats 2000000 in
theorem c_insI {xs : List Int} (hl : xs.length ≤ 12) : Con Try.prog noMv 96 [.osl 1000 1 0 xs.length, int 0, int xs.length] [(1000, .rows 1 ((xs).map intRow))] (fun r h => ∃ l : List Int, l.length = xs.length ∧ r = .tup [] ∧ h = [(1000, .rows 1 ((l).map intRow))]) := by
 refine con_of2 k_c_insI_fits rfl fun C hP hmv => ?_
 unfold k_c_insI
 refine cx_seq ?_
 refine cx_ops ?_
 refine ax_q (q_mov rfl) ?_
 refine ax_q (q_add rfl rfl (by omega)) ?_
 refine ax_q (q_mov rfl) ?_
 refine ax_nil ?_
 refine cx_keep rfl rfl ?_
 refine cx_block ?_
 refine cx_loopU (fun n (p : Nat × List Int) => 1 ≤ p.1 ∧ p.1 ≤ xs.length + 1 ∧ n = xs.length + 1 - p.1 ∧ p.2.length = xs.length) (fun p => [(6, int p.1)]) (fun p => [(1000, .rows 1 ((p.2).map intRow))]) ⟨_, (1, xs), ⟨Nat.le_refl _, by simp only; omega, rfl, rfl⟩, by repeat (first | exact trivial | refine ⟨rfl, ?_⟩ | refine ⟨?_, ?_⟩)⟩ ?_
 rintro n ⟨i, l⟩ ⟨hi1, hi, rfl, hll⟩
 simp only at hi1 hi hll ⊢
 refine cx_seq ?_
 refine cx_seq ?_
 refine cx_ops ?_
 refine ax_q (q_mov rfl) ?_
 refine ax_q (q_mov rfl) ?_
 refine ax_q (q_ibin rfl rfl rfl) ?_
 refine ax_nil ?_
 refine cx_keep rfl rfl ?_
 refine cx_cond rfl (fun h0 => ?_) (fun h0 => ?_)
 ·
  have h0 := dT h0
  have h0x : i < xs.length := by omega
  refine cx_skip ?_
  refine cx_keep rfl rfl ?_
  refine cx_seq ?_
  refine cx_block ?_
  refine cx_seq ?_
  refine cx_ops ?_
  refine ax_q (q_mov rfl) ?_
  refine ax_q (q_mov rfl) ?_
  refine ax_nil ?_
  refine cx_keep rfl rfl ?_
  refine cx_block ?_
  refine cx_loopU (fun n (p : Nat × List Int) => p.1 ≤ i ∧ p.1 = n ∧ p.2.length = xs.length) (fun p => [(7, int p.1)]) (fun p => [(1000, .rows 1 ((p.2).map intRow))]) ⟨_, (i, l), ⟨Nat.le_refl _, rfl, hll⟩, by repeat (first | exact trivial | refine ⟨rfl, ?_⟩ | refine ⟨?_, ?_⟩)⟩ ?_
  rintro n ⟨j, l⟩ ⟨hj, rfl, hll⟩
  simp only at hj hll ⊢
  refine cx_seq ?_
  refine cx_seq ?_
  refine cx_draw ?_
  refine ax_q (q_mov rfl) ?_
  refine ax_q (q_mov rfl) ?_
  refine ax_q (q_ibin rfl rfl rfl) ?_
  refine ax_q (q_mov rfl) ?_
  apply ax_and rfl rfl
  ·
   intro g
   have g := dT g
   refine ax_q (q_mov rfl) ?_
   refine ax_q (q_mov rfl) ?_
   refine ax_q (q_ixo rfl rfl (by omega)) ?_
   refine ax_q (q_load1_rptr (r := intRow (l.getD j 0)) rfl rfl (intD (by omega)) rfl) ?_
   refine ax_q (q_mov rfl) ?_
   refine ax_q (q_mov rfl) ?_
   refine ax_qe (r' := int ((j - 1 : Nat) : Int)) (q_ibin rfl rfl rfl) (by rw [wi (by omega) (by omega)]; exact congrArg AM.int (by omega)) ?_
   refine ax_q (q_ixo rfl rfl (by omega)) ?_
   refine ax_q (q_load1_rptr (r := intRow (l.getD (j - 1) 0)) rfl rfl (intD (by omega)) rfl) ?_
   first | refine ax_callq rfl (c_LessI  ) hP (lal_id _ rfl) rfl ?_ | refine ax_callq rfl (c_LessI  ) hP (by repeat (first | exact lal_id _ rfl | exact LAL.nil | refine LAL.cons ?_ ?_ | exact la_id _ rfl | exact LA.lend (lend_whole rfl (by first | (simp; done) | (rw [List.length_map]; rfl))) | refine LA.agg ?_ | refine LA.fn ?_ | refine LA.lend ?_ | exact Lend.d _ | exact Lend.zs _ | exact lend_whole rfl (by first | (simp; done) | (rw [List.length_map]; rfl)) | refine Lend.ptr rfl ?_ | refine Lend.fn ?_ | exact LendL.nil | refine LendL.cons ?_ ?_)) rfl ?_
   exact ax_nil ⟨rfl, by repeat (first | exact trivial | refine ⟨rfl, ?_⟩ | refine ⟨?_, ?_⟩)⟩
  refine ax_nil ?_
  refine cx_keep rfl rfl ?_
  refine cx_cond rfl (fun h1 => ?_) (fun h1 => ?_)
  ·
   rw [Bool.and_eq_true] at h1
   have hj0 : 0 < j := by have := of_decide_eq_true h1.1; omega
   refine cx_skip ?_
   refine cx_keep rfl rfl ?_
   refine cx_seq ?_
   refine cx_block ?_
   refine cx_drawL 15 5000 (fun _ => false) (fun _ => true) [] ([(1000, .rows 1 (((l.set j (l.getD (j - 1) 0))).map intRow))]) [[0], [7], [0], [7], [36], [0], [7], [39], [38, 40], [41], [0], [7], [43, 44], [45], [33, 34], [42, 47]] [[], [], [1000], [1000], [1000], [], [], [], [], [], [], [], [], [], [], [1000]] rfl ?_
   first | refine ⟨_, .inr ⟨rfl, _, rfl, .inl rfl, loc_q (q_mov rfl)⟩, ?_⟩
   first | refine ⟨_, .inr ⟨rfl, _, rfl, .inl rfl, loc_q (q_mov rfl)⟩, ?_⟩
   first | refine ⟨_, .inr ⟨rfl, _, rfl, .inr ⟨rfl, rfl, .inr rfl, rfl, rfl⟩, loc_q (q_mov rfl)⟩, ?_⟩
   first | refine ⟨_, .inr ⟨rfl, _, rfl, .inr ⟨rfl, rfl, .inr rfl, rfl, rfl⟩, loc_q (q_mov rfl)⟩, ?_⟩
   first | refine ⟨_, .inr ⟨rfl, _, rfl, .inr ⟨rfl, rfl, .inr rfl, rfl, rfl⟩, loc_qe (r' := int ((j - 1 : Nat) : Int)) (q_ibin rfl rfl rfl) (by rw [wi (by omega) (by omega)]; exact congrArg AM.int (by omega))⟩, ?_⟩
   first | refine ⟨_, .inr ⟨rfl, _, rfl, .inl rfl, loc_q (q_mov rfl)⟩, ?_⟩
   first | refine ⟨_, .inr ⟨rfl, _, rfl, .inl rfl, loc_q (q_mov rfl)⟩, ?_⟩
   first | refine ⟨_, .inr ⟨rfl, _, rfl, .inl rfl, loc_qe (r' := int ((j - 1 : Nat) : Int)) (q_ibin rfl rfl rfl) (by rw [wi (by omega) (by omega)]; exact congrArg AM.int (by omega))⟩, ?_⟩
   first | refine ⟨_, .inr ⟨rfl, _, rfl, .inl rfl, loc_q (q_ixo rfl rfl (by omega))⟩, ?_⟩
   first | refine ⟨_, .inr ⟨rfl, _, rfl, .inl rfl, loc_q (q_load1_rptr (r := intRow (l.getD (j - 1) 0)) rfl rfl (intD (by omega)) rfl)⟩, ?_⟩
   first | refine ⟨_, .inr ⟨rfl, _, rfl, .inl rfl, loc_q (q_mov rfl)⟩, ?_⟩
   first | refine ⟨_, .inr ⟨rfl, _, rfl, .inl rfl, loc_q (q_mov rfl)⟩, ?_⟩
   first | refine ⟨_, .inr ⟨rfl, _, rfl, .inl rfl, loc_q (q_ixo rfl rfl (by omega))⟩, ?_⟩
   first | refine ⟨_, .inr ⟨rfl, _, rfl, .inl rfl, loc_q (q_load1_rptr (r := intRow (l.getD j 0)) rfl rfl (intD (by omega)) rfl)⟩, ?_⟩
   first | refine ⟨_, .inr ⟨rfl, _, rfl, .inl rfl, loc_q (q_ixo rfl rfl (by omega))⟩, ?_⟩
   refine ⟨⟨5000, .dead, []⟩, .inl ⟨rfl, rfl, rfl, locl_str (row := intRow (l.getD j 0)) (q := intRow (l.getD (j - 1) 0)) rfl rfl rfl rfl rfl rfl (intD (by omega)) rfl rfl List.map_set.symm⟩, ?_⟩
   refine ⟨rfl, ?_⟩
   refine ax_q (q_ixo rfl rfl (by omega)) ?_
   refine ax_e (e_str (rs' := ((l.set j (l.getD (j - 1) 0)).set (j - 1) (l.getD j 0)).map intRow) (row := intRow ((l.set j (l.getD (j - 1) 0)).getD (j - 1) 0)) (q := intRow (l.getD j 0)) rfl rfl rfl rfl rfl rfl (intD (by rw [List.length_set]; omega)) rfl rfl List.map_set.symm) ?_
   refine ax_nil ?_
   refine cx_keep rfl rfl ?_
   refine cx_ops ?_
   refine ax_q (q_mov rfl) ?_
   refine ax_qe (r' := int ((j - 1 : Nat) : Int)) (q_ibin rfl rfl rfl) (by rw [wi (by omega) (by omega)]; exact congrArg AM.int (by omega)) ?_
   refine ax_q (q_mov rfl) ?_
   refine ax_nil ?_
   exact ⟨_, (j - 1, ((l.set j (l.getD (j - 1) 0)).set (j - 1) (l.getD j 0))), by simp only; omega, ⟨by simp only; omega, rfl, by simp only [List.length_set]; exact hll⟩, by repeat (first | exact trivial | refine ⟨rfl, ?_⟩ | refine ⟨?_, ?_⟩)⟩
  ·
   skip
   refine cx_exit rfl ?_
   refine cx_keep rfl rfl ?_
   refine cx_ops ?_
   refine ax_q (q_mov rfl) ?_
   refine ax_qe (r' := int ((i + 1 : Nat) : Int)) (q_ibin rfl rfl rfl) (by rw [wi (by omega) (by omega)]; rfl) ?_
   refine ax_q (q_mov rfl) ?_
   refine ax_nil ?_
   exact ⟨_, (i + 1, l), by simp only; omega, ⟨by simp only; omega, by simp only; omega, rfl, hll⟩, by repeat (first | exact trivial | refine ⟨rfl, ?_⟩ | refine ⟨?_, ?_⟩)⟩
 ·
  have h0 := dF h0
  refine cx_exit rfl ?_
  refine retN id [1000] rfl rfl rfl rfl rfl ?_
  exact ⟨l, hll, rfl, rfl⟩


/- math/bits.Len64 -/
def k_c_Len64 : XCode :=
 .seq (.ops [.op (some 2) (.mov (.k (.int .i64 0)))])
 (.keep [0, 2] (.seq (.seq (.ops [.op (some 3) (.mov (.t 0)),
   .op (some 4) (.bin .geq (.t 3) (.k (.int .u64 4294967296)))])
  (.keep [0, 2, 4] (.cond (.t 4)
  (.seq (.ops [.op (some 5) (.mov (.t 0)),
    .op (some 6) (.bin .shr (.t 5) (.k (.int .u64 32))),
    .op (some 0) (.mov (.t 6))])
   (.keep [0] (.ops [.op (some 2) (.mov (.k (.int .i64 32)))])))
  (.skip))))
 (.keep [0, 2] (.seq (.seq (.ops [.op (some 7) (.mov (.t 0)),
   .op (some 8) (.bin .geq (.t 7) (.k (.int .u64 65536)))])
  (.keep [0, 2, 8] (.cond (.t 8)
  (.seq (.ops [.op (some 9) (.mov (.t 0)),
    .op (some 10) (.bin .shr (.t 9) (.k (.int .u64 16))),
    .op (some 0) (.mov (.t 10))])
   (.keep [0, 2] (.ops [.op (some 11) (.mov (.t 2)),
    .op (some 12) (.bin .add (.t 11) (.k (.int .i64 16))),
    .op (some 2) (.mov (.t 12))])))
  (.skip))))
 (.keep [0, 2] (.seq (.seq (.ops [.op (some 13) (.mov (.t 0)),
   .op (some 14) (.bin .geq (.t 13) (.k (.int .u64 256)))])
  (.keep [0, 2, 14] (.cond (.t 14)
  (.seq (.ops [.op (some 15) (.mov (.t 0)),
    .op (some 16) (.bin .shr (.t 15) (.k (.int .u64 8))),
    .op (some 0) (.mov (.t 16))])
   (.keep [0, 2] (.ops [.op (some 17) (.mov (.t 2)),
    .op (some 18) (.bin .add (.t 17) (.k (.int .i64 8))),
    .op (some 2) (.mov (.t 18))])))
  (.skip))))
 (.keep [0, 2] (.seq (.ops [.op (some 19) (.mov (.t 2)),
   .op (some 20) (.mov (.t 0)),
   .op (some 21) (.conv .u8 (.t 20)),
   .op (some 22) (.idxS (.k (.str [0, 1, 2, 2, 3, 3, 3, 3, 4, 4, 4, 4, 4, 4, 4, 4, 5, 5, 5, 5, 5, 5, 5, 5, 5, 5, 5, 5, 5, 5, 5, 5, 6, 6, 6, 6, 6, 6, 6, 6, 6, 6, 6, 6, 6, 6, 6, 6, 6, 6, 6, 6, 6, 6, 6, 6, 6, 6, 6, 6, 6, 6, 6, 6, 7, 7, 7, 7, 7, 7, 7, 7, 7, 7, 7, 7, 7, 7, 7, 7, 7, 7, 7, 7, 7, 7, 7, 7, 7, 7, 7, 7, 7, 7, 7, 7, 7, 7, 7, 7, 7, 7, 7, 7, 7, 7, 7, 7, 7, 7, 7, 7, 7, 7, 7, 7, 7, 7, 7, 7, 7, 7, 7, 7, 7, 7, 7, 7, 8, 8, 8, 8, 8, 8, 8, 8, 8, 8, 8, 8, 8, 8, 8, 8, 8, 8, 8, 8, 8, 8, 8, 8, 8, 8, 8, 8, 8, 8, 8, 8, 8, 8, 8, 8, 8, 8, 8, 8, 8, 8, 8, 8, 8, 8, 8, 8, 8, 8, 8, 8, 8, 8, 8, 8, 8, 8, 8, 8, 8, 8, 8, 8, 8, 8, 8, 8, 8, 8, 8, 8, 8, 8, 8, 8, 8, 8, 8, 8, 8, 8, 8, 8, 8, 8, 8, 8, 8, 8, 8, 8, 8, 8, 8, 8, 8, 8, 8, 8, 8, 8, 8, 8, 8, 8, 8, 8, 8, 8, 8, 8, 8, 8, 8, 8, 8, 8, 8, 8, 8, 8, 8, 8, 8, 8, 8, 8])) (.t 21)),
   .op (some 23) (.conv .i64 (.t 22)),
   .op (some 24) (.bin .add (.t 19) (.t 23)),
   .op (some 2) (.mov (.t 24))])
 (.keep [2] (.ret))))))))))
theorem k_c_Len64_fits : fitsF Try.prog 106 ⟨25, k_c_Len64, [.t 2]⟩ = true := by kernel_rfl
theorem c_Len64 {n : Nat} (hn : n ≤ 12) : Con Try.prog noMv 106 [.d (.int .u64 (n : Int))] [] (fun r h => (∃ m : Int, 0 ≤ m ∧ m ≤ 255 ∧ r = int m) ∧ h = []) := by
 refine con_of2 k_c_Len64_fits rfl fun C hP hmv => ?_
 unfold k_c_Len64
 refine cx_seq ?_
 refine cx_ops ?_
 refine ax_q (q_mov rfl) ?_
 refine ax_nil ?_
 refine cx_keep rfl rfl ?_
 refine cx_seq ?_
 refine cx_seq ?_
 refine cx_ops ?_
 refine ax_q (q_mov rfl) ?_
 refine ax_q (q_ibin rfl rfl rfl) ?_
 refine ax_nil ?_
 refine cx_keep rfl rfl ?_
 refine cx_cond rfl (fun h0 => ?_) (fun h0 => ?_)
 ·
  have h0 := dT h0
  exfalso; omega
 ·
  have h0 := dF h0
  refine cx_skip ?_
  refine cx_keep rfl rfl ?_
  refine cx_seq ?_
  refine cx_seq ?_
  refine cx_ops ?_
  refine ax_q (q_mov rfl) ?_
  refine ax_q (q_ibin rfl rfl rfl) ?_
  refine ax_nil ?_
  refine cx_keep rfl rfl ?_
  refine cx_cond rfl (fun h1 => ?_) (fun h1 => ?_)
  ·
   have h1 := dT h1
   exfalso; omega
  ·
   have h1 := dF h1
   refine cx_skip ?_
   refine cx_keep rfl rfl ?_
   refine cx_seq ?_
   refine cx_seq ?_
   refine cx_ops ?_
   refine ax_q (q_mov rfl) ?_
   refine ax_q (q_ibin rfl rfl rfl) ?_
   refine ax_nil ?_
   refine cx_keep rfl rfl ?_
   refine cx_cond rfl (fun h2 => ?_) (fun h2 => ?_)
   ·
    have h2 := dT h2
    exfalso; omega
   ·
    have h2 := dF h2
    refine cx_skip ?_
    refine cx_keep rfl rfl ?_
    refine cx_seq ?_
    refine cx_ops ?_
    refine ax_q (q_mov rfl) ?_
    refine ax_q (q_mov rfl) ?_
    refine ax_qe (r' := .d (.int .u8 (n : Int))) (q_convU8 rfl) (by rw [AM.byteOf_nat, Int.emod_eq_of_lt (by omega) (by omega)]) ?_
    refine ax_q (q_idxN rfl rfl (show n < 256 by omega)) ?_
    first | refine ax_q (q_convB rfl) ?_ | refine ax_q (q_convI rfl (by omega)) ?_ | refine ax_q (q_convU8 rfl) ?_ | refine ax_q (q_conv rfl) ?_
    refine ax_q (q_addB rfl rfl) ?_
    refine ax_q (q_mov rfl) ?_
    refine ax_nil ?_
    refine cx_keep rfl rfl ?_
    refine cx_ret (ret0 rfl rfl ?_)
    exact ⟨bnd_u8 _, rfl⟩


/- math/bits.Len -/
def k_c_Len : XCode :=
 .seq (.ops [.op (some 2) (.mov (.k (.int .i64 0)))])
 (.keep [0] (.seq (.cond (.k (.bool false))
  (.seq (.ops [.op (some 3) (.mov (.t 0)),
    .op (some 4) (.conv .u32 (.t 3)),
    .call (some 5) 105 [.t 4],
    .op (some 2) (.mov (.t 5))])
   (.keep [2] (.ret)))
  (.skip))
 (.keep [0] (.seq (.ops [.op (some 6) (.mov (.t 0)),
   .call (some 7) 106 [.t 6],
   .op (some 2) (.mov (.t 7))])
 (.keep [2] (.ret))))))
theorem k_c_Len_fits : fitsF Try.prog 90 ⟨8, k_c_Len, [.t 2]⟩ = true := by kernel_rfl
theorem c_Len {n : Nat} (hn : n ≤ 12) : Con Try.prog noMv 90 [.d (.int .u64 (n : Int))] [] (fun r h => (∃ m : Int, 0 ≤ m ∧ m ≤ 255 ∧ r = int m) ∧ h = []) := by
 refine con_of2 k_c_Len_fits rfl fun C hP hmv => ?_
 unfold k_c_Len
 refine cx_seq ?_
 refine cx_ops ?_
 refine ax_q (q_mov rfl) ?_
 refine ax_nil ?_
 refine cx_keep rfl rfl ?_
 refine cx_seq ?_
 refine cx_cond rfl (fun h0 => ?_) (fun h0 => ?_)
 ·
  skip
  exact absurd h0 Bool.false_ne_true
 ·
  skip
  refine cx_skip ?_
  refine cx_keep rfl rfl ?_
  refine cx_seq ?_
  refine cx_ops ?_
  refine ax_q (q_mov rfl) ?_
  refine ax_call rfl (vc_pure (c_Len64 hn) hP rfl ?_)
  rintro r h ⟨⟨m, hm0, hm1, rfl⟩, rfl⟩
  refine ⟨id, [], ⟨rfl, rfl, rfl, rfl, rfl, fun h => absurd h Bool.false_ne_true⟩, ?_⟩
  refine ax_q (q_mov rfl) ?_
  refine ax_nil ?_
  refine cx_keep rfl rfl ?_
  refine cx_ret (ret0 rfl rfl ?_)
  exact ⟨⟨m, hm0, hm1, rfl⟩, rfl⟩


/- slices.pdqsortOrdered[int] -/
def k_c_pdqI : XCode :=
 .seq (.ops [.op (some 8) (.mov (.k (.bool true)))])
 (.keep [0, 1, 2, 3, 8] (.seq (.ops [.op (some 9) (.mov (.k (.bool true)))])
 (.keep [0, 1, 2, 3, 8, 9] (.block 0 (.loop (.block 1 (.seq (.ops [.op (some 19) (.mov (.t 2)),
    .op (some 20) (.mov (.t 1)),
    .op (some 21) (.bin .sub (.t 19) (.t 20)),
    .op (some 10) (.mov (.t 21))])
   (.keep [0, 1, 2, 3, 8, 9, 10] (.seq (.seq (.ops [.op (some 22) (.mov (.t 10)),
     .op (some 23) (.bin .leq (.t 22) (.k (.int .i64 12)))])
   (.keep [0, 1, 2, 3, 8, 9, 10, 23] (.cond (.t 23)
    (.seq (.ops [.op (some 24) (.mov (.t 0)),
      .op (some 25) (.mov (.t 1)),
      .op (some 26) (.mov (.t 2)),
      .call (some 27) 96 [.t 24, .t 25, .t 26]])
    (.keep [] (.ret)))
    (.skip))))
   (.keep [0, 1, 2, 3, 8, 9, 10] (.seq (.seq (.ops [.op (some 28) (.mov (.t 3)),
     .op (some 29) (.bin .eql (.t 28) (.k (.int .i64 0)))])
   (.keep [0, 1, 2, 3, 8, 9, 10, 29] (.cond (.t 29)
    (.seq (.ops [.op (some 30) (.mov (.t 0)),
      .op (some 31) (.mov (.t 1)),
      .op (some 32) (.mov (.t 2)),
      .call (some 33) 97 [.t 30, .t 31, .t 32]])
    (.keep [] (.ret)))
    (.skip))))
   (.keep [0, 1, 2, 3, 8, 9, 10] (.seq (.seq (.ops [.op (some 34) (.mov (.t 8)),
     .op (some 35) (.not (.t 34))])
   (.keep [0, 1, 2, 3, 8, 9, 10, 35] (.cond (.t 35)
    (.seq (.ops [.op (some 36) (.mov (.t 0)),
      .op (some 37) (.mov (.t 1)),
      .op (some 38) (.mov (.t 2)),
      .call (some 39) 98 [.t 36, .t 37, .t 38]])
    (.keep [0, 1, 2, 3, 8, 9, 10] (.ops [.op (some 40) (.mov (.t 3)),
     .op (some 41) (.bin .sub (.t 40) (.k (.int .i64 1))),
     .op (some 3) (.mov (.t 41))])))
    (.skip))))
   (.keep [0, 1, 2, 3, 8, 9, 10] (.seq (.ops [.op (some 43) (.mov (.t 0)),
    .op (some 44) (.mov (.t 1)),
    .op (some 45) (.mov (.t 2)),
    .call (some 46) 99 [.t 43, .t 44, .t 45],
    .op (some 42) (.mov (.t 46)),
    .op (some 47) (.ext (.t 42) 0),
    .op (some 48) (.ext (.t 42) 1),
    .op (some 11) (.mov (.t 47)),
    .op (some 12) (.mov (.t 48))])
   (.keep [0, 1, 2, 3, 8, 9, 10, 11, 12] (.seq (.seq (.ops [.op (some 49) (.mov (.t 12)),
     .op (some 50) (.bin .eql (.t 49) (.k (.int .i64 2)))])
   (.keep [0, 1, 2, 3, 8, 9, 10, 11, 12, 50] (.cond (.t 50)
    (.seq (.ops [.op (some 51) (.mov (.t 0)),
      .op (some 52) (.mov (.t 1)),
      .op (some 53) (.mov (.t 2)),
      .call (some 54) 100 [.t 51, .t 52, .t 53]])
    (.keep [0, 1, 2, 3, 8, 9, 10, 11] (.seq (.ops [.op (some 55) (.mov (.t 2)),
      .op (some 56) (.bin .sub (.t 55) (.k (.int .i64 1))),
      .op (some 57) (.mov (.t 11)),
      .op (some 58) (.mov (.t 1)),
      .op (some 59) (.bin .sub (.t 57) (.t 58)),
      .op (some 60) (.bin .sub (.t 56) (.t 59)),
      .op (some 11) (.mov (.t 60))])
    (.keep [0, 1, 2, 3, 8, 9, 10, 11] (.ops [.op (some 12) (.mov (.k (.int .i64 1)))])))))
    (.skip))))
   (.keep [0, 1, 2, 3, 8, 9, 10, 11, 12] (.seq (.seq (.ops [.op (some 61) (.mov (.t 8)),
     .op (some 62) (.mov (.t 61)),
     .andor 64 true 1 62 [.op (some 63) (.mov (.t 9))] (.t 63),
     .op (some 65) (.mov (.t 64)),
     .andor 68 true 4 65 [.op (some 66) (.mov (.t 12)), .op (some 67) (.bin .eql (.t 66) (.k (.int .i64 1)))] (.t 67)])
   (.keep [0, 1, 2, 3, 8, 9, 10, 11, 68] (.cond (.t 68)
    (.seq (.ops [.op (some 69) (.mov (.t 0)),
      .op (some 70) (.mov (.t 1)),
      .op (some 71) (.mov (.t 2)),
      .call (some 72) 101 [.t 69, .t 70, .t 71]])
    (.keep [0, 1, 2, 3, 8, 9, 10, 11, 72] (.cond (.t 72)
     (.ret)
     (.skip))))
    (.skip))))
   (.keep [0, 1, 2, 3, 8, 9, 10, 11] (.seq (.seq (.draw [.op (some 73) (.mov (.t 1)),
     .op (some 74) (.bin .gtr (.t 73) (.k (.int .i64 0))),
     .op (some 75) (.mov (.t 74)),
     .andor 87 true 2 75 [.op (some 76) (.mov (.t 0)), .op (some 77) (.mov (.t 1)), .op (some 78) (.bin .sub (.t 77) (.k (.int .i64 1))), .op (some 79) (.iadr 1 (.t 76) (.t 78)), .op (some 80) (.load1 (.t 79)), .op (some 81) (.mov (.t 0)), .op (some 82) (.mov (.t 11)), .op (some 83) (.iadr 1 (.t 81) (.t 82)), .op (some 84) (.load1 (.t 83)), .call (some 85) 102 [.t 80, .t 84], .op (some 86) (.not (.t 85))] (.t 86)])
   (.keep [0, 1, 2, 3, 8, 9, 10, 11, 87] (.cond (.t 87)
    (.seq (.ops [.op (some 88) (.mov (.t 0)),
      .op (some 89) (.mov (.t 1)),
      .op (some 90) (.mov (.t 2)),
      .op (some 91) (.mov (.t 11)),
      .call (some 92) 103 [.t 88, .t 89, .t 90, .t 91],
      .op (some 13) (.mov (.t 92))])
    (.keep [0, 2, 3, 8, 9, 13] (.seq (.ops [.op (some 93) (.mov (.t 13)),
      .op (some 1) (.mov (.t 93))])
    (.keep [0, 1, 2, 3, 8, 9] (.exit 1)))))
    (.skip))))
   (.keep [0, 1, 2, 3, 10, 11] (.seq (.ops [.op (some 95) (.mov (.t 0)),
    .op (some 96) (.mov (.t 1)),
    .op (some 97) (.mov (.t 2)),
    .op (some 98) (.mov (.t 11)),
    .call (some 99) 104 [.t 95, .t 96, .t 97, .t 98],
    .op (some 94) (.mov (.t 99)),
    .op (some 100) (.ext (.t 94) 0),
    .op (some 101) (.ext (.t 94) 1),
    .op (some 14) (.mov (.t 100)),
    .op (some 15) (.mov (.t 101))])
   (.keep [0, 1, 2, 3, 10, 14, 15] (.seq (.ops [.op (some 102) (.mov (.t 15)),
    .op (some 9) (.mov (.t 102))])
   (.keep [0, 1, 2, 3, 9, 10, 14] (.seq (.ops [.op (some 103) (.mov (.t 14)),
    .op (some 104) (.mov (.t 1)),
    .op (some 105) (.bin .sub (.t 103) (.t 104)),
    .op (some 106) (.mov (.t 2)),
    .op (some 107) (.mov (.t 14)),
    .op (some 108) (.bin .sub (.t 106) (.t 107)),
    .op (some 16) (.mov (.t 105)),
    .op (some 17) (.mov (.t 108))])
   (.keep [0, 1, 2, 3, 9, 10, 14, 16, 17] (.seq (.ops [.op (some 109) (.mov (.t 10)),
    .op (some 110) (.bin .quo (.t 109) (.k (.int .i64 8))),
    .op (some 18) (.mov (.t 110))])
   (.keep [0, 1, 2, 3, 9, 14, 16, 17, 18] (.seq (.ops [.op (some 111) (.mov (.t 16)),
    .op (some 112) (.mov (.t 17)),
    .op (some 113) (.bin .lss (.t 111) (.t 112))])
   (.keep [0, 1, 2, 3, 9, 14, 16, 17, 18, 113] (.cond (.t 113)
   (.seq (.ops [.op (some 114) (.mov (.t 16)),
     .op (some 115) (.mov (.t 18)),
     .op (some 116) (.bin .geq (.t 114) (.t 115)),
     .op (some 8) (.mov (.t 116))])
    (.keep [0, 1, 2, 3, 8, 9, 14] (.seq (.ops [.op (some 117) (.mov (.t 0)),
     .op (some 118) (.mov (.t 1)),
     .op (some 119) (.mov (.t 14)),
     .op (some 120) (.mov (.t 3)),
     .call (some 121) 89 [.t 117, .t 118, .t 119, .t 120]])
    (.keep [0, 2, 3, 8, 9, 14] (.ops [.op (some 122) (.mov (.t 14)),
     .op (some 123) (.bin .add (.t 122) (.k (.int .i64 1))),
     .op (some 1) (.mov (.t 123))])))))
   (.seq (.ops [.op (some 124) (.mov (.t 17)),
     .op (some 125) (.mov (.t 18)),
     .op (some 126) (.bin .geq (.t 124) (.t 125)),
     .op (some 8) (.mov (.t 126))])
    (.keep [0, 1, 2, 3, 8, 9, 14] (.seq (.ops [.op (some 127) (.mov (.t 0)),
     .op (some 128) (.mov (.t 14)),
     .op (some 129) (.bin .add (.t 128) (.k (.int .i64 1))),
     .op (some 130) (.mov (.t 2)),
     .op (some 131) (.mov (.t 3)),
     .call (some 132) 89 [.t 127, .t 129, .t 130, .t 131]])
    (.keep [0, 1, 3, 8, 9, 14] (.ops [.op (some 133) (.mov (.t 14)),
     .op (some 2) (.mov (.t 133))]))))))))))))))))))))))))))))))))))))))
theorem k_c_pdqI_fits : fitsF Try.prog 89 ⟨134, k_c_pdqI, []⟩ = true := by kernel_rfl
theorem c_pdqI {m : Int} {xs : List Int} (hl : xs.length ≤ 12) : Con Try.prog noMv 89 [.osl 1000 1 0 xs.length, int 0, int xs.length, int m] [(1000, .rows 1 ((xs).map intRow))] (fun r h => ∃ l : List Int, l.length = xs.length ∧ r = .tup [] ∧ h = [(1000, .rows 1 ((l).map intRow))]) := by
 refine con_of2 k_c_pdqI_fits rfl fun C hP hmv => ?_
 unfold k_c_pdqI
 refine cx_seq ?_
 refine cx_ops ?_
 refine ax_q (q_mov rfl) ?_
 refine ax_nil ?_
 refine cx_keep rfl rfl ?_
 refine cx_seq ?_
 refine cx_ops ?_
 refine ax_q (q_mov rfl) ?_
 refine ax_nil ?_
 refine cx_keep rfl rfl ?_
 refine cx_block ?_
 refine cx_loopU (fun n (_ : Unit) => n = 0) (fun _ => []) (fun _ => [(1000, .rows 1 ((xs).map intRow))]) ⟨_, (), rfl, by repeat (first | exact trivial | refine ⟨rfl, ?_⟩ | refine ⟨?_, ?_⟩)⟩ ?_
 rintro n u rfl
 refine cx_block ?_
 refine cx_seq ?_
 refine cx_ops ?_
 refine ax_q (q_mov rfl) ?_
 refine ax_q (q_mov rfl) ?_
 refine ax_q (q_sub rfl rfl (by omega)) ?_
 refine ax_q (q_mov rfl) ?_
 refine ax_nil ?_
 refine cx_keep rfl rfl ?_
 refine cx_seq ?_
 refine cx_seq ?_
 refine cx_ops ?_
 refine ax_q (q_mov rfl) ?_
 refine ax_q (q_ibin rfl rfl rfl) ?_
 refine ax_nil ?_
 refine cx_keep rfl rfl ?_
 refine cx_cond rfl (fun h0 => ?_) (fun h0 => ?_)
 ·
  have h0 := dT h0
  refine cx_seq ?_
  refine cx_ops ?_
  refine ax_q (q_mov rfl) ?_
  refine ax_q (q_mov rfl) ?_
  refine ax_q (q_mov rfl) ?_
  refine ax_call rfl (vcall_own (c_insI (xs := xs) hl) hP hmv false (fun _ => 1000) [1000] ⟨rfl, rfl, rfl, rfl, ⟨rfl, trivial⟩, rfl, rfl, rfl⟩ (.pass rfl rfl (.pass rfl rfl (.pass rfl rfl .nil))) ?_)
  rintro r h ⟨l, hll, rfl, rfl⟩
  refine ⟨fun _ => 1000, [], ⟨rfl, rfl, rfl, rfl, mem1 rfl, rfl, rfl, fun h => absurd h Bool.false_ne_true⟩, ?_⟩
  refine ax_nil ?_
  refine cx_keep rfl rfl ?_
  refine cx_ret (retN id [1000] rfl rfl rfl rfl rfl ?_)
  exact ⟨l, hll, rfl, rfl⟩
 ·
  have h0 := dF h0
  exfalso; omega


/- slices.Sort[[]int,int] -/
def k_c_SortI : XCode :=
 .seq (.ops [.op (some 3) (.mov (.t 0)),
   .op (some 4) (.lenS (.t 3)),
   .op (some 2) (.mov (.t 4))])
 (.keep [0, 2] (.ops [.op (some 5) (.mov (.t 0)),
  .op (some 6) (.mov (.t 2)),
  .op (some 7) (.mov (.t 2)),
  .op (some 8) (.conv .u64 (.t 7)),
  .call (some 9) 90 [.t 8],
  .call (some 10) 89 [.t 5, .k (.int .i64 0), .t 6, .t 9]]))
theorem k_c_SortI_fits : fitsF Try.prog 66 ⟨11, k_c_SortI, []⟩ = true := by kernel_rfl
theorem c_SortI {xs : List Int} (hl : xs.length ≤ 12) : Con Try.prog noMv 66 [.osl 1000 1 0 xs.length] [(1000, .rows 1 ((xs).map intRow))] (fun r h => ∃ l : List Int, l.length = xs.length ∧ r = .tup [] ∧ h = [(1000, .rows 1 ((l).map intRow))]) := by
 refine con_of2 k_c_SortI_fits rfl fun C hP hmv => ?_
 unfold k_c_SortI
 refine cx_seq ?_
 refine cx_ops ?_
 refine ax_q (q_mov rfl) ?_
 first | refine ax_q (q_lenS_map rfl) ?_ | refine ax_q (q_lenS_osl rfl) ?_ | refine ax_q (q_lenS_zs rfl) ?_ | refine ax_q (q_lenS rfl) ?_
 refine ax_q (q_mov rfl) ?_
 refine ax_nil ?_
 refine cx_keep rfl rfl ?_
 refine cx_ops ?_
 refine ax_q (q_mov rfl) ?_
 refine ax_q (q_mov rfl) ?_
 refine ax_q (q_mov rfl) ?_
 refine ax_qe (r' := .d (.int .u64 (xs.length : Int))) (q_conv rfl) (u64_of (by omega)) ?_
 refine ax_call rfl (vc_pure (c_Len (n := xs.length) hl) hP rfl ?_)
 rintro r h ⟨⟨m, hm0, hm1, rfl⟩, rfl⟩
 refine ⟨id, [], ⟨rfl, rfl, rfl, rfl, rfl, fun h => absurd h Bool.false_ne_true⟩, ?_⟩
 refine ax_call rfl (vcall_own (c_pdqI (xs := xs) (m := m) hl) hP hmv false (fun _ => 1000) [1000] ⟨rfl, rfl, rfl, rfl, ⟨rfl, trivial⟩, rfl, rfl, rfl⟩ (.pass rfl rfl (.pass rfl rfl (.pass rfl rfl (.pass rfl rfl .nil)))) ?_)
 rintro r h ⟨l, hll, rfl, rfl⟩
 refine ⟨fun _ => 1000, [], ⟨rfl, rfl, rfl, rfl, mem1 rfl, rfl, rfl, fun h => absurd h Bool.false_ne_true⟩, ?_⟩
 refine ax_nil ?_
 refine retN id [1000] rfl rfl rfl rfl rfl ?_
 exact ⟨l, hll, rfl, rfl⟩


/- slices.Compact[[]int,int] -/
def k_c_CompactI : XCode :=
 .seq (.ops [.op (some 2) (.mov (.k (.nils 1)))])
 (.keep [0] (.seq (.seq (.ops [.op (some 6) (.mov (.t 0)),
   .op (some 7) (.lenS (.t 6)),
   .op (some 8) (.bin .lss (.t 7) (.k (.int .i64 2)))])
  (.keep [0, 8] (.cond (.t 8)
  (.seq (.ops [.op (some 9) (.mov (.t 0)),
    .op (some 2) (.mov (.t 9))])
   (.keep [2] (.ret)))
  (.skip))))
 (.keep [0] (.seq (.seq (.ops [.op (some 3) (.mov (.k (.int .i64 1)))])
  (.keep [0, 3] (.block 0 (.loop (.seq (.seq (.ops [.op (some 10) (.mov (.t 3)),
     .op (some 11) (.mov (.t 0)),
     .op (some 12) (.lenS (.t 11)),
     .op (some 13) (.bin .lss (.t 10) (.t 12))])
   (.keep [0, 3, 13] (.cond (.t 13)
    (.skip)
    (.exit 0))))
   (.keep [0, 3] (.seq (.block 1 (.seq (.draw [.op (some 16) (.mov (.t 0)),
     .op (some 17) (.mov (.t 3)),
     .op (some 18) (.iadr 1 (.t 16) (.t 17)),
     .op (some 19) (.load1 (.t 18)),
     .op (some 20) (.mov (.t 0)),
     .op (some 21) (.mov (.t 3)),
     .op (some 22) (.bin .sub (.t 21) (.k (.int .i64 1))),
     .op (some 23) (.iadr 1 (.t 20) (.t 22)),
     .op (some 24) (.load1 (.t 23)),
     .op (some 25) (.bin .eql (.t 19) (.t 24))])
    (.keep [0, 3, 25] (.cond (.t 25)
    (.seq (.ops [.op (some 26) (.mov (.t 0)),
      .op (some 27) (.mov (.t 3)),
      .op (some 28) (.slc 1 (.t 26) (some (.t 27)) none none),
      .op (some 4) (.mov (.t 28))])
     (.keep [0, 3, 4] (.seq (.seq (.ops [.op (some 5) (.mov (.k (.int .i64 1)))])
     (.keep [0, 3, 4, 5] (.block 2 (.loop (.seq (.seq (.ops [.op (some 29) (.mov (.t 5)),
        .op (some 30) (.mov (.t 4)),
        .op (some 31) (.lenS (.t 30)),
        .op (some 32) (.bin .lss (.t 29) (.t 31))])
       (.keep [0, 3, 4, 5, 32] (.cond (.t 32)
       (.skip)
       (.exit 2))))
      (.keep [0, 3, 4, 5] (.seq (.block 3 (.seq (.draw [.op (some 35) (.mov (.t 4)),
         .op (some 36) (.mov (.t 5)),
         .op (some 37) (.iadr 1 (.t 35) (.t 36)),
         .op (some 38) (.load1 (.t 37)),
         .op (some 39) (.mov (.t 4)),
         .op (some 40) (.mov (.t 5)),
         .op (some 41) (.bin .sub (.t 40) (.k (.int .i64 1))),
         .op (some 42) (.iadr 1 (.t 39) (.t 41)),
         .op (some 43) (.load1 (.t 42)),
         .op (some 44) (.bin .neq (.t 38) (.t 43))])
       (.keep [0, 3, 4, 5, 44] (.cond (.t 44)
        (.seq (.ops [.op (some 45) (.mov (.t 0)),
          .op (some 46) (.mov (.t 3)),
          .op (some 47) (.mov (.t 4)),
          .op (some 48) (.mov (.t 5)),
          .op (some 49) (.iadr 1 (.t 47) (.t 48)),
          .op (some 50) (.load1 (.t 49)),
          .op (some 51) (.iadr 1 (.t 45) (.t 46)),
          .op none (.store 1 (.t 51) (.t 50))])
        (.keep [0, 3, 4, 5] (.ops [.op (some 52) (.mov (.t 3)),
         .op (some 53) (.bin .add (.t 52) (.k (.int .i64 1))),
         .op (some 3) (.mov (.t 53))])))
        (.skip)))))
      (.keep [0, 3, 4, 5] (.ops [.op (some 33) (.mov (.t 5)),
       .op (some 34) (.bin .add (.t 33) (.k (.int .i64 1))),
       .op (some 5) (.mov (.t 34))])))))))))
     (.keep [0, 3] (.seq (.ops [.op (some 54) (.mov (.t 0)),
      .op (some 55) (.mov (.t 3)),
      .op (some 56) (.slc 1 (.t 54) (some (.t 55)) none none),
      .op none (.clr 1 [.int .i64 0] (.t 56))])
     (.keep [0, 3] (.seq (.ops [.op (some 57) (.mov (.t 0)),
      .op (some 58) (.mov (.t 3)),
      .op (some 59) (.slc 1 (.t 57) none (some (.t 58)) none),
      .op (some 2) (.mov (.t 59))])
     (.keep [2] (.ret)))))))))
    (.skip)))))
   (.keep [0, 3] (.ops [.op (some 14) (.mov (.t 3)),
    .op (some 15) (.bin .add (.t 14) (.k (.int .i64 1))),
    .op (some 3) (.mov (.t 15))])))))))))
 (.keep [0] (.seq (.ops [.op (some 60) (.mov (.t 0)),
   .op (some 2) (.mov (.t 60))])
 (.keep [2] (.ret))))))))
theorem k_c_CompactI_fits : fitsF Try.prog 67 ⟨61, k_c_CompactI, [.t 2]⟩ = true := by kernel_rfl
theorem c_CompactI {xs : List Int} (hl : xs.length ≤ 1000) : Con Try.prog noMv 67 [.osl 1000 1 0 xs.length] [(1000, .rows 1 ((xs).map intRow))] (fun r h => ∃ l : List Int, (0 < xs.length → 0 < l.length) ∧ l.length ≤ xs.length ∧ r = .osl 1000 1 0 l.length ∧ h = [(1000, .rows 1 ((l).map intRow))]) := by
 refine con_of2 k_c_CompactI_fits rfl fun C hP hmv => ?_
 unfold k_c_CompactI
 refine cx_seq ?_
 refine cx_ops ?_
 refine ax_q (q_mov rfl) ?_
 refine ax_nil ?_
 refine cx_keep rfl rfl ?_
 refine cx_seq ?_
 refine cx_seq ?_
 refine cx_ops ?_
 refine ax_q (q_mov rfl) ?_
 first | refine ax_q (q_lenS_map rfl) ?_ | refine ax_q (q_lenS_osl rfl) ?_ | refine ax_q (q_lenS_zs rfl) ?_ | refine ax_q (q_lenS rfl) ?_
 refine ax_q (q_ibin rfl rfl rfl) ?_
 refine ax_nil ?_
 refine cx_keep rfl rfl ?_
 refine cx_cond rfl (fun h0 => ?_) (fun h0 => ?_)
 ·
  have h0 := dT h0
  refine cx_seq ?_
  refine cx_ops ?_
  refine ax_q (q_mov rfl) ?_
  refine ax_q (q_mov rfl) ?_
  refine ax_nil ?_
  refine cx_keep rfl rfl ?_
  refine cx_ret (retN id [1000] rfl rfl rfl rfl rfl ?_)
  exact ⟨xs, id, Nat.le_refl _, rfl, rfl⟩
 ·
  have h0 := dF h0
  refine cx_skip ?_
  refine cx_keep rfl rfl ?_
  refine cx_seq ?_
  refine cx_seq ?_
  refine cx_ops ?_
  refine ax_q (q_mov rfl) ?_
  refine ax_nil ?_
  refine cx_keep rfl rfl ?_
  refine cx_block ?_
  refine cx_loopU (fun n k => 1 ≤ k ∧ k ≤ xs.length ∧ n = xs.length - k) (fun k : Nat => [(3, int k)]) (fun _ => [(1000, .rows 1 ((xs).map intRow))]) ⟨_, 1, ⟨Nat.le_refl _, by omega, rfl⟩, by repeat (first | exact trivial | refine ⟨rfl, ?_⟩ | refine ⟨?_, ?_⟩)⟩ ?_
  rintro n i ⟨hi1, hi, rfl⟩
  refine cx_seq ?_
  refine cx_seq ?_
  refine cx_ops ?_
  refine ax_q (q_mov rfl) ?_
  refine ax_q (q_mov rfl) ?_
  first | refine ax_q (q_lenS_map rfl) ?_ | refine ax_q (q_lenS_osl rfl) ?_ | refine ax_q (q_lenS_zs rfl) ?_ | refine ax_q (q_lenS rfl) ?_
  refine ax_q (q_ibin rfl rfl rfl) ?_
  refine ax_nil ?_
  refine cx_keep rfl rfl ?_
  refine cx_cond rfl (fun h1 => ?_) (fun h1 => ?_)
  ·
   have h1 := dT h1
   have h1x : i < xs.length := by omega
   refine cx_skip ?_
   refine cx_keep rfl rfl ?_
   refine cx_seq ?_
   refine cx_block ?_
   refine cx_seq ?_
   refine cx_draw ?_
   refine ax_q (q_mov rfl) ?_
   refine ax_q (q_mov rfl) ?_
   refine ax_q (q_ixo rfl rfl h1x) ?_
   refine ax_q (q_load1_rptr (r := intRow (xs.getD i 0)) rfl rfl (intD (by omega)) rfl) ?_
   refine ax_q (q_mov rfl) ?_
   refine ax_q (q_mov rfl) ?_
   refine ax_qe (r' := int ((i - 1 : Nat) : Int)) (q_ibin rfl rfl rfl) (by rw [wi (by omega) (by omega)]; exact congrArg AM.int (by omega)) ?_
   refine ax_q (q_ixo rfl rfl (by omega)) ?_
   refine ax_q (q_load1_rptr (r := intRow (xs.getD (i - 1) 0)) rfl rfl (intD (by omega)) rfl) ?_
   refine ax_q (q_ibin rfl rfl rfl) ?_
   refine ax_nil ?_
   refine cx_keep rfl rfl ?_
   refine cx_cond rfl (fun h2 => ?_) (fun h2 => ?_)
   ·
    have h2 := dT h2
    refine cx_seq ?_
    refine cx_ops ?_
    refine ax_q (q_mov rfl) ?_
    refine ax_q (q_mov rfl) ?_
    refine ax_qe (r' := .osl 1000 1 i (xs.length - i)) (q_slc_osl rfl rfl rfl (by omega) (by omega) (by omega)) (oslE (by omega) (by omega)) ?_
    refine ax_q (q_mov rfl) ?_
    refine ax_nil ?_
    refine cx_keep rfl rfl ?_
    refine cx_seq ?_
    refine cx_seq ?_
    refine cx_ops ?_
    refine ax_q (q_mov rfl) ?_
    refine ax_nil ?_
    refine cx_keep rfl rfl ?_
    refine cx_block ?_
    refine cx_loopU (fun n (p : Nat × Nat × List Int) => 1 ≤ p.2.1 ∧ p.2.1 ≤ xs.length - i ∧ 1 ≤ p.1 ∧ p.1 + 1 ≤ i + p.2.1 ∧ n = xs.length - i - p.2.1 ∧ p.2.2.length = xs.length) (fun p => [(3, int p.1), (5, int p.2.1)]) (fun p => [(1000, .rows 1 ((p.2.2).map intRow))]) ⟨_, (i, 1, xs), ⟨Nat.le_refl _, by simp only; omega, by simp only; omega, Nat.le_refl _, rfl, rfl⟩, by repeat (first | exact trivial | refine ⟨rfl, ?_⟩ | refine ⟨?_, ?_⟩)⟩ ?_
    rintro n ⟨k, j, l⟩ ⟨hj1, hj, hk1, hk, rfl, hll⟩
    simp only at hj1 hj hk1 hk hll ⊢
    refine cx_seq ?_
    refine cx_seq ?_
    refine cx_ops ?_
    refine ax_q (q_mov rfl) ?_
    refine ax_q (q_mov rfl) ?_
    first | refine ax_q (q_lenS_map rfl) ?_ | refine ax_q (q_lenS_osl rfl) ?_ | refine ax_q (q_lenS_zs rfl) ?_ | refine ax_q (q_lenS rfl) ?_
    refine ax_q (q_ibin rfl rfl rfl) ?_
    refine ax_nil ?_
    refine cx_keep rfl rfl ?_
    refine cx_cond rfl (fun h3 => ?_) (fun h3 => ?_)
    ·
     have h3 := dT h3
     have h3x : j < xs.length - i := by omega
     refine cx_skip ?_
     refine cx_keep rfl rfl ?_
     refine cx_seq ?_
     refine cx_block ?_
     refine cx_seq ?_
     refine cx_draw ?_
     refine ax_q (q_mov rfl) ?_
     refine ax_q (q_mov rfl) ?_
     refine ax_q (q_ixs' (j := i + j) rfl rfl (by omega) (by omega) (by omega)) ?_
     refine ax_q (q_load1_rptr (r := intRow (l.getD (i + j) 0)) rfl rfl (intD (by omega)) rfl) ?_
     refine ax_q (q_mov rfl) ?_
     refine ax_q (q_mov rfl) ?_
     refine ax_qe (r' := int ((j - 1 : Nat) : Int)) (q_ibin rfl rfl rfl) (by rw [wi (by omega) (by omega)]; exact congrArg AM.int (by omega)) ?_
     refine ax_q (q_ixs' (j := i + (j - 1)) rfl rfl (by omega) (by omega) (by omega)) ?_
     refine ax_q (q_load1_rptr (r := intRow (l.getD (i + (j - 1)) 0)) rfl rfl (intD (by omega)) rfl) ?_
     refine ax_q (q_ibin rfl rfl rfl) ?_
     refine ax_nil ?_
     refine cx_keep rfl rfl ?_
     refine cx_cond rfl (fun h4 => ?_) (fun h4 => ?_)
     ·
      have h4 := nT h4
      refine cx_seq ?_
      refine cx_ops ?_
      refine ax_q (q_mov rfl) ?_
      refine ax_q (q_mov rfl) ?_
      refine ax_q (q_mov rfl) ?_
      refine ax_q (q_mov rfl) ?_
      refine ax_q (q_ixs' (j := i + j) rfl rfl (by omega) (by omega) (by omega)) ?_
      refine ax_q (q_load1_rptr (r := intRow (l.getD (i + j) 0)) rfl rfl (intD (by omega)) rfl) ?_
      refine ax_q (q_ixo rfl rfl (by omega)) ?_
      refine ax_e (e_str (rs' := (l.set k (l.getD (i + j) 0)).map intRow) (row := intRow (l.getD k 0)) (q := intRow (l.getD (i + j) 0)) rfl rfl rfl rfl rfl rfl (intD (by omega)) rfl rfl List.map_set.symm) ?_
      refine ax_nil ?_
      refine cx_keep rfl rfl ?_
      refine cx_ops ?_
      refine ax_q (q_mov rfl) ?_
      refine ax_qe (r' := int ((k + 1 : Nat) : Int)) (q_ibin rfl rfl rfl) (by rw [wi (by omega) (by omega)]; rfl) ?_
      refine ax_q (q_mov rfl) ?_
      refine ax_nil ?_
      refine cx_keep rfl rfl ?_
      refine cx_ops ?_
      refine ax_q (q_mov rfl) ?_
      refine ax_qe (r' := int ((j + 1 : Nat) : Int)) (q_ibin rfl rfl rfl) (by rw [wi (by omega) (by omega)]; rfl) ?_
      refine ax_q (q_mov rfl) ?_
      refine ax_nil ?_
      exact ⟨_, (k + 1, j + 1, l.set k (l.getD (i + j) 0)), by simp only; omega, ⟨by simp only; omega, by simp only; omega, by simp only; omega, by simp only; omega, rfl, by simp only [List.length_set]; exact hll⟩, by repeat (first | exact trivial | refine ⟨rfl, ?_⟩ | refine ⟨?_, ?_⟩)⟩
     ·
      have h4 := nF h4
      refine cx_skip ?_
      refine cx_keep rfl rfl ?_
      refine cx_ops ?_
      refine ax_q (q_mov rfl) ?_
      refine ax_qe (r' := int ((j + 1 : Nat) : Int)) (q_ibin rfl rfl rfl) (by rw [wi (by omega) (by omega)]; rfl) ?_
      refine ax_q (q_mov rfl) ?_
      refine ax_nil ?_
      exact ⟨_, (k, j + 1, l), by simp only; omega, ⟨by simp only; omega, by simp only; omega, hk1, by simp only; omega, rfl, hll⟩, by repeat (first | exact trivial | refine ⟨rfl, ?_⟩ | refine ⟨?_, ?_⟩)⟩
    ·
     have h3 := dF h3
     refine cx_exit rfl ?_
     refine cx_keep rfl rfl ?_
     refine cx_seq ?_
     refine cx_ops ?_
     refine ax_q (q_mov rfl) ?_
     refine ax_q (q_mov rfl) ?_
     refine ax_qe (r' := .osl 1000 1 k (xs.length - k)) (q_slc_osl rfl rfl rfl (by omega) (by omega) (by omega)) (oslE (by omega) (by omega)) ?_
     refine ax_ee (e_clr (row := intRow 0) rfl rfl (by rw [List.length_map]; omega) rfl) rfl ?_
     refine ax_nil ?_
     refine cx_keep rfl rfl ?_
     refine cx_seq ?_
     refine cx_ops ?_
     refine ax_q (q_mov rfl) ?_
     refine ax_q (q_mov rfl) ?_
     refine ax_qe (r' := .osl 1000 1 0 k) (q_slc_osl rfl rfl rfl (by omega) (by omega) (by omega)) (oslE0 (by omega) (by omega)) ?_
     refine ax_q (q_mov rfl) ?_
     refine ax_nil ?_
     refine cx_keep rfl rfl ?_
     refine cx_wk (wk_rows 1000 (rs' := (l.take k).map intRow) rfl ⟨_, by rw [List.map_take, List.append_assoc]⟩) ?_
     refine cx_ret (retN id [1000] rfl rfl rfl rfl rfl ?_)
     exact ⟨l.take k, fun _ => by simp; omega, by simp; omega, by rw [show (l.take k).length = k from by simp; omega]; rfl, rfl⟩
   ·
    have h2 := dF h2
    refine cx_skip ?_
    refine cx_keep rfl rfl ?_
    refine cx_ops ?_
    refine ax_q (q_mov rfl) ?_
    refine ax_qe (r' := int ((i + 1 : Nat) : Int)) (q_ibin rfl rfl rfl) (by rw [wi (by omega) (by omega)]; rfl) ?_
    refine ax_q (q_mov rfl) ?_
    refine ax_nil ?_
    exact ⟨_, i + 1, by omega, ⟨by omega, by omega, rfl⟩, by repeat (first | exact trivial | refine ⟨rfl, ?_⟩ | refine ⟨?_, ?_⟩)⟩
  ·
   have h1 := dF h1
   refine cx_exit rfl ?_
   refine cx_keep rfl rfl ?_
   refine cx_seq ?_
   refine cx_ops ?_
   refine ax_q (q_mov rfl) ?_
   refine ax_q (q_mov rfl) ?_
   refine ax_nil ?_
   refine cx_keep rfl rfl ?_
   refine cx_ret (retN id [1000] rfl rfl rfl rfl rfl ?_)
   exact ⟨xs, id, Nat.le_refl _, rfl, rfl⟩


/- loop.example/g00332/impl.DiskPending -/
def k_c_DiskPending : XCode :=
 .seq (.ops [.op (some 1) (.box (.t 0)),
   .op (some 2) (.mov (.k (.nils 1))),
   .op (some 3) (.mov (.k (.int .i64 0)))])
 (.keep [1] (.seq (.seq (.ops [.op (some 7) (.loadN 4 (.t 1)),
   .call (some 8) 31 [.t 7],
   .op (some 9) (.not (.t 8))])
  (.keep [1, 9] (.cond (.t 9)
  (.seq (.ops [.op (some 2) (.mov (.k (.nils 1))),
    .op (some 3) (.mov (.k (.int .i64 1)))])
   (.keep [2, 3] (.ret)))
  (.skip))))
 (.keep [1] (.seq (.ops [.op (some 10) (.bslice 1 []),
   .op (some 4) (.mov (.t 10))])
 (.keep [1, 4] (.seq (.seq (.ops [.op (some 11) (.fadr (.t 1) 1),
   .op (some 12) (.load1 (.t 11)),
   .op (some 13) (.lenS (.t 12)),
   .op (some 14) (.mov (.k (.int .i64 0)))])
  (.keep [4, 12, 13, 14] (.block 0 (.loop (.seq (.ops [.op (some 15) (.bin .lss (.t 14) (.t 13))])
   (.keep [4, 12, 13, 14, 15] (.seq (.cond (.t 15)
    (.skip)
    (.exit 0))
   (.keep [4, 12, 13, 14] (.seq (.block 1 (.seq (.ops [.op (some 16) (.iadr 2 (.t 12) (.t 14)),
     .op (some 17) (.loadN 2 (.t 16)),
     .op (some 6) (.alloc [.int .i64 0, .str []]),
     .op none (.store 2 (.t 6) (.t 17))])
    (.keep [4, 6, 12, 13, 14] (.ops [.op (some 18) (.mov (.t 4)),
     .op (some 19) (.fadr (.t 6) 0),
     .op (some 20) (.load1 (.t 19)),
     .op (some 21) (.bslice 1 [.t 20]),
     .op (some 22) (.app 1 8 [.int .i64 0] (.t 18) (.t 21)),
     .op (some 4) (.mov (.t 22))]))))
   (.keep [4, 12, 13, 14] (.ops [.op (some 23) (.bin .add (.t 14) (.k (.int .i64 1))),
    .op (some 14) (.mov (.t 23))])))))))))))
 (.keep [4] (.seq (.ops [.op (some 24) (.mov (.t 4)),
   .call (some 25) 66 [.t 24]])
 (.keep [4] (.seq (.ops [.op (some 26) (.mov (.t 4)),
   .call (some 27) 67 [.t 26],
   .call (some 28) 36 [.t 27],
   .op (some 2) (.mov (.t 28)),
   .op (some 3) (.mov (.k (.int .i64 0)))])
 (.keep [2, 3] (.ret))))))))))))
theorem k_c_DiskPending_fits : fitsF Try.prog 30 ⟨29, k_c_DiskPending, [.t 2, .t 3]⟩ = true := by kernel_rfl
theorem c_DiskPending {d : GDisk} (hd : DOK d) (hc : 1 ≤ d.Cache.length ∧ d.Cache.length ≤ 12) : Con Try.prog noMv 30 [d.av] [] (fun r h => ∃ l : List Int, 0 < l.length ∧ l.length ≤ 12 ∧ r = .tup [.d (.sl 1 (l.map intRow)), int 0] ∧ h = []) := by
 refine con_of2 k_c_DiskPending_fits rfl fun C hP hmv => ?_
 unfold k_c_DiskPending
 have h1 := hd.s1
 have h2 := hd.c1
 have h3 := hd.k1
 have hok := hd.ok
 refine cx_seq ?_
 refine cx_ops ?_
 refine ax_e (e_box rfl rfl (by decide) rfl rfl rfl) ?_
 refine ax_q (q_mov rfl) ?_
 refine ax_q (q_mov rfl) ?_
 refine ax_nil ?_
 refine cx_keep rfl rfl ?_
 refine cx_seq ?_
 refine cx_seq ?_
 refine cx_ops ?_
 refine ax_q (q_ldN rfl rfl rfl) ?_
 first | refine ax_call rfl (vc_pure0 (c_DiskOK  ?_ ?_ ?_) hP rfl rfl ?_) | refine ax_call rfl (vc_lend0 (c_DiskOK  ?_ ?_ ?_) hP (by repeat (first | exact lal_id _ rfl | exact LAL.nil | refine LAL.cons ?_ ?_ | exact la_id _ rfl | exact LA.lend (lend_whole rfl (by first | (simp; done) | (rw [List.length_map]; rfl))) | refine LA.agg ?_ | refine LA.fn ?_ | refine LA.lend ?_ | exact Lend.d _ | exact Lend.zs _ | exact lend_whole rfl (by first | (simp; done) | (rw [List.length_map]; rfl)) | refine Lend.ptr rfl ?_ | refine Lend.fn ?_ | exact LendL.nil | refine LendL.cons ?_ ?_)) rfl rfl ?_)
 ·
  first | assumption | omega | (simp; done) | (simp; omega)
 ·
  first | assumption | omega | (simp; done) | (simp; omega)
 ·
  first | assumption | omega | (simp; done) | (simp; omega)
 refine ax_q (q_not rfl) ?_
 refine ax_nil ?_
 refine cx_keep rfl rfl ?_
 refine cx_cond rfl (fun h0 => ?_) (fun h0 => ?_)
 ·
  skip
  exfalso; rw [hok] at h0; cases h0
 ·
  skip
  refine cx_skip ?_
  refine cx_keep rfl rfl ?_
  refine cx_seq ?_
  refine cx_ops ?_
  refine ax_e (e_bslice rfl (by decide) rfl rfl) ?_
  refine ax_q (q_mov rfl) ?_
  refine ax_nil ?_
  refine cx_keep rfl rfl ?_
  refine cx_seq ?_
  refine cx_seq ?_
  refine cx_ops ?_
  refine ax_q (q_fadr_ptr rfl) ?_
  refine ax_q (q_load1_ptr rfl rfl rfl) ?_
  first | refine ax_q (q_lenS_map rfl) ?_ | refine ax_q (q_lenS_osl rfl) ?_ | refine ax_q (q_lenS_zs rfl) ?_ | refine ax_q (q_lenS rfl) ?_
  refine ax_q (q_mov rfl) ?_
  refine ax_nil ?_
  refine cx_keep rfl rfl ?_
  refine cx_block ?_
  refine cx_loopU (fun n (p : Nat × List Int) => p.1 ≤ d.Cache.length ∧ n = d.Cache.length - p.1 ∧ p.2.length = p.1) (fun p => [(14, int p.1), (4, .osl 10 1 0 p.2.length)]) (fun p => [(1, .box [.d (.sl 1 (d.Sectors.map strRow)), .d (.sl 2 (d.Cache.map GPending.row)), .d (.bool d.Armed), .d (.sl 1 (d.Keep.map intRow))]), (10, .rows 1 (p.2.map intRow))])
   ⟨_, (0, []), ⟨Nat.zero_le _, rfl, rfl⟩, by repeat (first | exact trivial | refine ⟨rfl, ?_⟩ | refine ⟨?_, ?_⟩)⟩ ?_
  rintro n ⟨k, l⟩ ⟨hk, rfl, hll⟩
  simp only at hk hll ⊢
  refine cx_seq ?_
  refine cx_ops ?_
  refine ax_q (q_ibin rfl rfl rfl) ?_
  refine ax_nil ?_
  refine cx_keep rfl rfl ?_
  refine cx_seq ?_
  refine cx_cond rfl (fun h1 => ?_) (fun h1 => ?_)
  ·
   have h1 := dT h1
   have h1x : k < d.Cache.length := by omega
   refine cx_skip ?_
   refine cx_keep rfl rfl ?_
   refine cx_seq ?_
   refine cx_block ?_
   refine cx_seq ?_
   refine cx_ops ?_
   refine ax_q (q_ix rfl rfl (mapAt h1x)) ?_
   first | refine ax_q (q_ldN rfl rfl rfl) ?_ | refine ax_q (q_loadN_ip rfl (Nat.le_refl _)) ?_ | refine ax_q (q_loadN_ip rfl (by decide)) ?_ | refine ax_q (q_loadN_rptr rfl rfl (by assumption) (by decide)) ?_ | refine ax_q (q_loadN_rptr rfl rfl (mapAt (by first | assumption | omega)) (by decide)) ?_
   refine ax_e (e_alloc (by decide) rfl rfl) ?_
   refine ax_e (e_st rfl rfl rfl rfl rfl rfl rfl) ?_
   refine ax_nil ?_
   refine cx_keep rfl rfl ?_
   refine cx_ops ?_
   refine ax_q (q_mov rfl) ?_
   refine ax_q (q_fadr_ptr rfl) ?_
   refine ax_q (q_load1_ptr rfl rfl rfl) ?_
   refine ax_e (e_bsliceD (rows := [intRow d.Cache[k].At]) rfl) ?_
   refine ax_e (e_appn (n' := (l ++ [d.Cache[k].At]).length) (rs' := (l ++ [d.Cache[k].At]).map intRow) rfl rfl (by simp) rfl (src_sl 1 _) (.inl (by decide)) (hbnd (by omega) (by simp) (by decide)) (by simp) (by rw [List.take_of_length_le (by simp), List.map_append]; rfl)) ?_
   refine ax_q (q_mov rfl) ?_
   refine ax_nil ?_
   refine cx_keep rfl rfl ?_
   refine cx_ops ?_
   refine ax_qe (r' := int ((k + 1 : Nat) : Int)) (q_ibin rfl rfl rfl) (by rw [wi (by omega) (by omega)]; rfl) ?_
   refine ax_q (q_mov rfl) ?_
   refine ax_nil ?_
   exact ⟨_, (k + 1, l ++ [d.Cache[k].At]), by simp only; omega, ⟨by simp only; omega, rfl, by simp [hll]⟩, by repeat (first | exact trivial | refine ⟨rfl, ?_⟩ | refine ⟨?_, ?_⟩)⟩
  ·
   have h1 := dF h1
   refine cx_exit rfl ?_
   refine cx_keep rfl rfl ?_
   refine cx_seq ?_
   refine cx_ops ?_
   refine ax_q (q_mov rfl) ?_
   refine ax_call rfl (vcall_own (c_SortI (xs := l) (by omega)) hP hmv false (fun _ => 10) [1000] ⟨rfl, rfl, rfl, rfl, ⟨rfl, trivial⟩, rfl, rfl, rfl⟩ (.pass rfl rfl .nil) ?_)
   rintro r h ⟨l2, hl2, rfl, rfl⟩
   refine ⟨fun _ => 10, [], ⟨rfl, rfl, rfl, rfl, mem1 rfl, rfl, rfl, fun h => absurd h Bool.false_ne_true⟩, ?_⟩
   rw [← hl2]
   refine ax_nil ?_
   refine cx_keep rfl rfl ?_
   refine cx_seq ?_
   refine cx_ops ?_
   refine ax_q (q_mov rfl) ?_
   refine ax_call rfl (vcall_own (c_CompactI (xs := l2) (by omega)) hP hmv false (fun _ => 10) [1000] ⟨rfl, rfl, rfl, rfl, ⟨rfl, trivial⟩, rfl, rfl, rfl⟩ (.pass rfl rfl .nil) ?_)
   rintro r h ⟨l3, hl3, hl4, rfl, rfl⟩
   refine ⟨fun _ => 10, [], ⟨rfl, rfl, rfl, rfl, mem1 rfl, rfl, rfl, fun h => absurd h Bool.false_ne_true⟩, ?_⟩
   first | refine ax_call rfl (vc_pure (c_Clone_Int (xs := l3) ?_) hP rfl ?_) | refine ax_call rfl (vc_lend (c_Clone_Int (xs := l3) ?_) hP (by repeat (first | exact lal_id _ rfl | exact LAL.nil | refine LAL.cons ?_ ?_ | exact la_id _ rfl | exact LA.lend (lend_whole rfl (by first | (simp; done) | (rw [List.length_map]; rfl))) | refine LA.agg ?_ | refine LA.fn ?_ | refine LA.lend ?_ | exact Lend.d _ | exact Lend.zs _ | exact lend_whole rfl (by first | (simp; done) | (rw [List.length_map]; rfl)) | refine Lend.ptr rfl ?_ | refine Lend.fn ?_ | exact LendL.nil | refine LendL.cons ?_ ?_)) ?_)
   ·
    first | assumption | omega | (simp; done) | (simp; omega)
   rintro r h ⟨rfl, rfl⟩
   refine ⟨fun i => 28 + 200 * i, [0], ⟨rfl, rfl, rfl, rfl, rfl, (by first | exact (fun h => absurd h Bool.false_ne_true) | exact (fun _ => ⟨rfl, (noisl_of (by repeat (first | exact trivial | refine ⟨noisl_map (fun _ => rfl), ?_⟩ | refine ⟨?_, ?_⟩)))⟩))⟩, ?_⟩
   skip
   refine ax_q (q_mov rfl) ?_
   refine ax_q (q_mov rfl) ?_
   refine ax_nil ?_
   refine cx_keep rfl rfl ?_
   refine cx_wk (wk_frz 2 28 rfl rfl (.whole (by simp)) rfl) ?_
   refine cx_ret (retN id [] rfl rfl rfl rfl rfl ?_)
   exact ⟨l3, hl3 (by omega), by omega, rfl, rfl⟩

end Go.Proofs.Ythalkmobccealaa
