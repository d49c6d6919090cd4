/- The walks: what each function computes, as a contract without a world (part 0). -/
import Derived.Test.YtalnddcijlkklaaProg
import Derived.Test.YtalnddcijlkklaaD
namespace Go.Proofs.Ytalnddcijlkklaa
open Go Go.AM
set_option maxRecDepth 10000
set_option linter.unusedVariables false
/- math/bits.Mul64 -/
def k_c_Mul64 : XCode :=
 .seq (.ops [.op (some 4) (.mov (.k (.int .u64 0))),
   .op (some 5) (.mov (.k (.int .u64 0)))])
 (.keep [0, 1] (.seq (.ops [.op (some 14) (.mov (.t 0)),
   .op (some 15) (.bin .and (.t 14) (.k (.int .u64 4294967295))),
   .op (some 6) (.mov (.t 15))])
 (.keep [0, 1, 6] (.seq (.ops [.op (some 16) (.mov (.t 0)),
   .op (some 17) (.bin .shr (.t 16) (.k (.int .u64 32))),
   .op (some 7) (.mov (.t 17))])
 (.keep [0, 1, 6, 7] (.seq (.ops [.op (some 18) (.mov (.t 1)),
   .op (some 19) (.bin .and (.t 18) (.k (.int .u64 4294967295))),
   .op (some 8) (.mov (.t 19))])
 (.keep [0, 1, 6, 7, 8] (.seq (.ops [.op (some 20) (.mov (.t 1)),
   .op (some 21) (.bin .shr (.t 20) (.k (.int .u64 32))),
   .op (some 9) (.mov (.t 21))])
 (.keep [0, 1, 6, 7, 8, 9] (.seq (.ops [.op (some 22) (.mov (.t 6)),
   .op (some 23) (.mov (.t 8)),
   .op (some 24) (.bin .mul (.t 22) (.t 23)),
   .op (some 10) (.mov (.t 24))])
 (.keep [0, 1, 6, 7, 8, 9, 10] (.seq (.ops [.op (some 25) (.mov (.t 7)),
   .op (some 26) (.mov (.t 8)),
   .op (some 27) (.bin .mul (.t 25) (.t 26)),
   .op (some 28) (.mov (.t 10)),
   .op (some 29) (.bin .shr (.t 28) (.k (.int .u64 32))),
   .op (some 30) (.bin .add (.t 27) (.t 29)),
   .op (some 11) (.mov (.t 30))])
 (.keep [0, 1, 6, 7, 9, 11] (.seq (.ops [.op (some 31) (.mov (.t 11)),
   .op (some 32) (.bin .and (.t 31) (.k (.int .u64 4294967295))),
   .op (some 12) (.mov (.t 32))])
 (.keep [0, 1, 6, 7, 9, 11, 12] (.seq (.ops [.op (some 33) (.mov (.t 11)),
   .op (some 34) (.bin .shr (.t 33) (.k (.int .u64 32))),
   .op (some 13) (.mov (.t 34))])
 (.keep [0, 1, 6, 7, 9, 12, 13] (.seq (.ops [.op (some 35) (.mov (.t 12)),
   .op (some 36) (.mov (.t 6)),
   .op (some 37) (.mov (.t 9)),
   .op (some 38) (.bin .mul (.t 36) (.t 37)),
   .op (some 39) (.bin .add (.t 35) (.t 38)),
   .op (some 12) (.mov (.t 39))])
 (.keep [0, 1, 7, 9, 12, 13] (.seq (.ops [.op (some 40) (.mov (.t 7)),
   .op (some 41) (.mov (.t 9)),
   .op (some 42) (.bin .mul (.t 40) (.t 41)),
   .op (some 43) (.mov (.t 13)),
   .op (some 44) (.bin .add (.t 42) (.t 43)),
   .op (some 45) (.mov (.t 12)),
   .op (some 46) (.bin .shr (.t 45) (.k (.int .u64 32))),
   .op (some 47) (.bin .add (.t 44) (.t 46)),
   .op (some 4) (.mov (.t 47))])
 (.keep [0, 1, 4] (.seq (.ops [.op (some 48) (.mov (.t 0)),
   .op (some 49) (.mov (.t 1)),
   .op (some 50) (.bin .mul (.t 48) (.t 49)),
   .op (some 5) (.mov (.t 50))])
 (.keep [4, 5] (.ret))))))))))))))))))))))))
theorem k_c_Mul64_fits : fitsF Try.prog 113 ⟨51, k_c_Mul64, [.t 4, .t 5]⟩ = true := by kernel_rfl
theorem c_Mul64 {m : Nat} (hm : m < 101) : Con Try.prog noMv 113 [.d (.int .u64 1), .d (.int .u64 m)] [] (fun r h => r = .tup [.d (.int .u64 0), .d (.int .u64 m)] ∧ h = []) := by
 refine con_of2 k_c_Mul64_fits rfl fun C hP hmv => ?_
 unfold k_c_Mul64
 refine cx_seq ?_
 refine cx_ops ?_
 refine ax_q (q_mov rfl) ?_
 refine ax_q (q_mov rfl) ?_
 refine ax_nil ?_
 refine cx_keep rfl rfl ?_
 refine cx_seq ?_
 refine cx_ops ?_
 refine ax_q (q_mov rfl) ?_
 refine ax_q (q_ibit rfl rfl rfl) ?_
 refine ax_q (q_mov rfl) ?_
 refine ax_nil ?_
 refine cx_keep rfl rfl ?_
 refine cx_seq ?_
 refine cx_ops ?_
 refine ax_q (q_mov rfl) ?_
 refine ax_q (q_ishf rfl rfl rfl (by omega)) ?_
 refine ax_q (q_mov rfl) ?_
 refine ax_nil ?_
 refine cx_keep rfl rfl ?_
 refine cx_seq ?_
 refine cx_ops ?_
 refine ax_q (q_mov rfl) ?_
 refine ax_q (q_ibit rfl rfl rfl) ?_
 refine ax_q (q_mov rfl) ?_
 refine ax_nil ?_
 refine cx_keep rfl rfl ?_
 refine cx_seq ?_
 refine cx_ops ?_
 refine ax_q (q_mov rfl) ?_
 refine ax_q (q_ishf rfl rfl rfl (by omega)) ?_
 refine ax_q (q_mov rfl) ?_
 refine ax_nil ?_
 refine cx_keep rfl rfl ?_
 refine cx_seq ?_
 refine cx_ops ?_
 refine ax_q (q_mov rfl) ?_
 refine ax_q (q_mov rfl) ?_
 refine ax_q (q_ibin rfl rfl rfl) ?_
 refine ax_q (q_mov rfl) ?_
 refine ax_nil ?_
 refine cx_keep rfl rfl ?_
 refine cx_seq ?_
 refine cx_ops ?_
 refine ax_q (q_mov rfl) ?_
 refine ax_q (q_mov rfl) ?_
 refine ax_q (q_ibin rfl rfl rfl) ?_
 refine ax_q (q_mov rfl) ?_
 refine ax_q (q_ishf rfl rfl rfl (by omega)) ?_
 refine ax_q (q_ibin rfl rfl rfl) ?_
 refine ax_q (q_mov rfl) ?_
 refine ax_nil ?_
 refine cx_keep rfl rfl ?_
 refine cx_seq ?_
 refine cx_ops ?_
 refine ax_q (q_mov rfl) ?_
 refine ax_q (q_ibit rfl rfl rfl) ?_
 refine ax_q (q_mov rfl) ?_
 refine ax_nil ?_
 refine cx_keep rfl rfl ?_
 refine cx_seq ?_
 refine cx_ops ?_
 refine ax_q (q_mov rfl) ?_
 refine ax_q (q_ishf rfl rfl rfl (by omega)) ?_
 refine ax_q (q_mov rfl) ?_
 refine ax_nil ?_
 refine cx_keep rfl rfl ?_
 refine cx_seq ?_
 refine cx_ops ?_
 refine ax_q (q_mov rfl) ?_
 refine ax_q (q_mov rfl) ?_
 refine ax_q (q_mov rfl) ?_
 refine ax_q (q_ibin rfl rfl rfl) ?_
 refine ax_q (q_ibin rfl rfl rfl) ?_
 refine ax_q (q_mov rfl) ?_
 refine ax_nil ?_
 refine cx_keep rfl rfl ?_
 refine cx_seq ?_
 refine cx_ops ?_
 refine ax_q (q_mov rfl) ?_
 refine ax_q (q_mov rfl) ?_
 refine ax_q (q_ibin rfl rfl rfl) ?_
 refine ax_q (q_mov rfl) ?_
 refine ax_q (q_ibin rfl rfl rfl) ?_
 refine ax_q (q_mov rfl) ?_
 refine ax_q (q_ishf rfl rfl rfl (by omega)) ?_
 refine ax_q (q_ibin rfl rfl rfl) ?_
 refine ax_q (q_mov rfl) ?_
 refine ax_nil ?_
 refine cx_keep rfl rfl ?_
 refine cx_seq ?_
 refine cx_ops ?_
 refine ax_q (q_mov rfl) ?_
 refine ax_q (q_mov rfl) ?_
 refine ax_q (q_ibin rfl rfl rfl) ?_
 refine ax_q (q_mov rfl) ?_
 refine ax_nil ?_
 refine cx_keep rfl rfl ?_
 refine cx_ret (ret0 rfl rfl ?_)
 exact ⟨mul64_r hm, rfl⟩


/- math/bits.Mul -/
def k_c_Mul : XCode :=
 .seq (.ops [.op (some 4) (.mov (.k (.int .u64 0))),
   .op (some 5) (.mov (.k (.int .u64 0)))])
 (.keep [0, 1] (.seq (.cond (.k (.bool false))
  (.seq (.ops [.op (some 11) (.mov (.t 0)),
    .op (some 12) (.conv .u32 (.t 11)),
    .op (some 13) (.mov (.t 1)),
    .op (some 14) (.conv .u32 (.t 13)),
    .call (some 15) 112 [.t 12, .t 14],
    .op (some 10) (.mov (.t 15)),
    .op (some 16) (.ext (.t 10) 0),
    .op (some 17) (.ext (.t 10) 1),
    .op (some 6) (.mov (.t 16)),
    .op (some 7) (.mov (.t 17))])
   (.keep [6, 7] (.seq (.ops [.op (some 18) (.mov (.t 6)),
    .op (some 19) (.conv .u64 (.t 18)),
    .op (some 20) (.mov (.t 7)),
    .op (some 21) (.conv .u64 (.t 20)),
    .op (some 4) (.mov (.t 19)),
    .op (some 5) (.mov (.t 21))])
   (.keep [4, 5] (.ret)))))
  (.skip))
 (.keep [0, 1] (.seq (.ops [.op (some 23) (.mov (.t 0)),
   .op (some 24) (.mov (.t 1)),
   .call (some 25) 113 [.t 23, .t 24],
   .op (some 22) (.mov (.t 25)),
   .op (some 26) (.ext (.t 22) 0),
   .op (some 27) (.ext (.t 22) 1),
   .op (some 8) (.mov (.t 26)),
   .op (some 9) (.mov (.t 27))])
 (.keep [8, 9] (.seq (.ops [.op (some 28) (.mov (.t 8)),
   .op (some 29) (.mov (.t 9)),
   .op (some 4) (.mov (.t 28)),
   .op (some 5) (.mov (.t 29))])
 (.keep [4, 5] (.ret))))))))
theorem k_c_Mul_fits : fitsF Try.prog 99 ⟨30, k_c_Mul, [.t 4, .t 5]⟩ = true := by kernel_rfl
theorem c_Mul {m : Nat} (hm : m < 101) : Con Try.prog noMv 99 [.d (.int .u64 1), .d (.int .u64 m)] [] (fun r h => r = .tup [.d (.int .u64 0), .d (.int .u64 m)] ∧ h = []) := by
 refine con_of2 k_c_Mul_fits rfl fun C hP hmv => ?_
 unfold k_c_Mul
 refine cx_seq ?_
 refine cx_ops ?_
 refine ax_q (q_mov rfl) ?_
 refine ax_q (q_mov rfl) ?_
 refine ax_nil ?_
 refine cx_keep rfl rfl ?_
 refine cx_seq ?_
 refine cx_cond rfl (fun h0 => ?_) (fun h0 => ?_)
 ·
  skip
  cases h0
 ·
  skip
  refine cx_skip ?_
  refine cx_keep rfl rfl ?_
  refine cx_seq ?_
  refine cx_ops ?_
  refine ax_q (q_mov rfl) ?_
  refine ax_q (q_mov rfl) ?_
  first | refine ax_call rfl (vc_pure0 (c_Mul64 (m := m) ?_) hP rfl rfl ?_) | refine ax_call rfl (vc_lend0 (c_Mul64 (m := m) ?_) hP (by repeat (first | exact lal_id _ rfl | exact LAL.nil | refine LAL.cons ?_ ?_ | exact la_id _ rfl | exact LA.lend (lend_whole rfl (by first | (simp; done) | (rw [List.length_map]; rfl))) | refine LA.agg ?_ | refine LA.fn ?_ | refine LA.lend ?_ | exact Lend.d _ | exact Lend.zs _ | exact lend_whole rfl (by first | (simp; done) | (rw [List.length_map]; rfl)) | refine Lend.ptr rfl ?_ | refine Lend.fn ?_ | exact LendL.nil | refine LendL.cons ?_ ?_)) rfl rfl ?_)
  ·
   first | assumption | omega | (simp; done) | (simp; omega)
  refine ax_q (q_mov rfl) ?_
  refine ax_q (q_ext rfl rfl) ?_
  refine ax_q (q_ext rfl rfl) ?_
  refine ax_q (q_mov rfl) ?_
  refine ax_q (q_mov rfl) ?_
  refine ax_nil ?_
  refine cx_keep rfl rfl ?_
  refine cx_seq ?_
  refine cx_ops ?_
  refine ax_q (q_mov rfl) ?_
  refine ax_q (q_mov rfl) ?_
  refine ax_q (q_mov rfl) ?_
  refine ax_q (q_mov rfl) ?_
  refine ax_nil ?_
  refine cx_keep rfl rfl ?_
  refine cx_ret (ret0 rfl rfl ?_)
  exact ⟨rfl, rfl⟩


/- slices.Repeat[[]int,int] -/
def k_c_Repeat : XCode :=
 .seq (.ops [.op (some 4) (.mov (.k (.nils 1)))])
 (.keep [0, 1] (.seq (.seq (.ops [.op (some 9) (.mov (.t 1)),
   .op (some 10) (.bin .lss (.t 9) (.k (.int .i64 0)))])
  (.keep [0, 1, 10] (.cond (.t 10)
  (.ops [.op (some 11) (.bad),
    .op none (.bad)])
  (.skip))))
 (.keep [0, 1] (.seq (.ops [.op (some 13) (.mov (.t 0)),
   .op (some 14) (.lenS (.t 13)),
   .op (some 15) (.conv .u64 (.t 14)),
   .op (some 16) (.mov (.t 1)),
   .op (some 17) (.conv .u64 (.t 16)),
   .call (some 18) 99 [.t 15, .t 17],
   .op (some 12) (.mov (.t 18)),
   .op (some 19) (.ext (.t 12) 0),
   .op (some 20) (.ext (.t 12) 1),
   .op (some 5) (.mov (.t 19)),
   .op (some 6) (.mov (.t 20))])
 (.keep [0, 5, 6] (.seq (.seq (.ops [.op (some 21) (.mov (.t 5)),
   .op (some 22) (.bin .gtr (.t 21) (.k (.int .u64 0))),
   .op (some 23) (.mov (.t 22)),
   .andor 26 false 2 23 [.op (some 24) (.mov (.t 6)), .op (some 25) (.bin .gtr (.t 24) (.k (.int .u64 9223372036854775807)))] (.t 25)])
  (.keep [0, 6, 26] (.cond (.t 26)
  (.ops [.op (some 27) (.bad),
    .op none (.bad)])
  (.skip))))
 (.keep [0, 6] (.seq (.ops [.op (some 28) (.mov (.t 6)),
   .op (some 29) (.conv .i64 (.t 28)),
   .op (some 30) (.mkslice 1 8 [.int .i64 0] (.t 29) (.t 29)),
   .op (some 7) (.mov (.t 30))])
 (.keep [0, 7] (.seq (.ops [.op (some 31) (.mov (.t 7)),
   .op (some 32) (.mov (.t 0)),
   .op (some 33) (.cpy 1 (.t 31) (.t 32)),
   .op (some 8) (.mov (.t 33))])
 (.keep [7, 8] (.seq (.block 0 (.loop (.seq (.seq (.ops [.op (some 34) (.mov (.t 8)),
     .op (some 35) (.mov (.t 7)),
     .op (some 36) (.lenS (.t 35)),
     .op (some 37) (.bin .lss (.t 34) (.t 36))])
   (.keep [7, 8, 37] (.cond (.t 37)
    (.skip)
    (.exit 0))))
   (.keep [7, 8] (.block 1 (.drawE [[], [], [], [1, 2], [], [], [4, 5], [1, 2, 3, 4, 5, 6], [0, 1, 2, 3, 4, 5, 6, 7], [0, 1, 2, 3, 4, 5, 6, 7, 8]] [.op (some 38) (.mov (.t 8)),
    .op (some 39) (.mov (.t 7)),
    .op (some 40) (.mov (.t 8)),
    .op (some 41) (.slc 1 (.t 39) (some (.t 40)) none none),
    .op (some 42) (.mov (.t 7)),
    .op (some 43) (.mov (.t 8)),
    .op (some 44) (.slc 1 (.t 42) none (some (.t 43)) none),
    .op (some 45) (.cpy 1 (.t 41) (.t 44))]
    [.op (some 46) (.bin .add (.t 38) (.t 45)),
    .op (some 8) (.mov (.t 46))]))))))
 (.keep [7] (.seq (.ops [.op (some 47) (.mov (.t 7)),
   .op (some 4) (.mov (.t 47))])
 (.keep [4] (.ret))))))))))))))))
theorem k_c_Repeat_fits : fitsF Try.prog 73 ⟨48, k_c_Repeat, [.t 4]⟩ = true := by kernel_rfl
theorem c_Repeat {q : Int} {m : Nat} (hm : 1 ≤ m ∧ m ≤ 100) : Con Try.prog noMv 73 [.d (.sl 1 [intRow q]), int (m : Nat)] [] (fun r h => r = .osl 0 1 0 m ∧ h = [(0, .rows 1 (List.replicate m (intRow q)))]) := by
 refine con_of2 k_c_Repeat_fits rfl fun C hP hmv => ?_
 unfold k_c_Repeat
 refine cx_seq ?_
 refine cx_ops ?_
 refine ax_q (q_mov rfl) ?_
 refine ax_nil ?_
 refine cx_keep rfl rfl ?_
 refine cx_seq ?_
 refine cx_seq ?_
 refine cx_ops ?_
 refine ax_q (q_mov rfl) ?_
 refine ax_q (q_ibin rfl rfl rfl) ?_
 refine ax_nil ?_
 refine cx_keep rfl rfl ?_
 refine cx_cond rfl (fun h0 => ?_) (fun h0 => ?_)
 ·
  have h0 := dT h0
  exfalso; omega
 ·
  have h0 := dF h0
  refine cx_skip ?_
  refine cx_keep rfl rfl ?_
  refine cx_seq ?_
  refine cx_ops ?_
  refine ax_q (q_mov rfl) ?_
  first | refine ax_q (q_lenS_map rfl) ?_ | refine ax_q (q_lenS_osl rfl) ?_ | refine ax_q (q_lenS_zs rfl) ?_ | refine ax_q (q_lenS rfl) ?_
  refine ax_qe (r' := .d (.int .u64 1)) (q_conv rfl) (rfl) ?_
  refine ax_q (q_mov rfl) ?_
  refine ax_qe (r' := .d (.int .u64 m)) (q_conv rfl) (u64_of (by omega)) ?_
  first | refine ax_call rfl (vc_pure0 (c_Mul (m := m) ?_) hP rfl rfl ?_) | refine ax_call rfl (vc_lend0 (c_Mul (m := m) ?_) hP (by repeat (first | exact lal_id _ rfl | exact LAL.nil | refine LAL.cons ?_ ?_ | exact la_id _ rfl | exact LA.lend (lend_whole rfl (by first | (simp; done) | (rw [List.length_map]; rfl))) | refine LA.agg ?_ | refine LA.fn ?_ | refine LA.lend ?_ | exact Lend.d _ | exact Lend.zs _ | exact lend_whole rfl (by first | (simp; done) | (rw [List.length_map]; rfl)) | refine Lend.ptr rfl ?_ | refine Lend.fn ?_ | exact LendL.nil | refine LendL.cons ?_ ?_)) rfl rfl ?_)
  ·
   first | assumption | omega | (simp; done) | (simp; omega)
  refine ax_q (q_mov rfl) ?_
  refine ax_q (q_ext rfl rfl) ?_
  refine ax_q (q_ext rfl rfl) ?_
  refine ax_q (q_mov rfl) ?_
  refine ax_q (q_mov rfl) ?_
  refine ax_nil ?_
  refine cx_keep rfl rfl ?_
  refine cx_seq ?_
  refine cx_seq ?_
  refine cx_ops ?_
  refine ax_q (q_mov rfl) ?_
  refine ax_q (q_ibin rfl rfl rfl) ?_
  refine ax_q (q_mov rfl) ?_
  apply ax_or rfl rfl
  ·
   intro g
   have g := dF g
   refine ax_q (q_mov rfl) ?_
   refine ax_q (q_ibin rfl rfl rfl) ?_
   exact ax_nil ⟨rfl, by repeat (first | exact trivial | refine ⟨rfl, ?_⟩ | refine ⟨?_, ?_⟩)⟩
  refine ax_nil ?_
  refine cx_keep rfl rfl ?_
  refine cx_cond rfl (fun h1 => ?_) (fun h1 => ?_)
  ·
   have h1 := (fun h => (or_T h).imp dT dT) h1
   exfalso; omega
  ·
   have h1 := (fun h => And.intro (dF (or_F h).1) (dF (or_F h).2)) h1
   refine cx_skip ?_
   refine cx_keep rfl rfl ?_
   refine cx_seq ?_
   refine cx_ops ?_
   refine ax_q (q_mov rfl) ?_
   refine ax_qe (r' := int m) (q_conv rfl) (i64_of (by omega)) ?_
   refine ax_ee (e_mkslice rfl rfl rfl (by omega) (by omega) (by omega) (by decide) rfl rfl) (by rw [Int.toNat_natCast]) ?_
   refine ax_q (q_mov rfl) ?_
   refine ax_nil ?_
   refine cx_keep rfl rfl ?_
   refine cx_seq ?_
   refine cx_ops ?_
   refine ax_q (q_mov rfl) ?_
   refine ax_q (q_mov rfl) ?_
   refine ax_ee (st'' := ⟨(33, int (1 : Nat)) :: _, (30, .rows 1 (repS (intRow q) (intRow 0) m 1)) :: _⟩) (e_cpy rfl rfl (by simp) rfl (src_sl 1 _)) (by rw [← repS_0 hm.1, show min [intRow q].length m = 1 from by simp; omega]; rfl) ?_
   refine ax_q (q_mov rfl) ?_
   refine ax_nil ?_
   refine cx_keep rfl rfl ?_
   refine cx_seq ?_
   refine cx_block ?_
   refine cx_loopU (fun n k => 1 ≤ k ∧ k ≤ m ∧ n = m - k) (fun k : Nat => [(8, int k)]) (fun k => [(30, .rows 1 (repS (intRow q) (intRow 0) m k))]) ⟨_, 1, ⟨Nat.le_refl _, hm.1, rfl⟩, by repeat (first | exact trivial | refine ⟨rfl, ?_⟩ | refine ⟨?_, ?_⟩)⟩ ?_
   rintro n k ⟨hk1, hk, rfl⟩
   refine cx_seq ?_
   refine cx_seq ?_
   refine cx_ops ?_
   refine ax_q (q_mov rfl) ?_
   refine ax_q (q_mov rfl) ?_
   first | refine ax_q (q_lenS_map rfl) ?_ | refine ax_q (q_lenS_osl rfl) ?_ | refine ax_q (q_lenS_zs rfl) ?_ | refine ax_q (q_lenS rfl) ?_
   refine ax_q (q_ibin rfl rfl rfl) ?_
   refine ax_nil ?_
   refine cx_keep rfl rfl ?_
   refine cx_cond rfl (fun h2 => ?_) (fun h2 => ?_)
   ·
    have h2 := dT h2
    have h2x : k < m := by omega
    refine cx_skip ?_
    refine cx_keep rfl rfl ?_
    refine cx_block ?_
    refine cx_drawL 7 45 (fun _ => false) (fun _ => true) [] ([(30, .rows 1 (repS (intRow q) (intRow 0) m (k + min k (m - k))))]) [[8], [7], [8], [39, 40], [7], [8], [42, 43], [41, 44]] [[30], [], [], [], [], [], [], [30]] rfl ?_
    first | refine ⟨_, .inr ⟨rfl, _, rfl, .inr ⟨rfl, rfl, .inr rfl, rfl, rfl⟩, loc_q (q_mov rfl)⟩, ?_⟩
    first | refine ⟨_, .inr ⟨rfl, _, rfl, .inl rfl, loc_q (q_mov rfl)⟩, ?_⟩
    first | refine ⟨_, .inr ⟨rfl, _, rfl, .inl rfl, loc_q (q_mov rfl)⟩, ?_⟩
    first | refine ⟨_, .inr ⟨rfl, _, rfl, .inl rfl, loc_qe (r' := .osl 30 1 k (m - k)) (q_slc_osl rfl rfl rfl (by omega) (by omega) (by omega)) (oslE (by omega) (by omega))⟩, ?_⟩
    first | refine ⟨_, .inr ⟨rfl, _, rfl, .inl rfl, loc_q (q_mov rfl)⟩, ?_⟩
    first | refine ⟨_, .inr ⟨rfl, _, rfl, .inl rfl, loc_q (q_mov rfl)⟩, ?_⟩
    first | refine ⟨_, .inr ⟨rfl, _, rfl, .inl rfl, loc_qe (r' := .osl 30 1 0 k) (q_slc_osl rfl rfl rfl (by omega) (by omega) (by omega)) (oslE (by omega) (by omega))⟩, ?_⟩
    refine ⟨⟨45, _, []⟩, .inl ⟨rfl, rfl, rfl, locl_cpy (n' := min k (m - k)) rfl rfl (by have := repS_len (q := intRow q) (z := intRow 0) hk; omega) rfl (fun _ _ h => src_osl (h _ _ rfl) (by have := repS_len (q := intRow q) (z := intRow 0) hk; omega)) (by simp only [List.length_take, List.length_drop, repS_len hk]; omega) (repS_step hk)⟩, ?_⟩
    refine ⟨rfl, ?_⟩
    refine ax_qe (r' := int ((k + min k (m - k) : Nat) : Int)) (q_ibin rfl rfl rfl) (by rw [wi (by omega) (by omega)]; congr 2) ?_
    refine ax_q (q_mov rfl) ?_
    refine ax_nil ?_
    exact ⟨_, k + min k (m - k), by omega, ⟨by omega, by omega, rfl⟩, by repeat (first | exact trivial | refine ⟨rfl, ?_⟩ | refine ⟨?_, ?_⟩)⟩
   ·
    have h2 := dF h2
    have h2x : k = m := by omega
    subst h2x
    refine cx_exit rfl ?_
    refine cx_keep rfl rfl ?_
    refine cx_seq ?_
    refine cx_ops ?_
    refine ax_q (q_mov rfl) ?_
    refine ax_q (q_mov rfl) ?_
    refine ax_nil ?_
    refine cx_keep rfl rfl ?_
    refine cx_ret (retN (fun _ => 0) [30] rfl rfl rfl rfl rfl ?_)
    rw [repS_full]; exact ⟨rfl, rfl⟩


/- loop.example/g00332/impl.inRange -/
def k_c_inRange : XCode :=
 .seq (.ops [.op (some 6) (.mov (.k (.bool false)))])
 (.keep [0, 1, 2] (.seq (.ops [.op (some 7) (.mov (.t 1)),
   .op (some 8) (.mov (.t 0)),
   .op (some 9) (.bin .leq (.t 7) (.t 8)),
   .op (some 10) (.mov (.t 9)),
   .andor 14 true 3 10 [.op (some 11) (.mov (.t 0)), .op (some 12) (.mov (.t 2)), .op (some 13) (.bin .leq (.t 11) (.t 12))] (.t 13),
   .op (some 6) (.mov (.t 14))])
 (.keep [6] (.ret))))
theorem k_c_inRange_fits : fitsF Try.prog 54 ⟨15, k_c_inRange, [.t 6]⟩ = true := by kernel_rfl
theorem c_inRange {n lo hi : Int} : Con Try.prog noMv 54 [int n, int lo, int hi] [] (fun r h => r = bool (inR n lo hi) ∧ h = []) := by
 refine con_of2 k_c_inRange_fits rfl fun C hP hmv => ?_
 unfold k_c_inRange
 refine cx_seq ?_
 refine cx_ops ?_
 refine ax_q (q_mov rfl) ?_
 refine ax_nil ?_
 refine cx_keep rfl rfl ?_
 refine cx_seq ?_
 refine cx_ops ?_
 refine ax_q (q_mov rfl) ?_
 refine ax_q (q_mov rfl) ?_
 refine ax_q (q_ibin rfl rfl rfl) ?_
 refine ax_q (q_mov rfl) ?_
 apply ax_and rfl rfl
 ·
  intro g
  have g := dT g
  refine ax_q (q_mov rfl) ?_
  refine ax_q (q_mov rfl) ?_
  refine ax_q (q_ibin rfl rfl rfl) ?_
  exact ax_nil ⟨rfl, by repeat (first | exact trivial | refine ⟨rfl, ?_⟩ | refine ⟨?_, ?_⟩)⟩
 refine ax_q (q_mov rfl) ?_
 refine ax_nil ?_
 refine cx_keep rfl rfl ?_
 refine cx_ret (ret0 rfl rfl ?_)
 exact ⟨rfl, rfl⟩


/- loop.example/g00332/impl.isPlace -/
def k_c_isPlace : XCode :=
 .seq (.ops [.op (some 4) (.mov (.k (.bool false)))])
 (.keep [0, 1] (.seq (.ops [.op (some 5) (.mov (.t 0)),
   .op (some 6) (.mov (.t 1)),
   .op (some 7) (.bin .sub (.t 6) (.k (.int .i64 1))),
   .call (some 8) 54 [.t 5, .k (.int .i64 0), .t 7],
   .op (some 4) (.mov (.t 8))])
 (.keep [4] (.ret))))
theorem k_c_isPlace_fits : fitsF Try.prog 52 ⟨9, k_c_isPlace, [.t 4]⟩ = true := by kernel_rfl
theorem c_isPlace {n k : Int} (hk : 0 ≤ k ∧ k ≤ 1048576) : Con Try.prog noMv 52 [int n, int k] [] (fun r h => r = bool (inR n 0 (k - 1)) ∧ h = []) := by
 refine con_of2 k_c_isPlace_fits rfl fun C hP hmv => ?_
 unfold k_c_isPlace
 refine cx_seq ?_
 refine cx_ops ?_
 refine ax_q (q_mov rfl) ?_
 refine ax_nil ?_
 refine cx_keep rfl rfl ?_
 refine cx_seq ?_
 refine cx_ops ?_
 refine ax_q (q_mov rfl) ?_
 refine ax_q (q_mov rfl) ?_
 refine ax_q (q_sub rfl rfl (by omega)) ?_
 first | refine ax_call rfl (vc_pure0 (c_inRange  ) hP rfl rfl ?_) | refine ax_call rfl (vc_lend0 (c_inRange  ) hP (by repeat (first | exact lal_id _ rfl | exact LAL.nil | refine LAL.cons ?_ ?_ | exact la_id _ rfl | exact LA.lend (lend_whole rfl (by first | (simp; done) | (rw [List.length_map]; rfl))) | refine LA.agg ?_ | refine LA.fn ?_ | refine LA.lend ?_ | exact Lend.d _ | exact Lend.zs _ | exact lend_whole rfl (by first | (simp; done) | (rw [List.length_map]; rfl)) | refine Lend.ptr rfl ?_ | refine Lend.fn ?_ | exact LendL.nil | refine LendL.cons ?_ ?_)) rfl rfl ?_)
 refine ax_q (q_mov rfl) ?_
 refine ax_nil ?_
 refine cx_keep rfl rfl ?_
 refine cx_ret (ret0 rfl rfl ?_)
 exact ⟨rfl, rfl⟩


/- loop.example/g00332/impl.isNumber -/
def k_c_isNumber : XCode :=
 .seq (.ops [.op (some 2) (.mov (.k (.bool false)))])
 (.keep [0] (.seq (.ops [.op (some 3) (.mov (.t 0)),
   .call (some 4) 54 [.t 3, .k (.int .i64 (-1000000000)), .k (.int .i64 1000000000)],
   .op (some 2) (.mov (.t 4))])
 (.keep [2] (.ret))))
theorem k_c_isNumber_fits : fitsF Try.prog 102 ⟨5, k_c_isNumber, [.t 2]⟩ = true := by kernel_rfl
theorem c_isNumber {n : Int} : Con Try.prog noMv 102 [int n] [] (fun r h => r = bool (inR n (-1000000000) 1000000000) ∧ h = []) := by
 refine con_of2 k_c_isNumber_fits rfl fun C hP hmv => ?_
 unfold k_c_isNumber
 refine cx_seq ?_
 refine cx_ops ?_
 refine ax_q (q_mov rfl) ?_
 refine ax_nil ?_
 refine cx_keep rfl rfl ?_
 refine cx_seq ?_
 refine cx_ops ?_
 refine ax_q (q_mov rfl) ?_
 first | refine ax_call rfl (vc_pure0 (c_inRange  ) hP rfl rfl ?_) | refine ax_call rfl (vc_lend0 (c_inRange  ) hP (by repeat (first | exact lal_id _ rfl | exact LAL.nil | refine LAL.cons ?_ ?_ | exact la_id _ rfl | exact LA.lend (lend_whole rfl (by first | (simp; done) | (rw [List.length_map]; rfl))) | refine LA.agg ?_ | refine LA.fn ?_ | refine LA.lend ?_ | exact Lend.d _ | exact Lend.zs _ | exact lend_whole rfl (by first | (simp; done) | (rw [List.length_map]; rfl)) | refine Lend.ptr rfl ?_ | refine Lend.fn ?_ | exact LendL.nil | refine LendL.cons ?_ ?_)) rfl rfl ?_)
 refine ax_q (q_mov rfl) ?_
 refine ax_nil ?_
 refine cx_keep rfl rfl ?_
 refine cx_ret (ret0 rfl rfl ?_)
 exact ⟨rfl, rfl⟩


/- loop.example/g00332/impl.isLetter -/
def k_c_isLetter : XCode :=
 .seq (.ops [.op (some 2) (.mov (.k (.bool false)))])
 (.keep [0] (.seq (.ops [.op (some 3) (.mov (.t 0)),
   .op (some 4) (.bin .geq (.t 3) (.k (.int .u8 97))),
   .op (some 5) (.mov (.t 4)),
   .andor 8 true 2 5 [.op (some 6) (.mov (.t 0)), .op (some 7) (.bin .leq (.t 6) (.k (.int .u8 122)))] (.t 7),
   .op (some 2) (.mov (.t 8))])
 (.keep [2] (.ret))))
theorem k_c_isLetter_fits : fitsF Try.prog 114 ⟨9, k_c_isLetter, [.t 2]⟩ = true := by kernel_rfl
theorem c_isLetter {b : UInt8} : Con Try.prog noMv 114 [.d (.int .u8 b.toNat)] [] (fun r h => r = bool (inR (b.toNat : Int) 97 122) ∧ h = []) := by
 refine con_of2 k_c_isLetter_fits rfl fun C hP hmv => ?_
 unfold k_c_isLetter
 refine cx_seq ?_
 refine cx_ops ?_
 refine ax_q (q_mov rfl) ?_
 refine ax_nil ?_
 refine cx_keep rfl rfl ?_
 refine cx_seq ?_
 refine cx_ops ?_
 refine ax_q (q_mov rfl) ?_
 refine ax_q (q_ibin rfl rfl rfl) ?_
 refine ax_q (q_mov rfl) ?_
 apply ax_and rfl rfl
 ·
  intro g
  have g := dT g
  refine ax_q (q_mov rfl) ?_
  refine ax_q (q_ibin rfl rfl rfl) ?_
  exact ax_nil ⟨rfl, by repeat (first | exact trivial | refine ⟨rfl, ?_⟩ | refine ⟨?_, ?_⟩)⟩
 refine ax_q (q_mov rfl) ?_
 refine ax_nil ?_
 refine cx_keep rfl rfl ?_
 refine cx_ret (ret0 rfl rfl ?_)
 exact ⟨rfl, rfl⟩


/- loop.example/g00332/impl.isWord -/
def k_c_isWord : XCode :=
 .seq (.ops [.op (some 2) (.mov (.k (.bool false)))])
 (.keep [0] (.seq (.seq (.ops [.op (some 4) (.mov (.t 0)),
   .op (some 5) (.lenT (.t 4)),
   .op (some 6) (.mov (.k (.int .i64 0)))])
  (.keep [0, 5, 6] (.block 0 (.loop (.seq (.ops [.op (some 7) (.bin .lss (.t 6) (.t 5))])
   (.keep [0, 5, 6, 7] (.seq (.cond (.t 7)
    (.skip)
    (.exit 0))
   (.keep [0, 5, 6] (.seq (.block 1 (.seq (.ops [.op (some 8) (.mov (.t 6)),
     .op (some 3) (.mov (.t 8))])
    (.keep [0, 3, 5, 6] (.seq (.ops [.op (some 9) (.mov (.t 0)),
     .op (some 10) (.mov (.t 3)),
     .op (some 11) (.idxS (.t 9) (.t 10)),
     .call (some 12) 114 [.t 11],
     .op (some 13) (.not (.t 12))])
    (.keep [0, 5, 6, 13] (.cond (.t 13)
    (.seq (.ops [.op (some 2) (.mov (.k (.bool false)))])
     (.keep [2] (.ret)))
    (.skip)))))))
   (.keep [0, 5, 6] (.ops [.op (some 14) (.bin .add (.t 6) (.k (.int .i64 1))),
    .op (some 6) (.mov (.t 14))])))))))))))
 (.keep [0] (.seq (.ops [.op (some 15) (.mov (.t 0)),
   .op (some 16) (.lenT (.t 15)),
   .op (some 17) (.bin .leq (.t 16) (.k (.int .i64 10))),
   .op (some 2) (.mov (.t 17))])
 (.keep [2] (.ret))))))
theorem k_c_isWord_fits : fitsF Try.prog 103 ⟨18, k_c_isWord, [.t 2]⟩ = true := by kernel_rfl
theorem c_isWord {s : Str} (hs : s.length ≤ 1048576) : Con Try.prog noMv 103 [str s] [] (fun r h => r = bool (isWord s) ∧ h = []) := by
 refine con_of2 k_c_isWord_fits rfl fun C hP hmv => ?_
 unfold k_c_isWord
 refine cx_seq ?_
 refine cx_ops ?_
 refine ax_q (q_mov rfl) ?_
 refine ax_nil ?_
 refine cx_keep rfl rfl ?_
 refine cx_seq ?_
 refine cx_seq ?_
 refine cx_ops ?_
 refine ax_q (q_mov rfl) ?_
 refine ax_q (q_lenT rfl) ?_
 refine ax_q (q_mov rfl) ?_
 refine ax_nil ?_
 refine cx_keep rfl rfl ?_
 refine cx_block ?_
 refine cx_loopU (fun n k => k ≤ s.length ∧ n = s.length - k ∧ ∀ j, j < k → ∀ x, s[j]? = some x → badCh x = false) (fun k : Nat => [(6, int k)]) (fun _ => []) ⟨_, 0, ⟨Nat.zero_le _, rfl, fun j hj => by omega⟩, by repeat (first | exact trivial | refine ⟨rfl, ?_⟩ | refine ⟨?_, ?_⟩)⟩ ?_
 rintro n k ⟨hk, rfl, hb⟩
 refine cx_seq ?_
 refine cx_ops ?_
 refine ax_q (q_ibin rfl rfl rfl) ?_
 refine ax_nil ?_
 refine cx_keep rfl rfl ?_
 refine cx_seq ?_
 refine cx_cond rfl (fun h0 => ?_) (fun h0 => ?_)
 ·
  have h0 := dT h0
  have h0x : k < s.length := by omega
  refine cx_skip ?_
  refine cx_keep rfl rfl ?_
  refine cx_seq ?_
  refine cx_block ?_
  refine cx_seq ?_
  refine cx_ops ?_
  refine ax_q (q_mov rfl) ?_
  refine ax_q (q_mov rfl) ?_
  refine ax_nil ?_
  refine cx_keep rfl rfl ?_
  refine cx_seq ?_
  refine cx_ops ?_
  refine ax_q (q_mov rfl) ?_
  refine ax_q (q_mov rfl) ?_
  refine ax_q (q_idxN rfl rfl (by first | assumption | omega)) ?_
  first | refine ax_call rfl (vc_pure0 (c_isLetter  ) hP rfl rfl ?_) | refine ax_call rfl (vc_lend0 (c_isLetter  ) hP (by repeat (first | exact lal_id _ rfl | exact LAL.nil | refine LAL.cons ?_ ?_ | exact la_id _ rfl | exact LA.lend (lend_whole rfl (by first | (simp; done) | (rw [List.length_map]; rfl))) | refine LA.agg ?_ | refine LA.fn ?_ | refine LA.lend ?_ | exact Lend.d _ | exact Lend.zs _ | exact lend_whole rfl (by first | (simp; done) | (rw [List.length_map]; rfl)) | refine Lend.ptr rfl ?_ | refine Lend.fn ?_ | exact LendL.nil | refine LendL.cons ?_ ?_)) rfl rfl ?_)
  refine ax_q (q_not rfl) ?_
  refine ax_nil ?_
  refine cx_keep rfl rfl ?_
  refine cx_cond rfl (fun h1 => ?_) (fun h1 => ?_)
  ·
   have h1 : badCh s[k] = true := h1
   refine cx_seq ?_
   refine cx_ops ?_
   refine ax_q (q_mov rfl) ?_
   refine ax_nil ?_
   refine cx_keep rfl rfl ?_
   refine cx_ret (ret0 rfl rfl ?_)
   exact ⟨by unfold isWord; rw [any_hit h0x h1] <;> rfl, rfl⟩
  ·
   have h1 : badCh s[k] = false := h1
   refine cx_skip ?_
   refine cx_keep rfl rfl ?_
   refine cx_ops ?_
   refine ax_qe (r' := int ((k + 1 : Nat) : Int)) (q_ibin rfl rfl rfl) (by rw [wi (by omega) (by omega)]; rfl) ?_
   refine ax_q (q_mov rfl) ?_
   refine ax_nil ?_
   exact ⟨_, k + 1, by omega, ⟨by omega, rfl, before_step h0x hb h1⟩, by repeat (first | exact trivial | refine ⟨rfl, ?_⟩ | refine ⟨?_, ?_⟩)⟩
 ·
  have h0 := dF h0
  have h0x : k = s.length := by omega
  refine cx_exit rfl ?_
  refine cx_keep rfl rfl ?_
  refine cx_seq ?_
  refine cx_ops ?_
  refine ax_q (q_mov rfl) ?_
  refine ax_q (q_lenT rfl) ?_
  refine ax_q (q_ibin rfl rfl rfl) ?_
  refine ax_q (q_mov rfl) ?_
  refine ax_nil ?_
  refine cx_keep rfl rfl ?_
  refine cx_ret (ret0 rfl rfl ?_)
  exact ⟨by unfold isWord; rw [any_all (fun i hi => hb i (by omega))] <;> rfl, rfl⟩


/- loop.example/g00332/impl.ValueOK -/
def k_c_ValueOK : XCode :=
 .seq (.ops [.op (some 1) (.box (.t 0)),
   .op (some 2) (.mov (.k (.bool false)))])
 (.keep [1] (.seq (.seq (.ops [.op (some 3) (.fadr (.t 1) 0),
   .op (some 4) (.load1 (.t 3))])
  (.keep [1, 4] (.block 0 (.seq (.ops [.op (some 6) (.bin .eql (.t 4) (.k (.int .i64 0))),
    .op (some 5) (.mov (.t 6))])
  (.keep [1, 4, 5] (.cond (.t 5)
   (.seq (.ops [.op (some 7) (.loadN 3 (.t 1)),
     .op (some 8) (.build [.int .i64 0, .int .i64 0, .str []] []),
     .op (some 9) (.eqs false [0, 0, 2] (.t 7) (.t 8)),
     .op (some 2) (.mov (.t 9))])
   (.keep [2] (.ret)))
   (.seq (.ops [.op (some 11) (.bin .eql (.t 4) (.k (.int .i64 1))),
     .op (some 10) (.mov (.t 11))])
   (.keep [1, 10] (.cond (.t 10)
    (.seq (.ops [.op (some 12) (.fadr (.t 1) 1),
      .op (some 13) (.load1 (.t 12)),
      .call (some 14) 102 [.t 13],
      .op (some 15) (.mov (.t 14)),
      .andor 19 true 3 15 [.op (some 16) (.fadr (.t 1) 2), .op (some 17) (.load1 (.t 16)), .op (some 18) (.bin .eql (.t 17) (.k (.str [])))] (.t 18),
      .op (some 2) (.mov (.t 19))])
    (.keep [2] (.ret)))
    (.skip))))))))))
 (.keep [1] (.seq (.ops [.op (some 20) (.fadr (.t 1) 0),
   .op (some 21) (.load1 (.t 20)),
   .op (some 22) (.bin .eql (.t 21) (.k (.int .i64 2))),
   .op (some 23) (.mov (.t 22)),
   .andor 27 true 3 23 [.op (some 24) (.fadr (.t 1) 1), .op (some 25) (.load1 (.t 24)), .op (some 26) (.bin .eql (.t 25) (.k (.int .i64 0)))] (.t 26),
   .op (some 28) (.mov (.t 27)),
   .andor 32 true 8 28 [.op (some 29) (.fadr (.t 1) 2), .op (some 30) (.load1 (.t 29)), .call (some 31) 103 [.t 30]] (.t 31),
   .op (some 2) (.mov (.t 32))])
 (.keep [2] (.ret))))))
theorem k_c_ValueOK_fits : fitsF Try.prog 78 ⟨33, k_c_ValueOK, [.t 2]⟩ = true := by kernel_rfl
theorem c_ValueOK {v : GValue} (hv : v.T.length ≤ 1048576) : Con Try.prog noMv 78 [v.av] [] (fun r h => r = bool (valueOK v) ∧ h = []) := by
 refine con_of2 k_c_ValueOK_fits rfl fun C hP hmv => ?_
 unfold k_c_ValueOK
 refine cx_seq ?_
 refine cx_ops ?_
 refine ax_e (e_box rfl rfl (by decide) rfl rfl rfl) ?_
 refine ax_q (q_mov rfl) ?_
 refine ax_nil ?_
 refine cx_keep rfl rfl ?_
 refine cx_seq ?_
 refine cx_seq ?_
 refine cx_ops ?_
 refine ax_q (q_fadr_ptr rfl) ?_
 refine ax_q (q_load1_ptr rfl rfl rfl) ?_
 refine ax_nil ?_
 refine cx_keep rfl rfl ?_
 refine cx_block ?_
 refine cx_seq ?_
 refine cx_ops ?_
 refine ax_q (q_ibin rfl rfl rfl) ?_
 refine ax_q (q_mov rfl) ?_
 refine ax_nil ?_
 refine cx_keep rfl rfl ?_
 refine cx_cond rfl (fun h0 => ?_) (fun h0 => ?_)
 ·
  have h0 := dT h0
  refine cx_seq ?_
  refine cx_ops ?_
  refine ax_q (q_ldN rfl rfl rfl) ?_
  refine ax_q (q_build rfl) ?_
  first | refine ax_q (GValue.q_eqs rfl rfl) ?_ | refine ax_q (q_eqs rfl rfl rfl) ?_
  refine ax_q (q_mov rfl) ?_
  refine ax_nil ?_
  refine cx_keep rfl rfl ?_
  refine cx_ret (ret0 rfl rfl ?_)
  exact ⟨by rw [valueOK_0 h0, decide_eq_true h0, Bool.and_true, Bool.true_and] <;> rfl, rfl⟩
 ·
  have h0 := dF h0
  refine cx_seq ?_
  refine cx_ops ?_
  refine ax_q (q_ibin rfl rfl rfl) ?_
  refine ax_q (q_mov rfl) ?_
  refine ax_nil ?_
  refine cx_keep rfl rfl ?_
  refine cx_cond rfl (fun h1 => ?_) (fun h1 => ?_)
  ·
   have h1 := dT h1
   refine cx_seq ?_
   refine cx_ops ?_
   refine ax_q (q_fadr_ptr rfl) ?_
   refine ax_q (q_load1_ptr rfl rfl rfl) ?_
   first | refine ax_call rfl (vc_pure0 (c_isNumber  ) hP rfl rfl ?_) | refine ax_call rfl (vc_lend0 (c_isNumber  ) hP (by repeat (first | exact lal_id _ rfl | exact LAL.nil | refine LAL.cons ?_ ?_ | exact la_id _ rfl | exact LA.lend (lend_whole rfl (by first | (simp; done) | (rw [List.length_map]; rfl))) | refine LA.agg ?_ | refine LA.fn ?_ | refine LA.lend ?_ | exact Lend.d _ | exact Lend.zs _ | exact lend_whole rfl (by first | (simp; done) | (rw [List.length_map]; rfl)) | refine Lend.ptr rfl ?_ | refine Lend.fn ?_ | exact LendL.nil | refine LendL.cons ?_ ?_)) rfl rfl ?_)
   refine ax_q (q_mov rfl) ?_
   apply ax_and rfl rfl
   ·
    intro g
    refine ax_q (q_fadr_ptr rfl) ?_
    refine ax_q (q_load1_ptr rfl rfl rfl) ?_
    refine ax_q (q_sbin rfl rfl rfl) ?_
    exact ax_nil ⟨rfl, by repeat (first | exact trivial | refine ⟨rfl, ?_⟩ | refine ⟨?_, ?_⟩)⟩
   refine ax_q (q_mov rfl) ?_
   refine ax_nil ?_
   refine cx_keep rfl rfl ?_
   refine cx_ret (ret0 rfl rfl ?_)
   exact ⟨by rw [valueOK_1 h1] <;> rfl, rfl⟩
  ·
   have h1 := dF h1
   refine cx_skip ?_
   refine cx_keep rfl rfl ?_
   refine cx_seq ?_
   refine cx_ops ?_
   refine ax_q (q_fadr_ptr rfl) ?_
   refine ax_q (q_load1_ptr rfl rfl rfl) ?_
   refine ax_q (q_ibin rfl rfl rfl) ?_
   refine ax_q (q_mov rfl) ?_
   apply ax_and rfl rfl
   ·
    intro g
    have g := dT g
    refine ax_q (q_fadr_ptr rfl) ?_
    refine ax_q (q_load1_ptr rfl rfl rfl) ?_
    refine ax_q (q_ibin rfl rfl rfl) ?_
    exact ax_nil ⟨rfl, by repeat (first | exact trivial | refine ⟨rfl, ?_⟩ | refine ⟨?_, ?_⟩)⟩
   refine ax_q (q_mov rfl) ?_
   apply ax_and rfl rfl
   ·
    intro g
    have g := (fun h => And.intro (dT (and_T h).1) (dT (and_T h).2)) g
    refine ax_q (q_fadr_ptr rfl) ?_
    refine ax_q (q_load1_ptr rfl rfl rfl) ?_
    first | refine ax_call rfl (vc_pure0 (c_isWord  ?_) hP rfl rfl ?_) | refine ax_call rfl (vc_lend0 (c_isWord  ?_) hP (by repeat (first | exact lal_id _ rfl | exact LAL.nil | refine LAL.cons ?_ ?_ | exact la_id _ rfl | exact LA.lend (lend_whole rfl (by first | (simp; done) | (rw [List.length_map]; rfl))) | refine LA.agg ?_ | refine LA.fn ?_ | refine LA.lend ?_ | exact Lend.d _ | exact Lend.zs _ | exact lend_whole rfl (by first | (simp; done) | (rw [List.length_map]; rfl)) | refine Lend.ptr rfl ?_ | refine Lend.fn ?_ | exact LendL.nil | refine LendL.cons ?_ ?_)) rfl rfl ?_)
    ·
     first | assumption | omega | (simp; done) | (simp; omega)
    exact ax_nil ⟨rfl, by repeat (first | exact trivial | refine ⟨rfl, ?_⟩ | refine ⟨?_, ?_⟩)⟩
   refine ax_q (q_mov rfl) ?_
   refine ax_nil ?_
   refine cx_keep rfl rfl ?_
   refine cx_ret (ret0 rfl rfl ?_)
   exact ⟨by rw [valueOK_2 h0 h1] <;> rfl, rfl⟩


/- loop.example/g00332/impl.isUnary -/
def k_c_isUnary : XCode :=
 .seq (.ops [.op (some 2) (.mov (.k (.bool false)))])
 (.keep [0] (.seq (.ops [.op (some 3) (.mov (.t 0)),
   .call (some 4) 54 [.t 3, .k (.int .i64 3), .k (.int .i64 5)],
   .op (some 2) (.mov (.t 4))])
 (.keep [2] (.ret))))
theorem k_c_isUnary_fits : fitsF Try.prog 82 ⟨5, k_c_isUnary, [.t 2]⟩ = true := by kernel_rfl
theorem c_isUnary {n : Int} : Con Try.prog noMv 82 [int n] [] (fun r h => r = bool (inR n 3 5) ∧ h = []) := by
 refine con_of2 k_c_isUnary_fits rfl fun C hP hmv => ?_
 unfold k_c_isUnary
 refine cx_seq ?_
 refine cx_ops ?_
 refine ax_q (q_mov rfl) ?_
 refine ax_nil ?_
 refine cx_keep rfl rfl ?_
 refine cx_seq ?_
 refine cx_ops ?_
 refine ax_q (q_mov rfl) ?_
 first | refine ax_call rfl (vc_pure0 (c_inRange  ) hP rfl rfl ?_) | refine ax_call rfl (vc_lend0 (c_inRange  ) hP (by repeat (first | exact lal_id _ rfl | exact LAL.nil | refine LAL.cons ?_ ?_ | exact la_id _ rfl | exact LA.lend (lend_whole rfl (by first | (simp; done) | (rw [List.length_map]; rfl))) | refine LA.agg ?_ | refine LA.fn ?_ | refine LA.lend ?_ | exact Lend.d _ | exact Lend.zs _ | exact lend_whole rfl (by first | (simp; done) | (rw [List.length_map]; rfl)) | refine Lend.ptr rfl ?_ | refine Lend.fn ?_ | exact LendL.nil | refine LendL.cons ?_ ?_)) rfl rfl ?_)
 refine ax_q (q_mov rfl) ?_
 refine ax_nil ?_
 refine cx_keep rfl rfl ?_
 refine cx_ret (ret0 rfl rfl ?_)
 exact ⟨rfl, rfl⟩


/- loop.example/g00332/impl.isBinary -/
def k_c_isBinary : XCode :=
 .seq (.ops [.op (some 2) (.mov (.k (.bool false)))])
 (.keep [0] (.seq (.ops [.op (some 3) (.mov (.t 0)),
   .call (some 4) 54 [.t 3, .k (.int .i64 6), .k (.int .i64 13)],
   .op (some 2) (.mov (.t 4))])
 (.keep [2] (.ret))))
theorem k_c_isBinary_fits : fitsF Try.prog 100 ⟨5, k_c_isBinary, [.t 2]⟩ = true := by kernel_rfl
theorem c_isBinary {n : Int} : Con Try.prog noMv 100 [int n] [] (fun r h => r = bool (inR n 6 13) ∧ h = []) := by
 refine con_of2 k_c_isBinary_fits rfl fun C hP hmv => ?_
 unfold k_c_isBinary
 refine cx_seq ?_
 refine cx_ops ?_
 refine ax_q (q_mov rfl) ?_
 refine ax_nil ?_
 refine cx_keep rfl rfl ?_
 refine cx_seq ?_
 refine cx_ops ?_
 refine ax_q (q_mov rfl) ?_
 first | refine ax_call rfl (vc_pure0 (c_inRange  ) hP rfl rfl ?_) | refine ax_call rfl (vc_lend0 (c_inRange  ) hP (by repeat (first | exact lal_id _ rfl | exact LAL.nil | refine LAL.cons ?_ ?_ | exact la_id _ rfl | exact LA.lend (lend_whole rfl (by first | (simp; done) | (rw [List.length_map]; rfl))) | refine LA.agg ?_ | refine LA.fn ?_ | refine LA.lend ?_ | exact Lend.d _ | exact Lend.zs _ | exact lend_whole rfl (by first | (simp; done) | (rw [List.length_map]; rfl)) | refine Lend.ptr rfl ?_ | refine Lend.fn ?_ | exact LendL.nil | refine LendL.cons ?_ ?_)) rfl rfl ?_)
 refine ax_q (q_mov rfl) ?_
 refine ax_nil ?_
 refine cx_keep rfl rfl ?_
 refine cx_ret (ret0 rfl rfl ?_)
 exact ⟨rfl, rfl⟩


/- loop.example/g00332/impl.insOK -/
def k_c_insOK : XCode :=
 .seq (.ops [.op (some 3) (.box (.t 0)),
   .op (some 6) (.mov (.k (.bool false)))])
 (.keep [1, 2, 3] (.seq (.seq (.ops [.op (some 7) (.fadr (.t 3) 0),
   .op (some 8) (.load1 (.t 7)),
   .op (some 9) (.bin .neq (.t 8) (.k (.int .i64 1))),
   .op (some 10) (.mov (.t 9)),
   .andor 15 true 3 10 [.op (some 11) (.fadr (.t 3) 2), .op (some 12) (.loadN 3 (.t 11)), .op (some 13) (.build [.int .i64 0, .int .i64 0, .str []] []), .op (some 14) (.eqs true [0, 0, 2] (.t 12) (.t 13))] (.t 14)])
  (.keep [1, 2, 3, 15] (.cond (.t 15)
  (.seq (.ops [.op (some 6) (.mov (.k (.bool false)))])
   (.keep [6] (.ret)))
  (.skip))))
 (.keep [1, 2, 3] (.seq (.seq (.ops [.op (some 16) (.fadr (.t 3) 0),
   .op (some 17) (.load1 (.t 16))])
  (.keep [1, 2, 3, 17] (.block 0 (.seq (.ops [.op (some 19) (.bin .eql (.t 17) (.k (.int .i64 1))),
    .op (some 18) (.mov (.t 19))])
  (.keep [1, 2, 3, 17, 18] (.cond (.t 18)
   (.seq (.ops [.op (some 20) (.fadr (.t 3) 1),
     .op (some 21) (.load1 (.t 20)),
     .op (some 22) (.bin .eql (.t 21) (.k (.int .i64 0))),
     .op (some 23) (.mov (.t 22)),
     .andor 27 true 3 23 [.op (some 24) (.fadr (.t 3) 2), .op (some 25) (.loadN 3 (.t 24)), .call (some 26) 78 [.t 25]] (.t 26),
     .op (some 6) (.mov (.t 27))])
   (.keep [6] (.ret)))
   (.seq (.ops [.op (some 29) (.bin .eql (.t 17) (.k (.int .i64 2))),
     .op (some 28) (.mov (.t 29))])
   (.keep [1, 2, 3, 17, 28] (.cond (.t 28)
    (.seq (.ops [.op (some 30) (.fadr (.t 3) 1),
      .op (some 31) (.load1 (.t 30)),
      .call (some 32) 52 [.t 31, .k (.int .i64 3)],
      .op (some 6) (.mov (.t 32))])
    (.keep [6] (.ret)))
    (.seq (.ops [.op (some 34) (.bin .eql (.t 17) (.k (.int .i64 3))),
      .op (some 33) (.mov (.t 34))])
    (.keep [1, 2, 3, 17, 33] (.cond (.t 33)
     (.seq (.ops [.op (some 35) (.fadr (.t 3) 1),
       .op (some 36) (.load1 (.t 35)),
       .call (some 37) 82 [.t 36],
       .op (some 6) (.mov (.t 37))])
     (.keep [6] (.ret)))
     (.seq (.ops [.op (some 39) (.bin .eql (.t 17) (.k (.int .i64 4))),
       .op (some 38) (.mov (.t 39))])
     (.keep [1, 2, 3, 17, 38] (.cond (.t 38)
      (.seq (.ops [.op (some 40) (.fadr (.t 3) 1),
        .op (some 41) (.load1 (.t 40)),
        .call (some 42) 100 [.t 41],
        .op (some 6) (.mov (.t 42))])
      (.keep [6] (.ret)))
      (.seq (.seq (.ops [.op (some 44) (.bin .eql (.t 17) (.k (.int .i64 5))),
        .op (some 43) (.mov (.t 44))])
       (.keep [1, 2, 3, 17, 43] (.cond (.t 43)
       (.skip)
       (.ops [.op (some 45) (.bin .eql (.t 17) (.k (.int .i64 6))),
         .op (some 43) (.mov (.t 45))]))))
      (.keep [1, 2, 3, 43] (.cond (.t 43)
       (.seq (.ops [.op (some 46) (.fadr (.t 3) 1),
         .op (some 47) (.load1 (.t 46)),
         .op (some 48) (.mov (.t 1)),
         .op (some 49) (.bin .add (.t 48) (.k (.int .i64 1))),
         .op (some 50) (.mov (.t 2)),
         .call (some 51) 54 [.t 47, .t 49, .t 50],
         .op (some 6) (.mov (.t 51))])
       (.keep [6] (.ret)))
       (.skip)))))))))))))))))))
 (.keep [] (.seq (.ops [.op (some 6) (.mov (.k (.bool false)))])
 (.keep [6] (.ret))))))))
theorem k_c_insOK_fits : fitsF Try.prog 74 ⟨52, k_c_insOK, [.t 6]⟩ = true := by kernel_rfl
theorem c_insOK {x : GIns} {i n : Int} (hv : x.V.T.length ≤ 1048576) (hi : 0 ≤ i ∧ i ≤ 1000) : Con Try.prog noMv 74 [x.av, int i, int n] [] (fun r h => r = bool (insOK x i n) ∧ h = []) := by
 refine con_of2 k_c_insOK_fits rfl fun C hP hmv => ?_
 unfold k_c_insOK
 refine cx_seq ?_
 refine cx_ops ?_
 refine ax_e (e_box rfl rfl (by decide) rfl rfl rfl) ?_
 refine ax_q (q_mov rfl) ?_
 refine ax_nil ?_
 refine cx_keep rfl rfl ?_
 refine cx_seq ?_
 refine cx_seq ?_
 refine cx_ops ?_
 refine ax_q (q_fadr_ptr rfl) ?_
 refine ax_q (q_load1_ptr rfl rfl rfl) ?_
 refine ax_q (q_ibin rfl rfl rfl) ?_
 refine ax_q (q_mov rfl) ?_
 apply ax_and rfl rfl
 ·
  intro g
  have g := nT g
  refine ax_q (q_fadr_ptr rfl) ?_
  refine ax_q (q_ldN rfl rfl rfl) ?_
  refine ax_q (q_build rfl) ?_
  first | refine ax_q (GValue.q_eqs rfl rfl) ?_ | refine ax_q (q_eqs rfl rfl rfl) ?_
  exact ax_nil ⟨rfl, by repeat (first | exact trivial | refine ⟨rfl, ?_⟩ | refine ⟨?_, ?_⟩)⟩
 refine ax_nil ?_
 refine cx_keep rfl rfl ?_
 refine cx_cond rfl (fun h0 => ?_) (fun h0 => ?_)
 ·
  obtain ⟨ha, hz⟩ := and_T h0
  have ha : ¬ x.Op = 1 := nT ha
  have hz : zeroV x.V = false := bT hz
  refine cx_seq ?_
  refine cx_ops ?_
  refine ax_q (q_mov rfl) ?_
  refine ax_nil ?_
  refine cx_keep rfl rfl ?_
  refine cx_ret (ret0 rfl rfl ?_)
  exact ⟨by rw [insOK_z ha hz]; rfl, rfl⟩
 ·
  have hz : ¬ x.Op = 1 → zeroV x.V = true := fun h => (and_F h0).elim (fun e => absurd (nF e) h) (fun e => bF e)
  refine cx_skip ?_
  refine cx_keep rfl rfl ?_
  refine cx_seq ?_
  refine cx_seq ?_
  refine cx_ops ?_
  refine ax_q (q_fadr_ptr rfl) ?_
  refine ax_q (q_load1_ptr rfl rfl rfl) ?_
  refine ax_nil ?_
  refine cx_keep rfl rfl ?_
  refine cx_block ?_
  refine cx_seq ?_
  refine cx_ops ?_
  refine ax_q (q_ibin rfl rfl rfl) ?_
  refine ax_q (q_mov rfl) ?_
  refine ax_nil ?_
  refine cx_keep rfl rfl ?_
  refine cx_cond rfl (fun h1 => ?_) (fun h1 => ?_)
  ·
   have h1 := dT h1
   refine cx_seq ?_
   refine cx_ops ?_
   refine ax_q (q_fadr_ptr rfl) ?_
   refine ax_q (q_load1_ptr rfl rfl rfl) ?_
   refine ax_q (q_ibin rfl rfl rfl) ?_
   refine ax_q (q_mov rfl) ?_
   apply ax_and rfl rfl
   ·
    intro g
    have g := dT g
    refine ax_q (q_fadr_ptr rfl) ?_
    refine ax_q (q_ldN rfl rfl rfl) ?_
    first | refine ax_call rfl (vc_pure0 (c_ValueOK  ?_) hP rfl rfl ?_) | refine ax_call rfl (vc_lend0 (c_ValueOK  ?_) hP (by repeat (first | exact lal_id _ rfl | exact LAL.nil | refine LAL.cons ?_ ?_ | exact la_id _ rfl | exact LA.lend (lend_whole rfl (by first | (simp; done) | (rw [List.length_map]; rfl))) | refine LA.agg ?_ | refine LA.fn ?_ | refine LA.lend ?_ | exact Lend.d _ | exact Lend.zs _ | exact lend_whole rfl (by first | (simp; done) | (rw [List.length_map]; rfl)) | refine Lend.ptr rfl ?_ | refine Lend.fn ?_ | exact LendL.nil | refine LendL.cons ?_ ?_)) rfl rfl ?_)
    ·
     first | assumption | omega | (simp; done) | (simp; omega)
    exact ax_nil ⟨rfl, by repeat (first | exact trivial | refine ⟨rfl, ?_⟩ | refine ⟨?_, ?_⟩)⟩
   refine ax_q (q_mov rfl) ?_
   refine ax_nil ?_
   refine cx_keep rfl rfl ?_
   refine cx_ret (ret0 rfl rfl ?_)
   exact ⟨by rw [insOK_1 h1]; rfl, rfl⟩
  ·
   have h1 := dF h1
   refine cx_seq ?_
   refine cx_ops ?_
   refine ax_q (q_ibin rfl rfl rfl) ?_
   refine ax_q (q_mov rfl) ?_
   refine ax_nil ?_
   refine cx_keep rfl rfl ?_
   refine cx_cond rfl (fun h2 => ?_) (fun h2 => ?_)
   ·
    have h2 := dT h2
    refine cx_seq ?_
    refine cx_ops ?_
    refine ax_q (q_fadr_ptr rfl) ?_
    refine ax_q (q_load1_ptr rfl rfl rfl) ?_
    first | refine ax_call rfl (vc_pure0 (c_isPlace  ?_) hP rfl rfl ?_) | refine ax_call rfl (vc_lend0 (c_isPlace  ?_) hP (by repeat (first | exact lal_id _ rfl | exact LAL.nil | refine LAL.cons ?_ ?_ | exact la_id _ rfl | exact LA.lend (lend_whole rfl (by first | (simp; done) | (rw [List.length_map]; rfl))) | refine LA.agg ?_ | refine LA.fn ?_ | refine LA.lend ?_ | exact Lend.d _ | exact Lend.zs _ | exact lend_whole rfl (by first | (simp; done) | (rw [List.length_map]; rfl)) | refine Lend.ptr rfl ?_ | refine Lend.fn ?_ | exact LendL.nil | refine LendL.cons ?_ ?_)) rfl rfl ?_)
    ·
     first | assumption | omega | (simp; done) | (simp; omega)
    refine ax_q (q_mov rfl) ?_
    refine ax_nil ?_
    refine cx_keep rfl rfl ?_
    refine cx_ret (ret0 rfl rfl ?_)
    exact ⟨by rw [insOK_v h1 (hz h1), if_pos h2]; rfl, rfl⟩
   ·
    have h2 := dF h2
    refine cx_seq ?_
    refine cx_ops ?_
    refine ax_q (q_ibin rfl rfl rfl) ?_
    refine ax_q (q_mov rfl) ?_
    refine ax_nil ?_
    refine cx_keep rfl rfl ?_
    refine cx_cond rfl (fun h3 => ?_) (fun h3 => ?_)
    ·
     have h3 := dT h3
     refine cx_seq ?_
     refine cx_ops ?_
     refine ax_q (q_fadr_ptr rfl) ?_
     refine ax_q (q_load1_ptr rfl rfl rfl) ?_
     first | refine ax_call rfl (vc_pure0 (c_isUnary  ) hP rfl rfl ?_) | refine ax_call rfl (vc_lend0 (c_isUnary  ) hP (by repeat (first | exact lal_id _ rfl | exact LAL.nil | refine LAL.cons ?_ ?_ | exact la_id _ rfl | exact LA.lend (lend_whole rfl (by first | (simp; done) | (rw [List.length_map]; rfl))) | refine LA.agg ?_ | refine LA.fn ?_ | refine LA.lend ?_ | exact Lend.d _ | exact Lend.zs _ | exact lend_whole rfl (by first | (simp; done) | (rw [List.length_map]; rfl)) | refine Lend.ptr rfl ?_ | refine Lend.fn ?_ | exact LendL.nil | refine LendL.cons ?_ ?_)) rfl rfl ?_)
     refine ax_q (q_mov rfl) ?_
     refine ax_nil ?_
     refine cx_keep rfl rfl ?_
     refine cx_ret (ret0 rfl rfl ?_)
     exact ⟨by rw [insOK_v h1 (hz h1), if_neg h2, if_pos h3]; rfl, rfl⟩
    ·
     have h3 := dF h3
     refine cx_seq ?_
     refine cx_ops ?_
     refine ax_q (q_ibin rfl rfl rfl) ?_
     refine ax_q (q_mov rfl) ?_
     refine ax_nil ?_
     refine cx_keep rfl rfl ?_
     refine cx_cond rfl (fun h4 => ?_) (fun h4 => ?_)
     ·
      have h4 := dT h4
      refine cx_seq ?_
      refine cx_ops ?_
      refine ax_q (q_fadr_ptr rfl) ?_
      refine ax_q (q_load1_ptr rfl rfl rfl) ?_
      first | refine ax_call rfl (vc_pure0 (c_isBinary  ) hP rfl rfl ?_) | refine ax_call rfl (vc_lend0 (c_isBinary  ) hP (by repeat (first | exact lal_id _ rfl | exact LAL.nil | refine LAL.cons ?_ ?_ | exact la_id _ rfl | exact LA.lend (lend_whole rfl (by first | (simp; done) | (rw [List.length_map]; rfl))) | refine LA.agg ?_ | refine LA.fn ?_ | refine LA.lend ?_ | exact Lend.d _ | exact Lend.zs _ | exact lend_whole rfl (by first | (simp; done) | (rw [List.length_map]; rfl)) | refine Lend.ptr rfl ?_ | refine Lend.fn ?_ | exact LendL.nil | refine LendL.cons ?_ ?_)) rfl rfl ?_)
      refine ax_q (q_mov rfl) ?_
      refine ax_nil ?_
      refine cx_keep rfl rfl ?_
      refine cx_ret (ret0 rfl rfl ?_)
      exact ⟨by rw [insOK_v h1 (hz h1), if_neg h2, if_neg h3, if_pos h4]; rfl, rfl⟩
     ·
      have h4 := dF h4
      refine cx_seq ?_
      refine cx_seq ?_
      refine cx_ops ?_
      refine ax_q (q_ibin rfl rfl rfl) ?_
      refine ax_q (q_mov rfl) ?_
      refine ax_nil ?_
      refine cx_keep rfl rfl ?_
      refine cx_cond rfl (fun h5 => ?_) (fun h5 => ?_)
      ·
       have h5 := dT h5
       refine cx_skip ?_
       refine cx_keep rfl rfl ?_
       refine cx_cond rfl (fun h6 => ?_) (fun h6 => ?_)
       ·
        have h6 := dT h6
        refine cx_seq ?_
        refine cx_ops ?_
        refine ax_q (q_fadr_ptr rfl) ?_
        refine ax_q (q_load1_ptr rfl rfl rfl) ?_
        refine ax_q (q_mov rfl) ?_
        refine ax_q (q_add rfl rfl (by omega)) ?_
        refine ax_q (q_mov rfl) ?_
        first | refine ax_call rfl (vc_pure0 (c_inRange  ) hP rfl rfl ?_) | refine ax_call rfl (vc_lend0 (c_inRange  ) hP (by repeat (first | exact lal_id _ rfl | exact LAL.nil | refine LAL.cons ?_ ?_ | exact la_id _ rfl | exact LA.lend (lend_whole rfl (by first | (simp; done) | (rw [List.length_map]; rfl))) | refine LA.agg ?_ | refine LA.fn ?_ | refine LA.lend ?_ | exact Lend.d _ | exact Lend.zs _ | exact lend_whole rfl (by first | (simp; done) | (rw [List.length_map]; rfl)) | refine Lend.ptr rfl ?_ | refine Lend.fn ?_ | exact LendL.nil | refine LendL.cons ?_ ?_)) rfl rfl ?_)
        refine ax_q (q_mov rfl) ?_
        refine ax_nil ?_
        refine cx_keep rfl rfl ?_
        refine cx_ret (ret0 rfl rfl ?_)
        exact ⟨by rw [insOK_v h1 (hz h1), if_neg h2, if_neg h3, if_neg h4, if_pos (by omega)]; rfl, rfl⟩
       ·
        have h6 := dF h6
        exfalso; omega
      ·
       have h5 := dF h5
       refine cx_ops ?_
       refine ax_q (q_ibin rfl rfl rfl) ?_
       refine ax_q (q_mov rfl) ?_
       refine ax_nil ?_
       refine cx_keep rfl rfl ?_
       refine cx_cond rfl (fun h6 => ?_) (fun h6 => ?_)
       ·
        have h6 := dT h6
        refine cx_seq ?_
        refine cx_ops ?_
        refine ax_q (q_fadr_ptr rfl) ?_
        refine ax_q (q_load1_ptr rfl rfl rfl) ?_
        refine ax_q (q_mov rfl) ?_
        refine ax_q (q_add rfl rfl (by omega)) ?_
        refine ax_q (q_mov rfl) ?_
        first | refine ax_call rfl (vc_pure0 (c_inRange  ) hP rfl rfl ?_) | refine ax_call rfl (vc_lend0 (c_inRange  ) hP (by repeat (first | exact lal_id _ rfl | exact LAL.nil | refine LAL.cons ?_ ?_ | exact la_id _ rfl | exact LA.lend (lend_whole rfl (by first | (simp; done) | (rw [List.length_map]; rfl))) | refine LA.agg ?_ | refine LA.fn ?_ | refine LA.lend ?_ | exact Lend.d _ | exact Lend.zs _ | exact lend_whole rfl (by first | (simp; done) | (rw [List.length_map]; rfl)) | refine Lend.ptr rfl ?_ | refine Lend.fn ?_ | exact LendL.nil | refine LendL.cons ?_ ?_)) rfl rfl ?_)
        refine ax_q (q_mov rfl) ?_
        refine ax_nil ?_
        refine cx_keep rfl rfl ?_
        refine cx_ret (ret0 rfl rfl ?_)
        exact ⟨by rw [insOK_v h1 (hz h1), if_neg h2, if_neg h3, if_neg h4, if_pos (by omega)]; rfl, rfl⟩
       ·
        have h6 := dF h6
        refine cx_skip ?_
        refine cx_keep rfl rfl ?_
        refine cx_seq ?_
        refine cx_ops ?_
        refine ax_q (q_mov rfl) ?_
        refine ax_nil ?_
        refine cx_keep rfl rfl ?_
        refine cx_ret (ret0 rfl rfl ?_)
        exact ⟨by rw [insOK_v h1 (hz h1), if_neg h2, if_neg h3, if_neg h4, if_neg (by omega)]; rfl, rfl⟩


/- loop.example/g00332/impl.heights -/
def k_c_heights : XCode :=
 .seq (.ops [.op (some 2) (.mov (.k (.nils 1))),
   .op (some 3) (.mov (.k (.bool false)))])
 (.keep [0] (.seq (.seq (.ops [.op (some 12) (.mov (.t 0)),
   .op (some 13) (.lenS (.t 12)),
   .op (some 14) (.bin .gtr (.t 13) (.k (.int .i64 80)))])
  (.keep [0, 14] (.cond (.t 14)
  (.seq (.ops [.op (some 2) (.mov (.k (.nils 1))),
    .op (some 3) (.mov (.k (.bool false)))])
   (.keep [2, 3] (.ret)))
  (.skip))))
 (.keep [0] (.seq (.ops [.op (some 15) (.bslice 1 [.k (.int .i64 (-1))]),
   .op (some 16) (.mov (.t 0)),
   .op (some 17) (.lenS (.t 16)),
   .op (some 18) (.bin .add (.t 17) (.k (.int .i64 1))),
   .call (some 19) 73 [.t 15, .t 18],
   .op (some 4) (.mov (.t 19))])
 (.keep [0, 4] (.seq (.ops [.op (some 20) (.mov (.t 4)),
   .op (some 21) (.iadr 1 (.t 20) (.k (.int .i64 0))),
   .op none (.store 1 (.t 21) (.k (.int .i64 0)))])
 (.keep [0, 4] (.seq (.seq (.ops [.op (some 22) (.mov (.t 0)),
   .op (some 23) (.lenS (.t 22)),
   .op (some 24) (.mov (.k (.int .i64 0)))])
  (.keep [0, 4, 22, 23, 24] (.block 0 (.loop (.seq (.ops [.op (some 25) (.bin .lss (.t 24) (.t 23))])
   (.keep [0, 4, 22, 23, 24, 25] (.seq (.cond (.t 25)
    (.skip)
    (.exit 0))
   (.keep [0, 4, 22, 23, 24] (.seq (.block 1 (.seq (.ops [.op (some 26) (.mov (.t 24)),
     .op (some 27) (.iadr 5 (.t 22) (.t 24)),
     .op (some 28) (.loadN 5 (.t 27)),
     .op (some 6) (.alloc [.int .i64 0, .int .i64 0, .int .i64 0, .int .i64 0, .str []]),
     .op (some 5) (.mov (.t 26)),
     .op none (.store 5 (.t 6) (.t 28))])
    (.keep [0, 4, 5, 6, 22, 23, 24] (.seq (.seq (.ops [.op (some 29) (.mov (.t 4)),
      .op (some 30) (.mov (.t 5)),
      .op (some 31) (.iadr 1 (.t 29) (.t 30)),
      .op (some 32) (.load1 (.t 31)),
      .op (some 33) (.bin .lss (.t 32) (.k (.int .i64 0))),
      .op (some 34) (.mov (.t 33)),
      .andor 41 false 5 34 [.op (some 35) (.loadN 5 (.t 6)), .op (some 36) (.mov (.t 5)), .op (some 37) (.mov (.t 0)), .op (some 38) (.lenS (.t 37)), .call (some 39) 74 [.t 35, .t 36, .t 38], .op (some 40) (.not (.t 39))] (.t 40)])
    (.keep [0, 4, 5, 6, 22, 23, 24, 41] (.cond (.t 41)
     (.seq (.ops [.op (some 2) (.mov (.k (.nils 1))),
       .op (some 3) (.mov (.k (.bool false)))])
     (.keep [2, 3] (.ret)))
     (.skip))))
    (.keep [0, 4, 5, 6, 22, 23, 24] (.seq (.ops [.op (some 42) (.mov (.t 4)),
     .op (some 43) (.mov (.t 5)),
     .op (some 44) (.iadr 1 (.t 42) (.t 43)),
     .op (some 45) (.load1 (.t 44)),
     .op (some 7) (.mov (.t 45)),
     .op (some 8) (.mov (.k (.int .i64 1)))])
    (.keep [0, 4, 5, 6, 7, 8, 22, 23, 24] (.seq (.ops [.op (some 46) (.mov (.t 5)),
     .op (some 47) (.bin .add (.t 46) (.k (.int .i64 1))),
     .op (some 48) (.bslice 1 [.t 47]),
     .op (some 9) (.mov (.t 48))])
    (.keep [0, 4, 5, 6, 7, 8, 9, 22, 23, 24] (.seq (.seq (.ops [.op (some 49) (.fadr (.t 6) 0),
      .op (some 50) (.load1 (.t 49))])
    (.keep [0, 4, 5, 6, 7, 8, 9, 22, 23, 24, 50] (.block 2 (.seq (.seq (.ops [.op (some 52) (.bin .eql (.t 50) (.k (.int .i64 1))),
       .op (some 51) (.mov (.t 52))])
     (.keep [0, 4, 5, 6, 7, 8, 9, 22, 23, 24, 50, 51] (.cond (.t 51)
      (.skip)
      (.ops [.op (some 53) (.bin .eql (.t 50) (.k (.int .i64 2))),
       .op (some 51) (.mov (.t 53))]))))
     (.keep [0, 4, 5, 6, 7, 8, 9, 22, 23, 24, 50, 51] (.cond (.t 51)
     (.ops [.op (some 54) (.mov (.t 7)),
       .op (some 55) (.bin .add (.t 54) (.k (.int .i64 1))),
       .op (some 7) (.mov (.t 55)),
       .op (some 8) (.mov (.k (.int .i64 0)))])
     (.seq (.ops [.op (some 57) (.bin .eql (.t 50) (.k (.int .i64 4))),
       .op (some 56) (.mov (.t 57))])
      (.keep [0, 4, 5, 6, 7, 8, 9, 22, 23, 24, 50, 56] (.cond (.t 56)
      (.ops [.op (some 58) (.mov (.t 7)),
        .op (some 59) (.bin .sub (.t 58) (.k (.int .i64 1))),
        .op (some 7) (.mov (.t 59)),
        .op (some 8) (.mov (.k (.int .i64 2)))])
      (.seq (.seq (.ops [.op (some 61) (.bin .eql (.t 50) (.k (.int .i64 5))),
         .op (some 60) (.mov (.t 61))])
       (.keep [0, 4, 5, 6, 7, 8, 9, 22, 23, 24, 50, 60] (.cond (.t 60)
        (.skip)
        (.ops [.op (some 62) (.bin .eql (.t 50) (.k (.int .i64 6))),
         .op (some 60) (.mov (.t 62))]))))
       (.keep [0, 4, 5, 6, 7, 8, 9, 22, 23, 24, 60] (.cond (.t 60)
       (.ops [.op (some 63) (.mov (.t 9)),
         .op (some 64) (.fadr (.t 6) 1),
         .op (some 65) (.load1 (.t 64)),
         .op (some 66) (.bslice 1 [.t 65]),
         .op (some 67) (.app 1 8 [.int .i64 0] (.t 63) (.t 66)),
         .op (some 9) (.mov (.t 67))])
       (.skip)))))))))))))
    (.keep [0, 4, 5, 7, 8, 9, 22, 23, 24] (.seq (.seq (.ops [.op (some 68) (.mov (.t 4)),
      .op (some 69) (.mov (.t 5)),
      .op (some 70) (.iadr 1 (.t 68) (.t 69)),
      .op (some 71) (.load1 (.t 70)),
      .op (some 72) (.mov (.t 8)),
      .op (some 73) (.bin .lss (.t 71) (.t 72)),
      .op (some 74) (.mov (.t 73)),
      .andor 77 false 6 74 [.op (some 75) (.mov (.t 7)), .op (some 76) (.bin .gtr (.t 75) (.k (.int .i64 60)))] (.t 76)])
    (.keep [0, 4, 7, 9, 22, 23, 24, 77] (.cond (.t 77)
     (.seq (.ops [.op (some 2) (.mov (.k (.nils 1))),
       .op (some 3) (.mov (.k (.bool false)))])
     (.keep [2, 3] (.ret)))
     (.skip))))
    (.keep [0, 4, 7, 9, 22, 23, 24] (.seq (.ops [.op (some 78) (.mov (.t 9)),
     .op (some 79) (.lenS (.t 78)),
     .op (some 80) (.mov (.k (.int .i64 0)))])
    (.keep [0, 4, 7, 22, 23, 24, 78, 79, 80] (.block 3 (.loop (.seq (.ops [.op (some 81) (.bin .lss (.t 80) (.t 79))])
     (.keep [0, 4, 7, 22, 23, 24, 78, 79, 80, 81] (.seq (.cond (.t 81)
      (.skip)
      (.exit 3))
     (.keep [0, 4, 7, 22, 23, 24, 78, 79, 80] (.seq (.block 4 (.seq (.ops [.op (some 82) (.iadr 1 (.t 78) (.t 80)),
       .op (some 83) (.load1 (.t 82)),
       .op (some 11) (.mov (.t 83))])
      (.keep [0, 4, 7, 11, 22, 23, 24, 78, 79, 80] (.seq (.seq (.ops [.op (some 84) (.mov (.t 4)),
        .op (some 85) (.mov (.t 11)),
        .op (some 86) (.iadr 1 (.t 84) (.t 85)),
        .op (some 87) (.load1 (.t 86)),
        .op (some 88) (.bin .geq (.t 87) (.k (.int .i64 0))),
        .op (some 89) (.mov (.t 88)),
        .andor 96 true 5 89 [.op (some 90) (.mov (.t 4)), .op (some 91) (.mov (.t 11)), .op (some 92) (.iadr 1 (.t 90) (.t 91)), .op (some 93) (.load1 (.t 92)), .op (some 94) (.mov (.t 7)), .op (some 95) (.bin .neq (.t 93) (.t 94))] (.t 95)])
      (.keep [0, 4, 7, 11, 22, 23, 24, 78, 79, 80, 96] (.cond (.t 96)
       (.seq (.ops [.op (some 2) (.mov (.k (.nils 1))),
         .op (some 3) (.mov (.k (.bool false)))])
       (.keep [2, 3] (.ret)))
       (.skip))))
      (.keep [0, 4, 7, 11, 22, 23, 24, 78, 79, 80] (.ops [.op (some 97) (.mov (.t 4)),
       .op (some 98) (.mov (.t 11)),
       .op (some 99) (.mov (.t 7)),
       .op (some 100) (.iadr 1 (.t 97) (.t 98)),
       .op none (.store 1 (.t 100) (.t 99))]))))))
     (.keep [0, 4, 7, 22, 23, 24, 78, 79, 80] (.ops [.op (some 101) (.bin .add (.t 80) (.k (.int .i64 1))),
      .op (some 80) (.mov (.t 101))]))))))))))))))))))))))))
   (.keep [0, 4, 22, 23, 24] (.ops [.op (some 102) (.bin .add (.t 24) (.k (.int .i64 1))),
    .op (some 24) (.mov (.t 102))])))))))))))
 (.keep [0, 4] (.seq (.draw [.op (some 103) (.mov (.t 4)),
   .op (some 104) (.mov (.t 4)),
   .op (some 105) (.mov (.t 0)),
   .op (some 106) (.lenS (.t 105)),
   .op (some 107) (.iadr 1 (.t 104) (.t 106)),
   .op (some 108) (.load1 (.t 107)),
   .op (some 109) (.bin .eql (.t 108) (.k (.int .i64 1))),
   .op (some 2) (.mov (.t 103)),
   .op (some 3) (.mov (.t 109))])
 (.keep [2, 3] (.ret))))))))))))
theorem k_c_heights_fits : fitsF Try.prog 42 ⟨110, k_c_heights, [.t 2, .t 3]⟩ = true := by kernel_rfl
set_option maxHeartbeats 8000000 in
theorem c_heights {l : List GIns} (hw : l.length ≤ 1048576) (hv : ∀ x ∈ l, x.V.T.length ≤ 1048576) : Con Try.prog noMv 42 [.d (.sl 5 (l.map GIns.row))] [] (fun r h => ∃ ds : List Int, r = .tup [.osl 0 1 0 ds.length, bool (codeOK l)] ∧ h = [(0, .rows 1 (ds.map intRow))] ∧ (codeOK l = true → runH l l.length = some ds)) := by
 refine con_of2 k_c_heights_fits rfl fun C hP hmv => ?_
 unfold k_c_heights
 refine cx_seq ?_
 refine cx_ops ?_
 refine ax_q (q_mov rfl) ?_
 refine ax_q (q_mov rfl) ?_
 refine ax_nil ?_
 refine cx_keep rfl rfl ?_
 refine cx_seq ?_
 refine cx_seq ?_
 refine cx_ops ?_
 refine ax_q (q_mov rfl) ?_
 first | refine ax_q (q_lenS_map rfl) ?_ | refine ax_q (q_lenS_osl rfl) ?_ | refine ax_q (q_lenS_zs rfl) ?_ | refine ax_q (q_lenS rfl) ?_
 refine ax_q (q_ibin rfl rfl rfl) ?_
 refine ax_nil ?_
 refine cx_keep rfl rfl ?_
 refine cx_cond rfl (fun h0 => ?_) (fun h0 => ?_)
 ·
  have h0 := dT h0
  refine cx_seq ?_
  refine cx_ops ?_
  refine ax_q (q_mov rfl) ?_
  refine ax_q (q_mov rfl) ?_
  refine ax_nil ?_
  refine cx_keep rfl rfl ?_
  have hc : codeOK l = false := codeOK_0 (by omega)
  refine cx_wk (wk_virt 901 1 rfl rfl rfl) ?_
  refine cx_wk (wk_zs 2 901 [] rfl rfl) ?_
  refine cx_ret (retN (fun _ => 0) [901] rfl rfl rfl rfl rfl ?_)
  exact ⟨[], by rw [hc]; rfl, rfl, fun h => by rw [hc] at h; cases h⟩
 ·
  have h0 := dF h0
  have h0 : l.length ≤ 80 := by omega
  refine cx_skip ?_
  refine cx_keep rfl rfl ?_
  refine cx_seq ?_
  refine cx_ops ?_
  refine ax_e (e_bslice rfl (by decide) rfl rfl) ?_
  refine ax_q (q_mov rfl) ?_
  first | refine ax_q (q_lenS_map rfl) ?_ | refine ax_q (q_lenS_osl rfl) ?_ | refine ax_q (q_lenS_zs rfl) ?_ | refine ax_q (q_lenS rfl) ?_
  refine ax_qe (r' := int ((l.length + 1 : Nat) : Int)) (q_ibin rfl rfl rfl) (by rw [wi (by omega) (by omega)]; rfl) ?_
  first | refine ax_call rfl (vc_pure (c_Repeat (q := -1) (m := l.length + 1) ?_) hP rfl ?_) | refine ax_call rfl (vc_lend (c_Repeat (q := -1) (m := l.length + 1) ?_) hP (by repeat (first | exact lal_id _ rfl | exact LAL.nil | refine LAL.cons ?_ ?_ | exact la_id _ rfl | exact LA.lend (lend_whole rfl (by first | (simp; done) | (rw [List.length_map]; rfl))) | refine LA.agg ?_ | refine LA.fn ?_ | refine LA.lend ?_ | exact Lend.d _ | exact Lend.zs _ | exact lend_whole rfl (by first | (simp; done) | (rw [List.length_map]; rfl)) | refine Lend.ptr rfl ?_ | refine Lend.fn ?_ | exact LendL.nil | refine LendL.cons ?_ ?_)) ?_)
  ·
   first | assumption | omega | (simp; done) | (simp; omega)
  rintro r h ⟨rfl, rfl⟩
  refine ⟨fun i => 19 + 200 * i, [0], ⟨rfl, rfl, rfl, rfl, rfl, (by first | exact (fun h => absurd h Bool.false_ne_true) | exact (fun _ => ⟨rfl, (noisl_of ⟨noisl_rep, trivial⟩)⟩))⟩, ?_⟩
  skip
  refine ax_q (q_mov rfl) ?_
  refine ax_nil ?_
  refine cx_keep rfl rfl ?_
  refine cx_seq ?_
  refine cx_ops ?_
  refine ax_q (q_mov rfl) ?_
  refine ax_q (q_ixoI rfl rfl (by omega) (by omega)) ?_
  refine ax_e (e_str (q := intRow 0) (row := intRow (-1)) (rs' := (0 :: List.replicate l.length (-1)).map intRow) rfl rfl rfl rfl rfl rfl (rep_get (by omega)) rfl rfl (rep_set rfl)) ?_
  refine ax_nil ?_
  refine cx_keep rfl rfl ?_
  refine cx_seq ?_
  refine cx_seq ?_
  refine cx_ops ?_
  refine ax_q (q_mov rfl) ?_
  first | refine ax_q (q_lenS_map rfl) ?_ | refine ax_q (q_lenS_osl rfl) ?_ | refine ax_q (q_lenS_zs rfl) ?_ | refine ax_q (q_lenS rfl) ?_
  refine ax_q (q_mov rfl) ?_
  refine ax_nil ?_
  refine cx_keep rfl rfl ?_
  refine cx_block ?_
  refine cx_loopU (fun n (p : Nat × List Int) => p.1 ≤ l.length ∧ n = l.length - p.1 ∧ runH l p.1 = some p.2) (fun p => [(24, int p.1)]) (fun p => [(19, .rows 1 (p.2.map intRow))]) ⟨_, (0, _), ⟨Nat.zero_le _, rfl, rfl⟩, by repeat (first | exact trivial | refine ⟨rfl, ?_⟩ | refine ⟨?_, ?_⟩)⟩ ?_
  rintro n ⟨k, ds⟩ ⟨hk, rfl, hr⟩
  simp only at hk hr ⊢
  have hdl := runH_len hr
  have hg := runH_good hk hr
  refine cx_seq ?_
  refine cx_ops ?_
  refine ax_q (q_ibin rfl rfl rfl) ?_
  refine ax_nil ?_
  refine cx_keep rfl rfl ?_
  refine cx_seq ?_
  refine cx_cond rfl (fun h1 => ?_) (fun h1 => ?_)
  ·
   have h1 := dT h1
   have h1x : k < l.length := by omega
   have hxv := hv _ (List.getElem_mem h1x)
   have hd := dB hg (k := k) (by omega)
   refine cx_skip ?_
   refine cx_keep rfl rfl ?_
   refine cx_seq ?_
   refine cx_block ?_
   refine cx_seq ?_
   refine cx_ops ?_
   refine ax_q (q_mov rfl) ?_
   first | refine ax_q (q_ix rfl rfl (by assumption)) ?_ | refine ax_q (q_ix rfl rfl (mapAt (by first | assumption | omega))) ?_ | refine ax_q (q_ixo rfl rfl (by first | assumption | omega)) ?_ | refine ax_q (q_ixI rfl rfl (by omega) (mapAt (by first | assumption | omega))) ?_ | refine ax_q (q_ixoI rfl rfl (by omega) (by omega)) ?_
   first | refine ax_q (q_ldN rfl rfl rfl) ?_ | refine ax_q (q_loadN_ip rfl (Nat.le_refl _)) ?_ | refine ax_q (q_loadN_ip rfl (by decide)) ?_ | refine ax_q (q_loadN_rptr rfl rfl (by assumption) (by decide)) ?_ | refine ax_q (q_loadN_rptr rfl rfl (mapAt (by first | assumption | omega)) (by decide)) ?_
   refine ax_e (e_alloc (by decide) rfl rfl) ?_
   refine ax_q (q_mov rfl) ?_
   refine ax_e (e_st rfl rfl rfl rfl rfl rfl rfl) ?_
   refine ax_nil ?_
   refine cx_keep rfl rfl ?_
   refine cx_seq ?_
   refine cx_seq ?_
   refine cx_ops ?_
   refine ax_q (q_mov rfl) ?_
   refine ax_q (q_mov rfl) ?_
   refine ax_q (q_ixo rfl rfl (by omega)) ?_
   refine ax_q (q_load1_rptr (r := intRow (ds.getD k 0)) rfl rfl (dAt (by omega)) rfl) ?_
   refine ax_q (q_ibin rfl rfl rfl) ?_
   refine ax_q (q_mov rfl) ?_
   apply ax_or rfl rfl
   ·
    intro g
    have g := dF g
    refine ax_q (q_ldN rfl rfl rfl) ?_
    refine ax_q (q_mov rfl) ?_
    refine ax_q (q_mov rfl) ?_
    first | refine ax_q (q_lenS_map rfl) ?_ | refine ax_q (q_lenS_osl rfl) ?_ | refine ax_q (q_lenS_zs rfl) ?_ | refine ax_q (q_lenS rfl) ?_
    first | refine ax_call rfl (vc_pure0 (c_insOK (x := l[k]) (i := k) ?_ ?_) hP rfl rfl ?_) | refine ax_call rfl (vc_lend0 (c_insOK (x := l[k]) (i := k) ?_ ?_) hP (by repeat (first | exact lal_id _ rfl | exact LAL.nil | refine LAL.cons ?_ ?_ | exact la_id _ rfl | exact LA.lend (lend_whole rfl (by first | (simp; done) | (rw [List.length_map]; rfl))) | refine LA.agg ?_ | refine LA.fn ?_ | refine LA.lend ?_ | exact Lend.d _ | exact Lend.zs _ | exact lend_whole rfl (by first | (simp; done) | (rw [List.length_map]; rfl)) | refine Lend.ptr rfl ?_ | refine Lend.fn ?_ | exact LendL.nil | refine LendL.cons ?_ ?_)) rfl rfl ?_)
    ·
     first | assumption | omega | (simp; done) | (simp; omega)
    ·
     first | assumption | omega | (simp; done) | (simp; omega)
    refine ax_q (q_not rfl) ?_
    exact ax_nil ⟨rfl, by repeat (first | exact trivial | refine ⟨rfl, ?_⟩ | refine ⟨?_, ?_⟩)⟩
   refine ax_nil ?_
   refine cx_keep rfl rfl ?_
   refine cx_cond rfl (fun h2 => ?_) (fun h2 => ?_)
   ·
    have h2 := (fun h => (or_T h).imp dT bT) h2
    refine cx_seq ?_
    refine cx_ops ?_
    refine ax_q (q_mov rfl) ?_
    refine ax_q (q_mov rfl) ?_
    refine ax_nil ?_
    refine cx_keep rfl rfl ?_
    have hc : codeOK l = false := codeOK_no h0 hr h1x (h2.elim (fun h => stepK_1 h) (fun h => stepK_2 h))
    refine cx_wk (wk_virt 901 1 rfl rfl rfl) ?_
    refine cx_wk (wk_zs 2 901 [] rfl rfl) ?_
    refine cx_ret (retN (fun _ => 0) [901] rfl rfl rfl rfl rfl ?_)
    exact ⟨[], by rw [hc]; rfl, rfl, fun h => by rw [hc] at h; cases h⟩
   ·
    have h2 := (fun h => And.intro (dF (or_F h).1) (bF (or_F h).2)) h2
    refine cx_skip ?_
    refine cx_keep rfl rfl ?_
    refine cx_seq ?_
    refine cx_ops ?_
    refine ax_q (q_mov rfl) ?_
    refine ax_q (q_mov rfl) ?_
    refine ax_q (q_ixo rfl rfl (by omega)) ?_
    refine ax_q (q_load1_rptr (r := intRow (ds.getD k 0)) rfl rfl (dAt (by omega)) rfl) ?_
    refine ax_q (q_mov rfl) ?_
    refine ax_q (q_mov rfl) ?_
    refine ax_nil ?_
    refine cx_keep rfl rfl ?_
    refine cx_seq ?_
    refine cx_ops ?_
    refine ax_q (q_mov rfl) ?_
    refine ax_q (q_add rfl rfl (by omega)) ?_
    refine ax_e (e_bslice rfl (by decide) rfl rfl) ?_
    refine ax_q (q_mov rfl) ?_
    refine ax_nil ?_
    refine cx_keep rfl rfl ?_
    refine cx_seq ?_
    refine cx_seq ?_
    refine cx_ops ?_
    refine ax_q (q_fadr_ptr rfl) ?_
    refine ax_q (q_load1_ptr rfl rfl rfl) ?_
    refine ax_nil ?_
    refine cx_keep rfl rfl ?_
    refine cx_block ?_
    refine cx_seq ?_
    refine cx_seq ?_
    refine cx_ops ?_
    refine ax_q (q_ibin rfl rfl rfl) ?_
    refine ax_q (q_mov rfl) ?_
    refine ax_nil ?_
    refine cx_keep rfl rfl ?_
    refine cx_cond rfl (fun h3 => ?_) (fun h3 => ?_)
    ·
     have h3 := dT h3
     refine cx_skip ?_
     refine cx_keep rfl rfl ?_
     refine cx_cond rfl (fun h4 => ?_) (fun h4 => ?_)
     ·
      have h4 := dT h4
      have hb : behI l[k] (ds.getD k 0) = (ds.getD k 0) + 1 := by unfold behI; rw [if_pos (by omega)]
      have hlw : lowI l[k] = 0 := by unfold lowI; rw [if_pos (by omega)]
      have ht : tosI l[k] (k : Int) = [(k : Int) + 1] := by unfold tosI; rw [if_neg (by omega)]
      have htl : (tosI l[k] (k : Int)).length = 1 := by rw [ht]; rfl
      refine cx_ops ?_
      refine ax_q (q_mov rfl) ?_
      refine ax_q (q_add rfl rfl (by omega)) ?_
      refine ax_q (q_mov rfl) ?_
      refine ax_q (q_mov rfl) ?_
      refine ax_nil ?_
      refine cx_keep rfl rfl ?_
      refine cx_seq ?_
      refine cx_seq ?_
      refine cx_ops ?_
      refine ax_q (q_mov rfl) ?_
      refine ax_q (q_mov rfl) ?_
      refine ax_q (q_ixo rfl rfl (by omega)) ?_
      refine ax_q (q_load1_rptr (r := intRow (ds.getD k 0)) rfl rfl (dAt (by omega)) rfl) ?_
      refine ax_q (q_mov rfl) ?_
      refine ax_q (q_ibin rfl rfl rfl) ?_
      refine ax_q (q_mov rfl) ?_
      apply ax_or rfl rfl
      ·
       intro g
       have g := dF g
       refine ax_q (q_mov rfl) ?_
       refine ax_q (q_ibin rfl rfl rfl) ?_
       exact ax_nil ⟨rfl, by repeat (first | exact trivial | refine ⟨rfl, ?_⟩ | refine ⟨?_, ?_⟩)⟩
      refine ax_nil ?_
      refine cx_keep rfl rfl ?_
      refine cx_cond rfl (fun h8 => ?_) (fun h8 => ?_)
      ·
       have h8 := (fun h => (or_T h).imp dT dT) h8
       refine cx_seq ?_
       refine cx_ops ?_
       refine ax_q (q_mov rfl) ?_
       refine ax_q (q_mov rfl) ?_
       refine ax_nil ?_
       refine cx_keep rfl rfl ?_
       have hc : codeOK l = false := codeOK_no h0 hr h1x (stepK_3 (by rw [hlw, hb]; exact h8))
       refine cx_wk (wk_virt 901 1 rfl rfl rfl) ?_
       refine cx_wk (wk_zs 2 901 [] rfl rfl) ?_
       refine cx_ret (retN (fun _ => 0) [901] rfl rfl rfl rfl rfl ?_)
       exact ⟨[], by rw [hc]; rfl, rfl, fun h => by rw [hc] at h; cases h⟩
      ·
       have h8 := (fun h => And.intro (dF (or_F h).1) (dF (or_F h).2)) h8
       have hst := stepK_4 (x := l[k]) (ds := ds) (n := (l.length : Int)) h2.1 h2.2 (by rw [hlw]; exact h8.1) (by rw [hb]; exact h8.2)
       have htb := tosI_b (x := l[k]) (i := (k : Int)) (n := (l.length : Int)) (by omega) (by omega) h2.2
       refine cx_skip ?_
       refine cx_keep rfl rfl ?_
       refine cx_seq ?_
       refine cx_ops ?_
       refine ax_q (q_mov rfl) ?_
       first | refine ax_q (q_lenS_map rfl) ?_ | refine ax_q (q_lenS_osl rfl) ?_ | refine ax_q (q_lenS_zs rfl) ?_ | refine ax_q (q_lenS rfl) ?_
       refine ax_q (q_mov rfl) ?_
       refine ax_nil ?_
       refine cx_keep rfl rfl ?_
       refine cx_block ?_
       refine cx_loopU (fun n (p : Nat × List Int) => p.1 ≤ (tosI l[k] (k : Int)).length ∧ n = (tosI l[k] (k : Int)).length - p.1 ∧ p.2.length = l.length + 1 ∧ putL (behI l[k] (ds.getD k 0)) ds ((tosI l[k] (k : Int)).take p.1) = some p.2) (fun p => [(80, int p.1)]) (fun p => [(19, .rows 1 (p.2.map intRow)), (48, .rows 1 (([(k : Int) + 1] : List Int).map intRow))]) ⟨_, (0, ds), ⟨Nat.zero_le _, rfl, hdl, rfl⟩, by repeat (first | exact trivial | refine ⟨rfl, ?_⟩ | refine ⟨?_, ?_⟩)⟩ ?_
       rintro n ⟨j, p⟩ ⟨hj, rfl, hpl, hp⟩
       simp only at hj hpl hp ⊢
       refine cx_seq ?_
       refine cx_ops ?_
       refine ax_q (q_ibin rfl rfl rfl) ?_
       refine ax_nil ?_
       refine cx_keep rfl rfl ?_
       refine cx_seq ?_
       refine cx_cond rfl (fun h9 => ?_) (fun h9 => ?_)
       ·
        have h9 := dT h9
        try simp only [List.length_cons, List.length_nil] at h9
        have h9x : j < (tosI l[k] (k : Int)).length := by omega
        have htj := htb _ (List.getElem_mem h9x)
        have hte : ([(k : Int) + 1] : List Int)[j]? = some (tosI l[k] (k : Int))[j] := by rw [← List.getElem?_eq_getElem h9x, ht]
        refine cx_skip ?_
        refine cx_keep rfl rfl ?_
        refine cx_seq ?_
        refine cx_block ?_
        refine cx_seq ?_
        refine cx_ops ?_
        refine ax_q (q_ixo rfl rfl (by first | omega | (simp only [List.length_cons, List.length_nil]; omega))) ?_
        refine ax_q (q_load1_rptr (r := intRow ((tosI l[k] (k : Int))[j])) rfl rfl (tosAt hte) rfl) ?_
        refine ax_q (q_mov rfl) ?_
        refine ax_nil ?_
        refine cx_keep rfl rfl ?_
        refine cx_seq ?_
        refine cx_seq ?_
        refine cx_ops ?_
        refine ax_q (q_mov rfl) ?_
        refine ax_q (q_mov rfl) ?_
        refine ax_q (q_ixoI rfl rfl (by omega) (by omega)) ?_
        refine ax_q (q_load1_rptr (r := intRow (p.getD (tosI l[k] (k : Int))[j].toNat 0)) rfl rfl (dAt (by omega)) rfl) ?_
        refine ax_q (q_ibin rfl rfl rfl) ?_
        refine ax_q (q_mov rfl) ?_
        apply ax_and rfl rfl
        ·
         intro g
         have g := dT g
         refine ax_q (q_mov rfl) ?_
         refine ax_q (q_mov rfl) ?_
         refine ax_q (q_ixoI rfl rfl (by omega) (by omega)) ?_
         refine ax_q (q_load1_rptr (r := intRow (p.getD (tosI l[k] (k : Int))[j].toNat 0)) rfl rfl (dAt (by omega)) rfl) ?_
         refine ax_q (q_mov rfl) ?_
         refine ax_q (q_ibin rfl rfl rfl) ?_
         exact ax_nil ⟨rfl, by repeat (first | exact trivial | refine ⟨rfl, ?_⟩ | refine ⟨?_, ?_⟩)⟩
        refine ax_nil ?_
        refine cx_keep rfl rfl ?_
        refine cx_cond rfl (fun h10 => ?_) (fun h10 => ?_)
        ·
         have h10 := (fun h => And.intro (dT (and_T h).1) (nT (and_T h).2)) h10
         refine cx_seq ?_
         refine cx_ops ?_
         refine ax_q (q_mov rfl) ?_
         refine ax_q (q_mov rfl) ?_
         refine ax_nil ?_
         refine cx_keep rfl rfl ?_
         have hc : codeOK l = false := codeOK_no h0 hr h1x (hst.trans (putL_none (j := j + 1) (by rw [putL_step h9x hp]; exact put1_no (by rw [hb]; exact h10))))
         refine cx_wk (wk_virt 901 1 rfl rfl rfl) ?_
         refine cx_wk (wk_zs 2 901 [] rfl rfl) ?_
         refine cx_ret (retN (fun _ => 0) [901] rfl rfl rfl rfl rfl ?_)
         exact ⟨[], by rw [hc]; rfl, rfl, fun h => by rw [hc] at h; cases h⟩
        ·
         have h10 := (fun h => (and_F h).imp dF nF) h10
         refine cx_skip ?_
         refine cx_keep rfl rfl ?_
         refine cx_ops ?_
         refine ax_q (q_mov rfl) ?_
         refine ax_q (q_mov rfl) ?_
         refine ax_q (q_mov rfl) ?_
         refine ax_q (q_ixoI rfl rfl (by omega) (by omega)) ?_
         refine ax_e (e_str (q := intRow _) (row := intRow _) (rs' := (p.set (tosI l[k] (k : Int))[j].toNat _).map intRow) rfl rfl rfl rfl rfl rfl (dAt (by omega)) rfl rfl setI) ?_
         refine ax_nil ?_
         refine cx_keep rfl rfl ?_
         refine cx_ops ?_
         refine ax_qe (r' := int ((j + 1 : Nat) : Int)) (q_ibin rfl rfl rfl) (by rw [wi (by omega) (by omega)]; rfl) ?_
         refine ax_q (q_mov rfl) ?_
         refine ax_nil ?_
         exact ⟨_, (j + 1, p.set (tosI l[k] (k : Int))[j].toNat ((ds.getD k 0) + 1)), by simp only; omega, ⟨by simp only; omega, rfl, by simp only [List.length_set]; exact hpl, by simp only; rw [putL_step h9x hp, hb]; exact put1_ok h10⟩, by repeat (first | exact trivial | refine ⟨rfl, ?_⟩ | refine ⟨?_, ?_⟩)⟩
       ·
        have h9 := dF h9
        try simp only [List.length_cons, List.length_nil] at h9
        have h9x : j = (tosI l[k] (k : Int)).length := by omega
        refine cx_exit rfl ?_
        refine cx_keep rfl rfl ?_
        refine cx_ops ?_
        refine ax_qe (r' := int ((k + 1 : Nat) : Int)) (q_ibin rfl rfl rfl) (by rw [wi (by omega) (by omega)]; rfl) ?_
        refine ax_q (q_mov rfl) ?_
        refine ax_nil ?_
        exact ⟨_, (k + 1, p), by simp only; omega, ⟨by simp only; omega, rfl, by simp only; rw [runH_next hr h1x]; exact hst.trans (by have hq := hp; rw [h9x, List.take_length] at hq; exact hq)⟩, by repeat (first | exact trivial | refine ⟨rfl, ?_⟩ | refine ⟨?_, ?_⟩)⟩
     ·
      have h4 := dF h4
      exfalso; omega
    ·
     have h3 := dF h3
     refine cx_ops ?_
     refine ax_q (q_ibin rfl rfl rfl) ?_
     refine ax_q (q_mov rfl) ?_
     refine ax_nil ?_
     refine cx_keep rfl rfl ?_
     refine cx_cond rfl (fun h4 => ?_) (fun h4 => ?_)
     ·
      have h4 := dT h4
      have hb : behI l[k] (ds.getD k 0) = (ds.getD k 0) + 1 := by unfold behI; rw [if_pos (by omega)]
      have hlw : lowI l[k] = 0 := by unfold lowI; rw [if_pos (by omega)]
      have ht : tosI l[k] (k : Int) = [(k : Int) + 1] := by unfold tosI; rw [if_neg (by omega)]
      have htl : (tosI l[k] (k : Int)).length = 1 := by rw [ht]; rfl
      refine cx_ops ?_
      refine ax_q (q_mov rfl) ?_
      refine ax_q (q_add rfl rfl (by omega)) ?_
      refine ax_q (q_mov rfl) ?_
      refine ax_q (q_mov rfl) ?_
      refine ax_nil ?_
      refine cx_keep rfl rfl ?_
      refine cx_seq ?_
      refine cx_seq ?_
      refine cx_ops ?_
      refine ax_q (q_mov rfl) ?_
      refine ax_q (q_mov rfl) ?_
      refine ax_q (q_ixo rfl rfl (by omega)) ?_
      refine ax_q (q_load1_rptr (r := intRow (ds.getD k 0)) rfl rfl (dAt (by omega)) rfl) ?_
      refine ax_q (q_mov rfl) ?_
      refine ax_q (q_ibin rfl rfl rfl) ?_
      refine ax_q (q_mov rfl) ?_
      apply ax_or rfl rfl
      ·
       intro g
       have g := dF g
       refine ax_q (q_mov rfl) ?_
       refine ax_q (q_ibin rfl rfl rfl) ?_
       exact ax_nil ⟨rfl, by repeat (first | exact trivial | refine ⟨rfl, ?_⟩ | refine ⟨?_, ?_⟩)⟩
      refine ax_nil ?_
      refine cx_keep rfl rfl ?_
      refine cx_cond rfl (fun h8 => ?_) (fun h8 => ?_)
      ·
       have h8 := (fun h => (or_T h).imp dT dT) h8
       refine cx_seq ?_
       refine cx_ops ?_
       refine ax_q (q_mov rfl) ?_
       refine ax_q (q_mov rfl) ?_
       refine ax_nil ?_
       refine cx_keep rfl rfl ?_
       have hc : codeOK l = false := codeOK_no h0 hr h1x (stepK_3 (by rw [hlw, hb]; exact h8))
       refine cx_wk (wk_virt 901 1 rfl rfl rfl) ?_
       refine cx_wk (wk_zs 2 901 [] rfl rfl) ?_
       refine cx_ret (retN (fun _ => 0) [901] rfl rfl rfl rfl rfl ?_)
       exact ⟨[], by rw [hc]; rfl, rfl, fun h => by rw [hc] at h; cases h⟩
      ·
       have h8 := (fun h => And.intro (dF (or_F h).1) (dF (or_F h).2)) h8
       have hst := stepK_4 (x := l[k]) (ds := ds) (n := (l.length : Int)) h2.1 h2.2 (by rw [hlw]; exact h8.1) (by rw [hb]; exact h8.2)
       have htb := tosI_b (x := l[k]) (i := (k : Int)) (n := (l.length : Int)) (by omega) (by omega) h2.2
       refine cx_skip ?_
       refine cx_keep rfl rfl ?_
       refine cx_seq ?_
       refine cx_ops ?_
       refine ax_q (q_mov rfl) ?_
       first | refine ax_q (q_lenS_map rfl) ?_ | refine ax_q (q_lenS_osl rfl) ?_ | refine ax_q (q_lenS_zs rfl) ?_ | refine ax_q (q_lenS rfl) ?_
       refine ax_q (q_mov rfl) ?_
       refine ax_nil ?_
       refine cx_keep rfl rfl ?_
       refine cx_block ?_
       refine cx_loopU (fun n (p : Nat × List Int) => p.1 ≤ (tosI l[k] (k : Int)).length ∧ n = (tosI l[k] (k : Int)).length - p.1 ∧ p.2.length = l.length + 1 ∧ putL (behI l[k] (ds.getD k 0)) ds ((tosI l[k] (k : Int)).take p.1) = some p.2) (fun p => [(80, int p.1)]) (fun p => [(19, .rows 1 (p.2.map intRow)), (48, .rows 1 (([(k : Int) + 1] : List Int).map intRow))]) ⟨_, (0, ds), ⟨Nat.zero_le _, rfl, hdl, rfl⟩, by repeat (first | exact trivial | refine ⟨rfl, ?_⟩ | refine ⟨?_, ?_⟩)⟩ ?_
       rintro n ⟨j, p⟩ ⟨hj, rfl, hpl, hp⟩
       simp only at hj hpl hp ⊢
       refine cx_seq ?_
       refine cx_ops ?_
       refine ax_q (q_ibin rfl rfl rfl) ?_
       refine ax_nil ?_
       refine cx_keep rfl rfl ?_
       refine cx_seq ?_
       refine cx_cond rfl (fun h9 => ?_) (fun h9 => ?_)
       ·
        have h9 := dT h9
        try simp only [List.length_cons, List.length_nil] at h9
        have h9x : j < (tosI l[k] (k : Int)).length := by omega
        have htj := htb _ (List.getElem_mem h9x)
        have hte : ([(k : Int) + 1] : List Int)[j]? = some (tosI l[k] (k : Int))[j] := by rw [← List.getElem?_eq_getElem h9x, ht]
        refine cx_skip ?_
        refine cx_keep rfl rfl ?_
        refine cx_seq ?_
        refine cx_block ?_
        refine cx_seq ?_
        refine cx_ops ?_
        refine ax_q (q_ixo rfl rfl (by first | omega | (simp only [List.length_cons, List.length_nil]; omega))) ?_
        refine ax_q (q_load1_rptr (r := intRow ((tosI l[k] (k : Int))[j])) rfl rfl (tosAt hte) rfl) ?_
        refine ax_q (q_mov rfl) ?_
        refine ax_nil ?_
        refine cx_keep rfl rfl ?_
        refine cx_seq ?_
        refine cx_seq ?_
        refine cx_ops ?_
        refine ax_q (q_mov rfl) ?_
        refine ax_q (q_mov rfl) ?_
        refine ax_q (q_ixoI rfl rfl (by omega) (by omega)) ?_
        refine ax_q (q_load1_rptr (r := intRow (p.getD (tosI l[k] (k : Int))[j].toNat 0)) rfl rfl (dAt (by omega)) rfl) ?_
        refine ax_q (q_ibin rfl rfl rfl) ?_
        refine ax_q (q_mov rfl) ?_
        apply ax_and rfl rfl
        ·
         intro g
         have g := dT g
         refine ax_q (q_mov rfl) ?_
         refine ax_q (q_mov rfl) ?_
         refine ax_q (q_ixoI rfl rfl (by omega) (by omega)) ?_
         refine ax_q (q_load1_rptr (r := intRow (p.getD (tosI l[k] (k : Int))[j].toNat 0)) rfl rfl (dAt (by omega)) rfl) ?_
         refine ax_q (q_mov rfl) ?_
         refine ax_q (q_ibin rfl rfl rfl) ?_
         exact ax_nil ⟨rfl, by repeat (first | exact trivial | refine ⟨rfl, ?_⟩ | refine ⟨?_, ?_⟩)⟩
        refine ax_nil ?_
        refine cx_keep rfl rfl ?_
        refine cx_cond rfl (fun h10 => ?_) (fun h10 => ?_)
        ·
         have h10 := (fun h => And.intro (dT (and_T h).1) (nT (and_T h).2)) h10
         refine cx_seq ?_
         refine cx_ops ?_
         refine ax_q (q_mov rfl) ?_
         refine ax_q (q_mov rfl) ?_
         refine ax_nil ?_
         refine cx_keep rfl rfl ?_
         have hc : codeOK l = false := codeOK_no h0 hr h1x (hst.trans (putL_none (j := j + 1) (by rw [putL_step h9x hp]; exact put1_no (by rw [hb]; exact h10))))
         refine cx_wk (wk_virt 901 1 rfl rfl rfl) ?_
         refine cx_wk (wk_zs 2 901 [] rfl rfl) ?_
         refine cx_ret (retN (fun _ => 0) [901] rfl rfl rfl rfl rfl ?_)
         exact ⟨[], by rw [hc]; rfl, rfl, fun h => by rw [hc] at h; cases h⟩
        ·
         have h10 := (fun h => (and_F h).imp dF nF) h10
         refine cx_skip ?_
         refine cx_keep rfl rfl ?_
         refine cx_ops ?_
         refine ax_q (q_mov rfl) ?_
         refine ax_q (q_mov rfl) ?_
         refine ax_q (q_mov rfl) ?_
         refine ax_q (q_ixoI rfl rfl (by omega) (by omega)) ?_
         refine ax_e (e_str (q := intRow _) (row := intRow _) (rs' := (p.set (tosI l[k] (k : Int))[j].toNat _).map intRow) rfl rfl rfl rfl rfl rfl (dAt (by omega)) rfl rfl setI) ?_
         refine ax_nil ?_
         refine cx_keep rfl rfl ?_
         refine cx_ops ?_
         refine ax_qe (r' := int ((j + 1 : Nat) : Int)) (q_ibin rfl rfl rfl) (by rw [wi (by omega) (by omega)]; rfl) ?_
         refine ax_q (q_mov rfl) ?_
         refine ax_nil ?_
         exact ⟨_, (j + 1, p.set (tosI l[k] (k : Int))[j].toNat ((ds.getD k 0) + 1)), by simp only; omega, ⟨by simp only; omega, rfl, by simp only [List.length_set]; exact hpl, by simp only; rw [putL_step h9x hp, hb]; exact put1_ok h10⟩, by repeat (first | exact trivial | refine ⟨rfl, ?_⟩ | refine ⟨?_, ?_⟩)⟩
       ·
        have h9 := dF h9
        try simp only [List.length_cons, List.length_nil] at h9
        have h9x : j = (tosI l[k] (k : Int)).length := by omega
        refine cx_exit rfl ?_
        refine cx_keep rfl rfl ?_
        refine cx_ops ?_
        refine ax_qe (r' := int ((k + 1 : Nat) : Int)) (q_ibin rfl rfl rfl) (by rw [wi (by omega) (by omega)]; rfl) ?_
        refine ax_q (q_mov rfl) ?_
        refine ax_nil ?_
        exact ⟨_, (k + 1, p), by simp only; omega, ⟨by simp only; omega, rfl, by simp only; rw [runH_next hr h1x]; exact hst.trans (by have hq := hp; rw [h9x, List.take_length] at hq; exact hq)⟩, by repeat (first | exact trivial | refine ⟨rfl, ?_⟩ | refine ⟨?_, ?_⟩)⟩
     ·
      have h4 := dF h4
      refine cx_seq ?_
      refine cx_ops ?_
      refine ax_q (q_ibin rfl rfl rfl) ?_
      refine ax_q (q_mov rfl) ?_
      refine ax_nil ?_
      refine cx_keep rfl rfl ?_
      refine cx_cond rfl (fun h5 => ?_) (fun h5 => ?_)
      ·
       have h5 := dT h5
       have hb : behI l[k] (ds.getD k 0) = (ds.getD k 0) - 1 := by unfold behI; rw [if_neg (by omega), if_pos (by omega)]
       have hlw : lowI l[k] = 2 := by unfold lowI; rw [if_neg (by omega), if_pos (by omega)]
       have ht : tosI l[k] (k : Int) = [(k : Int) + 1] := by unfold tosI; rw [if_neg (by omega)]
       have htl : (tosI l[k] (k : Int)).length = 1 := by rw [ht]; rfl
       refine cx_ops ?_
       refine ax_q (q_mov rfl) ?_
       refine ax_q (q_sub rfl rfl (by omega)) ?_
       refine ax_q (q_mov rfl) ?_
       refine ax_q (q_mov rfl) ?_
       refine ax_nil ?_
       refine cx_keep rfl rfl ?_
       refine cx_seq ?_
       refine cx_seq ?_
       refine cx_ops ?_
       refine ax_q (q_mov rfl) ?_
       refine ax_q (q_mov rfl) ?_
       refine ax_q (q_ixo rfl rfl (by omega)) ?_
       refine ax_q (q_load1_rptr (r := intRow (ds.getD k 0)) rfl rfl (dAt (by omega)) rfl) ?_
       refine ax_q (q_mov rfl) ?_
       refine ax_q (q_ibin rfl rfl rfl) ?_
       refine ax_q (q_mov rfl) ?_
       apply ax_or rfl rfl
       ·
        intro g
        have g := dF g
        refine ax_q (q_mov rfl) ?_
        refine ax_q (q_ibin rfl rfl rfl) ?_
        exact ax_nil ⟨rfl, by repeat (first | exact trivial | refine ⟨rfl, ?_⟩ | refine ⟨?_, ?_⟩)⟩
       refine ax_nil ?_
       refine cx_keep rfl rfl ?_
       refine cx_cond rfl (fun h8 => ?_) (fun h8 => ?_)
       ·
        have h8 := (fun h => (or_T h).imp dT dT) h8
        refine cx_seq ?_
        refine cx_ops ?_
        refine ax_q (q_mov rfl) ?_
        refine ax_q (q_mov rfl) ?_
        refine ax_nil ?_
        refine cx_keep rfl rfl ?_
        have hc : codeOK l = false := codeOK_no h0 hr h1x (stepK_3 (by rw [hlw, hb]; exact h8))
        refine cx_wk (wk_virt 901 1 rfl rfl rfl) ?_
        refine cx_wk (wk_zs 2 901 [] rfl rfl) ?_
        refine cx_ret (retN (fun _ => 0) [901] rfl rfl rfl rfl rfl ?_)
        exact ⟨[], by rw [hc]; rfl, rfl, fun h => by rw [hc] at h; cases h⟩
       ·
        have h8 := (fun h => And.intro (dF (or_F h).1) (dF (or_F h).2)) h8
        have hst := stepK_4 (x := l[k]) (ds := ds) (n := (l.length : Int)) h2.1 h2.2 (by rw [hlw]; exact h8.1) (by rw [hb]; exact h8.2)
        have htb := tosI_b (x := l[k]) (i := (k : Int)) (n := (l.length : Int)) (by omega) (by omega) h2.2
        refine cx_skip ?_
        refine cx_keep rfl rfl ?_
        refine cx_seq ?_
        refine cx_ops ?_
        refine ax_q (q_mov rfl) ?_
        first | refine ax_q (q_lenS_map rfl) ?_ | refine ax_q (q_lenS_osl rfl) ?_ | refine ax_q (q_lenS_zs rfl) ?_ | refine ax_q (q_lenS rfl) ?_
        refine ax_q (q_mov rfl) ?_
        refine ax_nil ?_
        refine cx_keep rfl rfl ?_
        refine cx_block ?_
        refine cx_loopU (fun n (p : Nat × List Int) => p.1 ≤ (tosI l[k] (k : Int)).length ∧ n = (tosI l[k] (k : Int)).length - p.1 ∧ p.2.length = l.length + 1 ∧ putL (behI l[k] (ds.getD k 0)) ds ((tosI l[k] (k : Int)).take p.1) = some p.2) (fun p => [(80, int p.1)]) (fun p => [(19, .rows 1 (p.2.map intRow)), (48, .rows 1 (([(k : Int) + 1] : List Int).map intRow))]) ⟨_, (0, ds), ⟨Nat.zero_le _, rfl, hdl, rfl⟩, by repeat (first | exact trivial | refine ⟨rfl, ?_⟩ | refine ⟨?_, ?_⟩)⟩ ?_
        rintro n ⟨j, p⟩ ⟨hj, rfl, hpl, hp⟩
        simp only at hj hpl hp ⊢
        refine cx_seq ?_
        refine cx_ops ?_
        refine ax_q (q_ibin rfl rfl rfl) ?_
        refine ax_nil ?_
        refine cx_keep rfl rfl ?_
        refine cx_seq ?_
        refine cx_cond rfl (fun h9 => ?_) (fun h9 => ?_)
        ·
         have h9 := dT h9
         try simp only [List.length_cons, List.length_nil] at h9
         have h9x : j < (tosI l[k] (k : Int)).length := by omega
         have htj := htb _ (List.getElem_mem h9x)
         have hte : ([(k : Int) + 1] : List Int)[j]? = some (tosI l[k] (k : Int))[j] := by rw [← List.getElem?_eq_getElem h9x, ht]
         refine cx_skip ?_
         refine cx_keep rfl rfl ?_
         refine cx_seq ?_
         refine cx_block ?_
         refine cx_seq ?_
         refine cx_ops ?_
         refine ax_q (q_ixo rfl rfl (by first | omega | (simp only [List.length_cons, List.length_nil]; omega))) ?_
         refine ax_q (q_load1_rptr (r := intRow ((tosI l[k] (k : Int))[j])) rfl rfl (tosAt hte) rfl) ?_
         refine ax_q (q_mov rfl) ?_
         refine ax_nil ?_
         refine cx_keep rfl rfl ?_
         refine cx_seq ?_
         refine cx_seq ?_
         refine cx_ops ?_
         refine ax_q (q_mov rfl) ?_
         refine ax_q (q_mov rfl) ?_
         refine ax_q (q_ixoI rfl rfl (by omega) (by omega)) ?_
         refine ax_q (q_load1_rptr (r := intRow (p.getD (tosI l[k] (k : Int))[j].toNat 0)) rfl rfl (dAt (by omega)) rfl) ?_
         refine ax_q (q_ibin rfl rfl rfl) ?_
         refine ax_q (q_mov rfl) ?_
         apply ax_and rfl rfl
         ·
          intro g
          have g := dT g
          refine ax_q (q_mov rfl) ?_
          refine ax_q (q_mov rfl) ?_
          refine ax_q (q_ixoI rfl rfl (by omega) (by omega)) ?_
          refine ax_q (q_load1_rptr (r := intRow (p.getD (tosI l[k] (k : Int))[j].toNat 0)) rfl rfl (dAt (by omega)) rfl) ?_
          refine ax_q (q_mov rfl) ?_
          refine ax_q (q_ibin rfl rfl rfl) ?_
          exact ax_nil ⟨rfl, by repeat (first | exact trivial | refine ⟨rfl, ?_⟩ | refine ⟨?_, ?_⟩)⟩
         refine ax_nil ?_
         refine cx_keep rfl rfl ?_
         refine cx_cond rfl (fun h10 => ?_) (fun h10 => ?_)
         ·
          have h10 := (fun h => And.intro (dT (and_T h).1) (nT (and_T h).2)) h10
          refine cx_seq ?_
          refine cx_ops ?_
          refine ax_q (q_mov rfl) ?_
          refine ax_q (q_mov rfl) ?_
          refine ax_nil ?_
          refine cx_keep rfl rfl ?_
          have hc : codeOK l = false := codeOK_no h0 hr h1x (hst.trans (putL_none (j := j + 1) (by rw [putL_step h9x hp]; exact put1_no (by rw [hb]; exact h10))))
          refine cx_wk (wk_virt 901 1 rfl rfl rfl) ?_
          refine cx_wk (wk_zs 2 901 [] rfl rfl) ?_
          refine cx_ret (retN (fun _ => 0) [901] rfl rfl rfl rfl rfl ?_)
          exact ⟨[], by rw [hc]; rfl, rfl, fun h => by rw [hc] at h; cases h⟩
         ·
          have h10 := (fun h => (and_F h).imp dF nF) h10
          refine cx_skip ?_
          refine cx_keep rfl rfl ?_
          refine cx_ops ?_
          refine ax_q (q_mov rfl) ?_
          refine ax_q (q_mov rfl) ?_
          refine ax_q (q_mov rfl) ?_
          refine ax_q (q_ixoI rfl rfl (by omega) (by omega)) ?_
          refine ax_e (e_str (q := intRow _) (row := intRow _) (rs' := (p.set (tosI l[k] (k : Int))[j].toNat _).map intRow) rfl rfl rfl rfl rfl rfl (dAt (by omega)) rfl rfl setI) ?_
          refine ax_nil ?_
          refine cx_keep rfl rfl ?_
          refine cx_ops ?_
          refine ax_qe (r' := int ((j + 1 : Nat) : Int)) (q_ibin rfl rfl rfl) (by rw [wi (by omega) (by omega)]; rfl) ?_
          refine ax_q (q_mov rfl) ?_
          refine ax_nil ?_
          exact ⟨_, (j + 1, p.set (tosI l[k] (k : Int))[j].toNat ((ds.getD k 0) - 1)), by simp only; omega, ⟨by simp only; omega, rfl, by simp only [List.length_set]; exact hpl, by simp only; rw [putL_step h9x hp, hb]; exact put1_ok h10⟩, by repeat (first | exact trivial | refine ⟨rfl, ?_⟩ | refine ⟨?_, ?_⟩)⟩
        ·
         have h9 := dF h9
         try simp only [List.length_cons, List.length_nil] at h9
         have h9x : j = (tosI l[k] (k : Int)).length := by omega
         refine cx_exit rfl ?_
         refine cx_keep rfl rfl ?_
         refine cx_ops ?_
         refine ax_qe (r' := int ((k + 1 : Nat) : Int)) (q_ibin rfl rfl rfl) (by rw [wi (by omega) (by omega)]; rfl) ?_
         refine ax_q (q_mov rfl) ?_
         refine ax_nil ?_
         exact ⟨_, (k + 1, p), by simp only; omega, ⟨by simp only; omega, rfl, by simp only; rw [runH_next hr h1x]; exact hst.trans (by have hq := hp; rw [h9x, List.take_length] at hq; exact hq)⟩, by repeat (first | exact trivial | refine ⟨rfl, ?_⟩ | refine ⟨?_, ?_⟩)⟩
      ·
       have h5 := dF h5
       refine cx_seq ?_
       refine cx_seq ?_
       refine cx_ops ?_
       refine ax_q (q_ibin rfl rfl rfl) ?_
       refine ax_q (q_mov rfl) ?_
       refine ax_nil ?_
       refine cx_keep rfl rfl ?_
       refine cx_cond rfl (fun h6 => ?_) (fun h6 => ?_)
       ·
        have h6 := dT h6
        refine cx_skip ?_
        refine cx_keep rfl rfl ?_
        refine cx_cond rfl (fun h7 => ?_) (fun h7 => ?_)
        ·
         have h7 := dT h7
         have hb : behI l[k] (ds.getD k 0) = (ds.getD k 0) := by unfold behI; rw [if_neg (by omega), if_neg (by omega)]
         have hlw : lowI l[k] = 1 := by unfold lowI; rw [if_neg (by omega), if_neg (by omega)]
         have ht : tosI l[k] (k : Int) = [(k : Int) + 1, l[k].N] := by unfold tosI; rw [if_pos (by omega)]
         have htl : (tosI l[k] (k : Int)).length = 2 := by rw [ht]; rfl
         refine cx_ops ?_
         refine ax_q (q_mov rfl) ?_
         refine ax_q (q_fadr_ptr rfl) ?_
         refine ax_q (q_load1_ptr rfl rfl rfl) ?_
         refine ax_e (e_bslice rfl (by decide) rfl rfl) ?_
         refine ax_e (e_appn (n' := 2) (rs' := ([(k : Int) + 1, l[k].N] : List Int).map intRow) rfl rfl (by simp) rfl (src_osl rfl (by simp)) (.inl (by decide)) (hbnd (by simp) (by simp) (by decide)) rfl rfl) ?_
         refine ax_q (q_mov rfl) ?_
         refine ax_nil ?_
         refine cx_keep rfl rfl ?_
         refine cx_seq ?_
         refine cx_seq ?_
         refine cx_ops ?_
         refine ax_q (q_mov rfl) ?_
         refine ax_q (q_mov rfl) ?_
         refine ax_q (q_ixo rfl rfl (by omega)) ?_
         refine ax_q (q_load1_rptr (r := intRow (ds.getD k 0)) rfl rfl (dAt (by omega)) rfl) ?_
         refine ax_q (q_mov rfl) ?_
         refine ax_q (q_ibin rfl rfl rfl) ?_
         refine ax_q (q_mov rfl) ?_
         apply ax_or rfl rfl
         ·
          intro g
          have g := dF g
          refine ax_q (q_mov rfl) ?_
          refine ax_q (q_ibin rfl rfl rfl) ?_
          exact ax_nil ⟨rfl, by repeat (first | exact trivial | refine ⟨rfl, ?_⟩ | refine ⟨?_, ?_⟩)⟩
         refine ax_nil ?_
         refine cx_keep rfl rfl ?_
         refine cx_cond rfl (fun h8 => ?_) (fun h8 => ?_)
         ·
          have h8 := (fun h => (or_T h).imp dT dT) h8
          refine cx_seq ?_
          refine cx_ops ?_
          refine ax_q (q_mov rfl) ?_
          refine ax_q (q_mov rfl) ?_
          refine ax_nil ?_
          refine cx_keep rfl rfl ?_
          have hc : codeOK l = false := codeOK_no h0 hr h1x (stepK_3 (by rw [hlw, hb]; exact h8))
          refine cx_wk (wk_virt 901 1 rfl rfl rfl) ?_
          refine cx_wk (wk_zs 2 901 [] rfl rfl) ?_
          refine cx_ret (retN (fun _ => 0) [901] rfl rfl rfl rfl rfl ?_)
          exact ⟨[], by rw [hc]; rfl, rfl, fun h => by rw [hc] at h; cases h⟩
         ·
          have h8 := (fun h => And.intro (dF (or_F h).1) (dF (or_F h).2)) h8
          have hst := stepK_4 (x := l[k]) (ds := ds) (n := (l.length : Int)) h2.1 h2.2 (by rw [hlw]; exact h8.1) (by rw [hb]; exact h8.2)
          have htb := tosI_b (x := l[k]) (i := (k : Int)) (n := (l.length : Int)) (by omega) (by omega) h2.2
          refine cx_skip ?_
          refine cx_keep rfl rfl ?_
          refine cx_seq ?_
          refine cx_ops ?_
          refine ax_q (q_mov rfl) ?_
          first | refine ax_q (q_lenS_map rfl) ?_ | refine ax_q (q_lenS_osl rfl) ?_ | refine ax_q (q_lenS_zs rfl) ?_ | refine ax_q (q_lenS rfl) ?_
          refine ax_q (q_mov rfl) ?_
          refine ax_nil ?_
          refine cx_keep rfl rfl ?_
          refine cx_block ?_
          refine cx_loopU (fun n (p : Nat × List Int) => p.1 ≤ (tosI l[k] (k : Int)).length ∧ n = (tosI l[k] (k : Int)).length - p.1 ∧ p.2.length = l.length + 1 ∧ putL (behI l[k] (ds.getD k 0)) ds ((tosI l[k] (k : Int)).take p.1) = some p.2) (fun p => [(80, int p.1)]) (fun p => [(19, .rows 1 (p.2.map intRow)), (48, .rows 1 (([(k : Int) + 1, l[k].N] : List Int).map intRow))]) ⟨_, (0, ds), ⟨Nat.zero_le _, rfl, hdl, rfl⟩, by repeat (first | exact trivial | refine ⟨rfl, ?_⟩ | refine ⟨?_, ?_⟩)⟩ ?_
          rintro n ⟨j, p⟩ ⟨hj, rfl, hpl, hp⟩
          simp only at hj hpl hp ⊢
          refine cx_seq ?_
          refine cx_ops ?_
          refine ax_q (q_ibin rfl rfl rfl) ?_
          refine ax_nil ?_
          refine cx_keep rfl rfl ?_
          refine cx_seq ?_
          refine cx_cond rfl (fun h9 => ?_) (fun h9 => ?_)
          ·
           have h9 := dT h9
           try simp only [List.length_cons, List.length_nil] at h9
           have h9x : j < (tosI l[k] (k : Int)).length := by omega
           have htj := htb _ (List.getElem_mem h9x)
           have hte : ([(k : Int) + 1, l[k].N] : List Int)[j]? = some (tosI l[k] (k : Int))[j] := by rw [← List.getElem?_eq_getElem h9x, ht]
           refine cx_skip ?_
           refine cx_keep rfl rfl ?_
           refine cx_seq ?_
           refine cx_block ?_
           refine cx_seq ?_
           refine cx_ops ?_
           refine ax_q (q_ixo rfl rfl (by first | omega | (simp only [List.length_cons, List.length_nil]; omega))) ?_
           refine ax_q (q_load1_rptr (r := intRow ((tosI l[k] (k : Int))[j])) rfl rfl (tosAt hte) rfl) ?_
           refine ax_q (q_mov rfl) ?_
           refine ax_nil ?_
           refine cx_keep rfl rfl ?_
           refine cx_seq ?_
           refine cx_seq ?_
           refine cx_ops ?_
           refine ax_q (q_mov rfl) ?_
           refine ax_q (q_mov rfl) ?_
           refine ax_q (q_ixoI rfl rfl (by omega) (by omega)) ?_
           refine ax_q (q_load1_rptr (r := intRow (p.getD (tosI l[k] (k : Int))[j].toNat 0)) rfl rfl (dAt (by omega)) rfl) ?_
           refine ax_q (q_ibin rfl rfl rfl) ?_
           refine ax_q (q_mov rfl) ?_
           apply ax_and rfl rfl
           ·
            intro g
            have g := dT g
            refine ax_q (q_mov rfl) ?_
            refine ax_q (q_mov rfl) ?_
            refine ax_q (q_ixoI rfl rfl (by omega) (by omega)) ?_
            refine ax_q (q_load1_rptr (r := intRow (p.getD (tosI l[k] (k : Int))[j].toNat 0)) rfl rfl (dAt (by omega)) rfl) ?_
            refine ax_q (q_mov rfl) ?_
            refine ax_q (q_ibin rfl rfl rfl) ?_
            exact ax_nil ⟨rfl, by repeat (first | exact trivial | refine ⟨rfl, ?_⟩ | refine ⟨?_, ?_⟩)⟩
           refine ax_nil ?_
           refine cx_keep rfl rfl ?_
           refine cx_cond rfl (fun h10 => ?_) (fun h10 => ?_)
           ·
            have h10 := (fun h => And.intro (dT (and_T h).1) (nT (and_T h).2)) h10
            refine cx_seq ?_
            refine cx_ops ?_
            refine ax_q (q_mov rfl) ?_
            refine ax_q (q_mov rfl) ?_
            refine ax_nil ?_
            refine cx_keep rfl rfl ?_
            have hc : codeOK l = false := codeOK_no h0 hr h1x (hst.trans (putL_none (j := j + 1) (by rw [putL_step h9x hp]; exact put1_no (by rw [hb]; exact h10))))
            refine cx_wk (wk_virt 901 1 rfl rfl rfl) ?_
            refine cx_wk (wk_zs 2 901 [] rfl rfl) ?_
            refine cx_ret (retN (fun _ => 0) [901] rfl rfl rfl rfl rfl ?_)
            exact ⟨[], by rw [hc]; rfl, rfl, fun h => by rw [hc] at h; cases h⟩
           ·
            have h10 := (fun h => (and_F h).imp dF nF) h10
            refine cx_skip ?_
            refine cx_keep rfl rfl ?_
            refine cx_ops ?_
            refine ax_q (q_mov rfl) ?_
            refine ax_q (q_mov rfl) ?_
            refine ax_q (q_mov rfl) ?_
            refine ax_q (q_ixoI rfl rfl (by omega) (by omega)) ?_
            refine ax_e (e_str (q := intRow _) (row := intRow _) (rs' := (p.set (tosI l[k] (k : Int))[j].toNat _).map intRow) rfl rfl rfl rfl rfl rfl (dAt (by omega)) rfl rfl setI) ?_
            refine ax_nil ?_
            refine cx_keep rfl rfl ?_
            refine cx_ops ?_
            refine ax_qe (r' := int ((j + 1 : Nat) : Int)) (q_ibin rfl rfl rfl) (by rw [wi (by omega) (by omega)]; rfl) ?_
            refine ax_q (q_mov rfl) ?_
            refine ax_nil ?_
            exact ⟨_, (j + 1, p.set (tosI l[k] (k : Int))[j].toNat ((ds.getD k 0))), by simp only; omega, ⟨by simp only; omega, rfl, by simp only [List.length_set]; exact hpl, by simp only; rw [putL_step h9x hp, hb]; exact put1_ok h10⟩, by repeat (first | exact trivial | refine ⟨rfl, ?_⟩ | refine ⟨?_, ?_⟩)⟩
          ·
           have h9 := dF h9
           try simp only [List.length_cons, List.length_nil] at h9
           have h9x : j = (tosI l[k] (k : Int)).length := by omega
           refine cx_exit rfl ?_
           refine cx_keep rfl rfl ?_
           refine cx_ops ?_
           refine ax_qe (r' := int ((k + 1 : Nat) : Int)) (q_ibin rfl rfl rfl) (by rw [wi (by omega) (by omega)]; rfl) ?_
           refine ax_q (q_mov rfl) ?_
           refine ax_nil ?_
           exact ⟨_, (k + 1, p), by simp only; omega, ⟨by simp only; omega, rfl, by simp only; rw [runH_next hr h1x]; exact hst.trans (by have hq := hp; rw [h9x, List.take_length] at hq; exact hq)⟩, by repeat (first | exact trivial | refine ⟨rfl, ?_⟩ | refine ⟨?_, ?_⟩)⟩
        ·
         have h7 := dF h7
         exfalso; omega
       ·
        have h6 := dF h6
        refine cx_ops ?_
        refine ax_q (q_ibin rfl rfl rfl) ?_
        refine ax_q (q_mov rfl) ?_
        refine ax_nil ?_
        refine cx_keep rfl rfl ?_
        refine cx_cond rfl (fun h7 => ?_) (fun h7 => ?_)
        ·
         have h7 := dT h7
         have hb : behI l[k] (ds.getD k 0) = (ds.getD k 0) := by unfold behI; rw [if_neg (by omega), if_neg (by omega)]
         have hlw : lowI l[k] = 1 := by unfold lowI; rw [if_neg (by omega), if_neg (by omega)]
         have ht : tosI l[k] (k : Int) = [(k : Int) + 1, l[k].N] := by unfold tosI; rw [if_pos (by omega)]
         have htl : (tosI l[k] (k : Int)).length = 2 := by rw [ht]; rfl
         refine cx_ops ?_
         refine ax_q (q_mov rfl) ?_
         refine ax_q (q_fadr_ptr rfl) ?_
         refine ax_q (q_load1_ptr rfl rfl rfl) ?_
         refine ax_e (e_bslice rfl (by decide) rfl rfl) ?_
         refine ax_e (e_appn (n' := 2) (rs' := ([(k : Int) + 1, l[k].N] : List Int).map intRow) rfl rfl (by simp) rfl (src_osl rfl (by simp)) (.inl (by decide)) (hbnd (by simp) (by simp) (by decide)) rfl rfl) ?_
         refine ax_q (q_mov rfl) ?_
         refine ax_nil ?_
         refine cx_keep rfl rfl ?_
         refine cx_seq ?_
         refine cx_seq ?_
         refine cx_ops ?_
         refine ax_q (q_mov rfl) ?_
         refine ax_q (q_mov rfl) ?_
         refine ax_q (q_ixo rfl rfl (by omega)) ?_
         refine ax_q (q_load1_rptr (r := intRow (ds.getD k 0)) rfl rfl (dAt (by omega)) rfl) ?_
         refine ax_q (q_mov rfl) ?_
         refine ax_q (q_ibin rfl rfl rfl) ?_
         refine ax_q (q_mov rfl) ?_
         apply ax_or rfl rfl
         ·
          intro g
          have g := dF g
          refine ax_q (q_mov rfl) ?_
          refine ax_q (q_ibin rfl rfl rfl) ?_
          exact ax_nil ⟨rfl, by repeat (first | exact trivial | refine ⟨rfl, ?_⟩ | refine ⟨?_, ?_⟩)⟩
         refine ax_nil ?_
         refine cx_keep rfl rfl ?_
         refine cx_cond rfl (fun h8 => ?_) (fun h8 => ?_)
         ·
          have h8 := (fun h => (or_T h).imp dT dT) h8
          refine cx_seq ?_
          refine cx_ops ?_
          refine ax_q (q_mov rfl) ?_
          refine ax_q (q_mov rfl) ?_
          refine ax_nil ?_
          refine cx_keep rfl rfl ?_
          have hc : codeOK l = false := codeOK_no h0 hr h1x (stepK_3 (by rw [hlw, hb]; exact h8))
          refine cx_wk (wk_virt 901 1 rfl rfl rfl) ?_
          refine cx_wk (wk_zs 2 901 [] rfl rfl) ?_
          refine cx_ret (retN (fun _ => 0) [901] rfl rfl rfl rfl rfl ?_)
          exact ⟨[], by rw [hc]; rfl, rfl, fun h => by rw [hc] at h; cases h⟩
         ·
          have h8 := (fun h => And.intro (dF (or_F h).1) (dF (or_F h).2)) h8
          have hst := stepK_4 (x := l[k]) (ds := ds) (n := (l.length : Int)) h2.1 h2.2 (by rw [hlw]; exact h8.1) (by rw [hb]; exact h8.2)
          have htb := tosI_b (x := l[k]) (i := (k : Int)) (n := (l.length : Int)) (by omega) (by omega) h2.2
          refine cx_skip ?_
          refine cx_keep rfl rfl ?_
          refine cx_seq ?_
          refine cx_ops ?_
          refine ax_q (q_mov rfl) ?_
          first | refine ax_q (q_lenS_map rfl) ?_ | refine ax_q (q_lenS_osl rfl) ?_ | refine ax_q (q_lenS_zs rfl) ?_ | refine ax_q (q_lenS rfl) ?_
          refine ax_q (q_mov rfl) ?_
          refine ax_nil ?_
          refine cx_keep rfl rfl ?_
          refine cx_block ?_
          refine cx_loopU (fun n (p : Nat × List Int) => p.1 ≤ (tosI l[k] (k : Int)).length ∧ n = (tosI l[k] (k : Int)).length - p.1 ∧ p.2.length = l.length + 1 ∧ putL (behI l[k] (ds.getD k 0)) ds ((tosI l[k] (k : Int)).take p.1) = some p.2) (fun p => [(80, int p.1)]) (fun p => [(19, .rows 1 (p.2.map intRow)), (48, .rows 1 (([(k : Int) + 1, l[k].N] : List Int).map intRow))]) ⟨_, (0, ds), ⟨Nat.zero_le _, rfl, hdl, rfl⟩, by repeat (first | exact trivial | refine ⟨rfl, ?_⟩ | refine ⟨?_, ?_⟩)⟩ ?_
          rintro n ⟨j, p⟩ ⟨hj, rfl, hpl, hp⟩
          simp only at hj hpl hp ⊢
          refine cx_seq ?_
          refine cx_ops ?_
          refine ax_q (q_ibin rfl rfl rfl) ?_
          refine ax_nil ?_
          refine cx_keep rfl rfl ?_
          refine cx_seq ?_
          refine cx_cond rfl (fun h9 => ?_) (fun h9 => ?_)
          ·
           have h9 := dT h9
           try simp only [List.length_cons, List.length_nil] at h9
           have h9x : j < (tosI l[k] (k : Int)).length := by omega
           have htj := htb _ (List.getElem_mem h9x)
           have hte : ([(k : Int) + 1, l[k].N] : List Int)[j]? = some (tosI l[k] (k : Int))[j] := by rw [← List.getElem?_eq_getElem h9x, ht]
           refine cx_skip ?_
           refine cx_keep rfl rfl ?_
           refine cx_seq ?_
           refine cx_block ?_
           refine cx_seq ?_
           refine cx_ops ?_
           refine ax_q (q_ixo rfl rfl (by first | omega | (simp only [List.length_cons, List.length_nil]; omega))) ?_
           refine ax_q (q_load1_rptr (r := intRow ((tosI l[k] (k : Int))[j])) rfl rfl (tosAt hte) rfl) ?_
           refine ax_q (q_mov rfl) ?_
           refine ax_nil ?_
           refine cx_keep rfl rfl ?_
           refine cx_seq ?_
           refine cx_seq ?_
           refine cx_ops ?_
           refine ax_q (q_mov rfl) ?_
           refine ax_q (q_mov rfl) ?_
           refine ax_q (q_ixoI rfl rfl (by omega) (by omega)) ?_
           refine ax_q (q_load1_rptr (r := intRow (p.getD (tosI l[k] (k : Int))[j].toNat 0)) rfl rfl (dAt (by omega)) rfl) ?_
           refine ax_q (q_ibin rfl rfl rfl) ?_
           refine ax_q (q_mov rfl) ?_
           apply ax_and rfl rfl
           ·
            intro g
            have g := dT g
            refine ax_q (q_mov rfl) ?_
            refine ax_q (q_mov rfl) ?_
            refine ax_q (q_ixoI rfl rfl (by omega) (by omega)) ?_
            refine ax_q (q_load1_rptr (r := intRow (p.getD (tosI l[k] (k : Int))[j].toNat 0)) rfl rfl (dAt (by omega)) rfl) ?_
            refine ax_q (q_mov rfl) ?_
            refine ax_q (q_ibin rfl rfl rfl) ?_
            exact ax_nil ⟨rfl, by repeat (first | exact trivial | refine ⟨rfl, ?_⟩ | refine ⟨?_, ?_⟩)⟩
           refine ax_nil ?_
           refine cx_keep rfl rfl ?_
           refine cx_cond rfl (fun h10 => ?_) (fun h10 => ?_)
           ·
            have h10 := (fun h => And.intro (dT (and_T h).1) (nT (and_T h).2)) h10
            refine cx_seq ?_
            refine cx_ops ?_
            refine ax_q (q_mov rfl) ?_
            refine ax_q (q_mov rfl) ?_
            refine ax_nil ?_
            refine cx_keep rfl rfl ?_
            have hc : codeOK l = false := codeOK_no h0 hr h1x (hst.trans (putL_none (j := j + 1) (by rw [putL_step h9x hp]; exact put1_no (by rw [hb]; exact h10))))
            refine cx_wk (wk_virt 901 1 rfl rfl rfl) ?_
            refine cx_wk (wk_zs 2 901 [] rfl rfl) ?_
            refine cx_ret (retN (fun _ => 0) [901] rfl rfl rfl rfl rfl ?_)
            exact ⟨[], by rw [hc]; rfl, rfl, fun h => by rw [hc] at h; cases h⟩
           ·
            have h10 := (fun h => (and_F h).imp dF nF) h10
            refine cx_skip ?_
            refine cx_keep rfl rfl ?_
            refine cx_ops ?_
            refine ax_q (q_mov rfl) ?_
            refine ax_q (q_mov rfl) ?_
            refine ax_q (q_mov rfl) ?_
            refine ax_q (q_ixoI rfl rfl (by omega) (by omega)) ?_
            refine ax_e (e_str (q := intRow _) (row := intRow _) (rs' := (p.set (tosI l[k] (k : Int))[j].toNat _).map intRow) rfl rfl rfl rfl rfl rfl (dAt (by omega)) rfl rfl setI) ?_
            refine ax_nil ?_
            refine cx_keep rfl rfl ?_
            refine cx_ops ?_
            refine ax_qe (r' := int ((j + 1 : Nat) : Int)) (q_ibin rfl rfl rfl) (by rw [wi (by omega) (by omega)]; rfl) ?_
            refine ax_q (q_mov rfl) ?_
            refine ax_nil ?_
            exact ⟨_, (j + 1, p.set (tosI l[k] (k : Int))[j].toNat ((ds.getD k 0))), by simp only; omega, ⟨by simp only; omega, rfl, by simp only [List.length_set]; exact hpl, by simp only; rw [putL_step h9x hp, hb]; exact put1_ok h10⟩, by repeat (first | exact trivial | refine ⟨rfl, ?_⟩ | refine ⟨?_, ?_⟩)⟩
          ·
           have h9 := dF h9
           try simp only [List.length_cons, List.length_nil] at h9
           have h9x : j = (tosI l[k] (k : Int)).length := by omega
           refine cx_exit rfl ?_
           refine cx_keep rfl rfl ?_
           refine cx_ops ?_
           refine ax_qe (r' := int ((k + 1 : Nat) : Int)) (q_ibin rfl rfl rfl) (by rw [wi (by omega) (by omega)]; rfl) ?_
           refine ax_q (q_mov rfl) ?_
           refine ax_nil ?_
           exact ⟨_, (k + 1, p), by simp only; omega, ⟨by simp only; omega, rfl, by simp only; rw [runH_next hr h1x]; exact hst.trans (by have hq := hp; rw [h9x, List.take_length] at hq; exact hq)⟩, by repeat (first | exact trivial | refine ⟨rfl, ?_⟩ | refine ⟨?_, ?_⟩)⟩
        ·
         have h7 := dF h7
         have hb : behI l[k] (ds.getD k 0) = (ds.getD k 0) := by unfold behI; rw [if_neg (by omega), if_neg (by omega)]
         have hlw : lowI l[k] = 1 := by unfold lowI; rw [if_neg (by omega), if_neg (by omega)]
         have ht : tosI l[k] (k : Int) = [(k : Int) + 1] := by unfold tosI; rw [if_neg (by omega)]
         have htl : (tosI l[k] (k : Int)).length = 1 := by rw [ht]; rfl
         refine cx_skip ?_
         refine cx_keep rfl rfl ?_
         refine cx_seq ?_
         refine cx_seq ?_
         refine cx_ops ?_
         refine ax_q (q_mov rfl) ?_
         refine ax_q (q_mov rfl) ?_
         refine ax_q (q_ixo rfl rfl (by omega)) ?_
         refine ax_q (q_load1_rptr (r := intRow (ds.getD k 0)) rfl rfl (dAt (by omega)) rfl) ?_
         refine ax_q (q_mov rfl) ?_
         refine ax_q (q_ibin rfl rfl rfl) ?_
         refine ax_q (q_mov rfl) ?_
         apply ax_or rfl rfl
         ·
          intro g
          have g := dF g
          refine ax_q (q_mov rfl) ?_
          refine ax_q (q_ibin rfl rfl rfl) ?_
          exact ax_nil ⟨rfl, by repeat (first | exact trivial | refine ⟨rfl, ?_⟩ | refine ⟨?_, ?_⟩)⟩
         refine ax_nil ?_
         refine cx_keep rfl rfl ?_
         refine cx_cond rfl (fun h8 => ?_) (fun h8 => ?_)
         ·
          have h8 := (fun h => (or_T h).imp dT dT) h8
          refine cx_seq ?_
          refine cx_ops ?_
          refine ax_q (q_mov rfl) ?_
          refine ax_q (q_mov rfl) ?_
          refine ax_nil ?_
          refine cx_keep rfl rfl ?_
          have hc : codeOK l = false := codeOK_no h0 hr h1x (stepK_3 (by rw [hlw, hb]; exact h8))
          refine cx_wk (wk_virt 901 1 rfl rfl rfl) ?_
          refine cx_wk (wk_zs 2 901 [] rfl rfl) ?_
          refine cx_ret (retN (fun _ => 0) [901] rfl rfl rfl rfl rfl ?_)
          exact ⟨[], by rw [hc]; rfl, rfl, fun h => by rw [hc] at h; cases h⟩
         ·
          have h8 := (fun h => And.intro (dF (or_F h).1) (dF (or_F h).2)) h8
          have hst := stepK_4 (x := l[k]) (ds := ds) (n := (l.length : Int)) h2.1 h2.2 (by rw [hlw]; exact h8.1) (by rw [hb]; exact h8.2)
          have htb := tosI_b (x := l[k]) (i := (k : Int)) (n := (l.length : Int)) (by omega) (by omega) h2.2
          refine cx_skip ?_
          refine cx_keep rfl rfl ?_
          refine cx_seq ?_
          refine cx_ops ?_
          refine ax_q (q_mov rfl) ?_
          first | refine ax_q (q_lenS_map rfl) ?_ | refine ax_q (q_lenS_osl rfl) ?_ | refine ax_q (q_lenS_zs rfl) ?_ | refine ax_q (q_lenS rfl) ?_
          refine ax_q (q_mov rfl) ?_
          refine ax_nil ?_
          refine cx_keep rfl rfl ?_
          refine cx_block ?_
          refine cx_loopU (fun n (p : Nat × List Int) => p.1 ≤ (tosI l[k] (k : Int)).length ∧ n = (tosI l[k] (k : Int)).length - p.1 ∧ p.2.length = l.length + 1 ∧ putL (behI l[k] (ds.getD k 0)) ds ((tosI l[k] (k : Int)).take p.1) = some p.2) (fun p => [(80, int p.1)]) (fun p => [(19, .rows 1 (p.2.map intRow)), (48, .rows 1 (([(k : Int) + 1] : List Int).map intRow))]) ⟨_, (0, ds), ⟨Nat.zero_le _, rfl, hdl, rfl⟩, by repeat (first | exact trivial | refine ⟨rfl, ?_⟩ | refine ⟨?_, ?_⟩)⟩ ?_
          rintro n ⟨j, p⟩ ⟨hj, rfl, hpl, hp⟩
          simp only at hj hpl hp ⊢
          refine cx_seq ?_
          refine cx_ops ?_
          refine ax_q (q_ibin rfl rfl rfl) ?_
          refine ax_nil ?_
          refine cx_keep rfl rfl ?_
          refine cx_seq ?_
          refine cx_cond rfl (fun h9 => ?_) (fun h9 => ?_)
          ·
           have h9 := dT h9
           try simp only [List.length_cons, List.length_nil] at h9
           have h9x : j < (tosI l[k] (k : Int)).length := by omega
           have htj := htb _ (List.getElem_mem h9x)
           have hte : ([(k : Int) + 1] : List Int)[j]? = some (tosI l[k] (k : Int))[j] := by rw [← List.getElem?_eq_getElem h9x, ht]
           refine cx_skip ?_
           refine cx_keep rfl rfl ?_
           refine cx_seq ?_
           refine cx_block ?_
           refine cx_seq ?_
           refine cx_ops ?_
           refine ax_q (q_ixo rfl rfl (by first | omega | (simp only [List.length_cons, List.length_nil]; omega))) ?_
           refine ax_q (q_load1_rptr (r := intRow ((tosI l[k] (k : Int))[j])) rfl rfl (tosAt hte) rfl) ?_
           refine ax_q (q_mov rfl) ?_
           refine ax_nil ?_
           refine cx_keep rfl rfl ?_
           refine cx_seq ?_
           refine cx_seq ?_
           refine cx_ops ?_
           refine ax_q (q_mov rfl) ?_
           refine ax_q (q_mov rfl) ?_
           refine ax_q (q_ixoI rfl rfl (by omega) (by omega)) ?_
           refine ax_q (q_load1_rptr (r := intRow (p.getD (tosI l[k] (k : Int))[j].toNat 0)) rfl rfl (dAt (by omega)) rfl) ?_
           refine ax_q (q_ibin rfl rfl rfl) ?_
           refine ax_q (q_mov rfl) ?_
           apply ax_and rfl rfl
           ·
            intro g
            have g := dT g
            refine ax_q (q_mov rfl) ?_
            refine ax_q (q_mov rfl) ?_
            refine ax_q (q_ixoI rfl rfl (by omega) (by omega)) ?_
            refine ax_q (q_load1_rptr (r := intRow (p.getD (tosI l[k] (k : Int))[j].toNat 0)) rfl rfl (dAt (by omega)) rfl) ?_
            refine ax_q (q_mov rfl) ?_
            refine ax_q (q_ibin rfl rfl rfl) ?_
            exact ax_nil ⟨rfl, by repeat (first | exact trivial | refine ⟨rfl, ?_⟩ | refine ⟨?_, ?_⟩)⟩
           refine ax_nil ?_
           refine cx_keep rfl rfl ?_
           refine cx_cond rfl (fun h10 => ?_) (fun h10 => ?_)
           ·
            have h10 := (fun h => And.intro (dT (and_T h).1) (nT (and_T h).2)) h10
            refine cx_seq ?_
            refine cx_ops ?_
            refine ax_q (q_mov rfl) ?_
            refine ax_q (q_mov rfl) ?_
            refine ax_nil ?_
            refine cx_keep rfl rfl ?_
            have hc : codeOK l = false := codeOK_no h0 hr h1x (hst.trans (putL_none (j := j + 1) (by rw [putL_step h9x hp]; exact put1_no (by rw [hb]; exact h10))))
            refine cx_wk (wk_virt 901 1 rfl rfl rfl) ?_
            refine cx_wk (wk_zs 2 901 [] rfl rfl) ?_
            refine cx_ret (retN (fun _ => 0) [901] rfl rfl rfl rfl rfl ?_)
            exact ⟨[], by rw [hc]; rfl, rfl, fun h => by rw [hc] at h; cases h⟩
           ·
            have h10 := (fun h => (and_F h).imp dF nF) h10
            refine cx_skip ?_
            refine cx_keep rfl rfl ?_
            refine cx_ops ?_
            refine ax_q (q_mov rfl) ?_
            refine ax_q (q_mov rfl) ?_
            refine ax_q (q_mov rfl) ?_
            refine ax_q (q_ixoI rfl rfl (by omega) (by omega)) ?_
            refine ax_e (e_str (q := intRow _) (row := intRow _) (rs' := (p.set (tosI l[k] (k : Int))[j].toNat _).map intRow) rfl rfl rfl rfl rfl rfl (dAt (by omega)) rfl rfl setI) ?_
            refine ax_nil ?_
            refine cx_keep rfl rfl ?_
            refine cx_ops ?_
            refine ax_qe (r' := int ((j + 1 : Nat) : Int)) (q_ibin rfl rfl rfl) (by rw [wi (by omega) (by omega)]; rfl) ?_
            refine ax_q (q_mov rfl) ?_
            refine ax_nil ?_
            exact ⟨_, (j + 1, p.set (tosI l[k] (k : Int))[j].toNat ((ds.getD k 0))), by simp only; omega, ⟨by simp only; omega, rfl, by simp only [List.length_set]; exact hpl, by simp only; rw [putL_step h9x hp, hb]; exact put1_ok h10⟩, by repeat (first | exact trivial | refine ⟨rfl, ?_⟩ | refine ⟨?_, ?_⟩)⟩
          ·
           have h9 := dF h9
           try simp only [List.length_cons, List.length_nil] at h9
           have h9x : j = (tosI l[k] (k : Int)).length := by omega
           refine cx_exit rfl ?_
           refine cx_keep rfl rfl ?_
           refine cx_ops ?_
           refine ax_qe (r' := int ((k + 1 : Nat) : Int)) (q_ibin rfl rfl rfl) (by rw [wi (by omega) (by omega)]; rfl) ?_
           refine ax_q (q_mov rfl) ?_
           refine ax_nil ?_
           exact ⟨_, (k + 1, p), by simp only; omega, ⟨by simp only; omega, rfl, by simp only; rw [runH_next hr h1x]; exact hst.trans (by have hq := hp; rw [h9x, List.take_length] at hq; exact hq)⟩, by repeat (first | exact trivial | refine ⟨rfl, ?_⟩ | refine ⟨?_, ?_⟩)⟩
  ·
   have h1 := dF h1
   have h1x : k = l.length := by omega
   subst h1x
   refine cx_exit rfl ?_
   refine cx_keep rfl rfl ?_
   refine cx_seq ?_
   refine cx_draw ?_
   refine ax_q (q_mov rfl) ?_
   refine ax_q (q_mov rfl) ?_
   refine ax_q (q_mov rfl) ?_
   first | refine ax_q (q_lenS_map rfl) ?_ | refine ax_q (q_lenS_osl rfl) ?_ | refine ax_q (q_lenS_zs rfl) ?_ | refine ax_q (q_lenS rfl) ?_
   refine ax_q (q_ixo rfl rfl (by omega)) ?_
   refine ax_q (q_load1_rptr (r := intRow (ds.getD l.length 0)) rfl rfl (dAt (by omega)) rfl) ?_
   refine ax_q (q_ibin rfl rfl rfl) ?_
   refine ax_q (q_mov rfl) ?_
   refine ax_q (q_mov rfl) ?_
   refine ax_nil ?_
   refine cx_keep rfl rfl ?_
   refine cx_ret (retN (fun _ => 0) [19] rfl rfl rfl rfl rfl ?_)
   exact ⟨ds, by rw [codeOK_end h0 hr, hdl]; rfl, rfl, fun _ => hr⟩


/- loop.example/g00332/impl.CodeOK -/
def k_c_CodeOK : XCode :=
 .seq (.ops [.op (some 2) (.mov (.k (.bool false)))])
 (.keep [0] (.seq (.ops [.op (some 6) (.mov (.t 0)),
   .call (some 7) 42 [.t 6],
   .op (some 5) (.mov (.t 7)),
   .op (some 8) (.ext (.t 5) 0),
   .op (some 9) (.ext (.t 5) 1),
   .op (some 3) (.mov (.t 8)),
   .op (some 4) (.mov (.t 9))])
 (.keep [4] (.seq (.ops [.op (some 10) (.mov (.t 4)),
   .op (some 2) (.mov (.t 10))])
 (.keep [2] (.ret))))))
theorem k_c_CodeOK_fits : fitsF Try.prog 13 ⟨11, k_c_CodeOK, [.t 2]⟩ = true := by kernel_rfl
theorem c_CodeOK {l : List GIns} (hw : l.length ≤ 1048576) (hv : ∀ x ∈ l, x.V.T.length ≤ 1048576) : Con Try.prog noMv 13 [.d (.sl 5 (l.map GIns.row))] [] (fun r h => r = bool (codeOK l) ∧ h = []) := by
 refine con_of2 k_c_CodeOK_fits rfl fun C hP hmv => ?_
 unfold k_c_CodeOK
 refine cx_seq ?_
 refine cx_ops ?_
 refine ax_q (q_mov rfl) ?_
 refine ax_nil ?_
 refine cx_keep rfl rfl ?_
 refine cx_seq ?_
 refine cx_ops ?_
 refine ax_q (q_mov rfl) ?_
 first | refine ax_call rfl (vc_pure (c_heights  ?_ ?_) hP rfl ?_) | refine ax_call rfl (vc_lend (c_heights  ?_ ?_) hP (by repeat (first | exact lal_id _ rfl | exact LAL.nil | refine LAL.cons ?_ ?_ | exact la_id _ rfl | exact LA.lend (lend_whole rfl (by first | (simp; done) | (rw [List.length_map]; rfl))) | refine LA.agg ?_ | refine LA.fn ?_ | refine LA.lend ?_ | exact Lend.d _ | exact Lend.zs _ | exact lend_whole rfl (by first | (simp; done) | (rw [List.length_map]; rfl)) | refine Lend.ptr rfl ?_ | refine Lend.fn ?_ | exact LendL.nil | refine LendL.cons ?_ ?_)) ?_)
 ·
  first | assumption | omega | (simp; done) | (simp; omega)
 ·
  first | assumption | omega | (simp; done) | (simp; omega)
 rintro r h ⟨ds, rfl, rfl, hd⟩
 refine ⟨fun i => 7 + 200 * i, [0], ⟨rfl, rfl, rfl, rfl, rfl, (by first | exact (fun h => absurd h Bool.false_ne_true) | exact (fun _ => ⟨rfl, (noisl_of ⟨noisl_map (fun _ => rfl), trivial⟩)⟩))⟩, ?_⟩
 skip
 refine ax_q (q_mov rfl) ?_
 refine ax_q (q_ext rfl rfl) ?_
 refine ax_q (q_ext rfl rfl) ?_
 refine ax_q (q_mov rfl) ?_
 refine ax_q (q_mov rfl) ?_
 refine ax_nil ?_
 refine cx_keep rfl rfl ?_
 refine cx_seq ?_
 refine cx_ops ?_
 refine ax_q (q_mov rfl) ?_
 refine ax_q (q_mov rfl) ?_
 refine ax_nil ?_
 refine cx_keep rfl rfl ?_
 refine cx_ret (ret0 rfl rfl ?_)
 exact ⟨rfl, rfl⟩


/- slices.Max[[]int,int] -/
def k_c_Max : XCode :=
 .seq (.ops [.op (some 2) (.mov (.k (.int .i64 0)))])
 (.keep [0] (.seq (.seq (.ops [.op (some 5) (.mov (.t 0)),
   .op (some 6) (.lenS (.t 5)),
   .op (some 7) (.bin .lss (.t 6) (.k (.int .i64 1)))])
  (.keep [0, 7] (.cond (.t 7)
  (.ops [.op (some 8) (.bad),
    .op none (.bad)])
  (.skip))))
 (.keep [0] (.seq (.ops [.op (some 9) (.mov (.t 0)),
   .op (some 10) (.iadr 1 (.t 9) (.k (.int .i64 0))),
   .op (some 11) (.load1 (.t 10)),
   .op (some 3) (.mov (.t 11))])
 (.keep [0, 3] (.seq (.seq (.ops [.op (some 4) (.mov (.k (.int .i64 1)))])
  (.keep [0, 3, 4] (.block 0 (.loop (.seq (.seq (.ops [.op (some 12) (.mov (.t 4)),
     .op (some 13) (.mov (.t 0)),
     .op (some 14) (.lenS (.t 13)),
     .op (some 15) (.bin .lss (.t 12) (.t 14))])
   (.keep [0, 3, 4, 15] (.cond (.t 15)
    (.skip)
    (.exit 0))))
   (.keep [0, 3, 4] (.seq (.block 1 (.ops [.op (some 18) (.mov (.t 3)),
     .op (some 19) (.mov (.t 0)),
     .op (some 20) (.mov (.t 4)),
     .op (some 21) (.iadr 1 (.t 19) (.t 20)),
     .op (some 22) (.load1 (.t 21)),
     .op (some 23) (.mx true (.t 18) (.t 22)),
     .op (some 3) (.mov (.t 23))]))
   (.keep [0, 3, 4] (.ops [.op (some 16) (.mov (.t 4)),
    .op (some 17) (.bin .add (.t 16) (.k (.int .i64 1))),
    .op (some 4) (.mov (.t 17))])))))))))
 (.keep [3] (.seq (.ops [.op (some 24) (.mov (.t 3)),
   .op (some 2) (.mov (.t 24))])
 (.keep [2] (.ret))))))))))
theorem k_c_Max_fits : fitsF Try.prog 44 ⟨25, k_c_Max, [.t 2]⟩ = true := by kernel_rfl
theorem c_Max {ds : List Int} (hg : goodD ds) (hl : 1 ≤ ds.length ∧ ds.length ≤ 1048576) : Con Try.prog noMv 44 [.d (.sl 1 (ds.map intRow))] [] (fun r h => r = int (maxL ds) ∧ h = []) := by
 refine con_of2 k_c_Max_fits rfl fun C hP hmv => ?_
 unfold k_c_Max
 refine cx_seq ?_
 refine cx_ops ?_
 refine ax_q (q_mov rfl) ?_
 refine ax_nil ?_
 refine cx_keep rfl rfl ?_
 refine cx_seq ?_
 refine cx_seq ?_
 refine cx_ops ?_
 refine ax_q (q_mov rfl) ?_
 first | refine ax_q (q_lenS_map rfl) ?_ | refine ax_q (q_lenS_osl rfl) ?_ | refine ax_q (q_lenS_zs rfl) ?_ | refine ax_q (q_lenS rfl) ?_
 refine ax_q (q_ibin rfl rfl rfl) ?_
 refine ax_nil ?_
 refine cx_keep rfl rfl ?_
 refine cx_cond rfl (fun h0 => ?_) (fun h0 => ?_)
 ·
  have h0 := dT h0
  exfalso; omega
 ·
  have h0 := dF h0
  refine cx_skip ?_
  refine cx_keep rfl rfl ?_
  refine cx_seq ?_
  refine cx_ops ?_
  refine ax_q (q_mov rfl) ?_
  refine ax_q (q_ixI rfl rfl (by omega) (dAt (ds := ds) (k := 0) (by omega))) ?_
  first | refine ax_q (q_load1_ptr rfl rfl rfl) ?_ | refine ax_q (q_load1_ip rfl) ?_ | refine ax_q (q_load1_rptr rfl rfl rfl rfl) ?_ | refine ax_q (q_load1_rptr rfl rfl (by assumption) rfl) ?_ | refine ax_q (q_load1_rptr rfl rfl (mapAt (by first | assumption | omega)) rfl) ?_
  refine ax_q (q_mov rfl) ?_
  refine ax_nil ?_
  refine cx_keep rfl rfl ?_
  refine cx_seq ?_
  refine cx_seq ?_
  refine cx_ops ?_
  refine ax_q (q_mov rfl) ?_
  refine ax_nil ?_
  refine cx_keep rfl rfl ?_
  refine cx_block ?_
  refine cx_loopU (fun n k => 1 ≤ k ∧ k ≤ ds.length ∧ n = ds.length - k) (fun k : Nat => [(4, int k), (3, int (maxK ds k))]) (fun k => []) ⟨_, 1, ⟨Nat.le_refl _, hl.1, rfl⟩, by rw [maxK_one hg hl.1]; exact (by repeat (first | exact trivial | refine ⟨rfl, ?_⟩ | refine ⟨?_, ?_⟩))⟩ ?_
  rintro n k ⟨hk1, hk, rfl⟩
  refine cx_seq ?_
  refine cx_seq ?_
  refine cx_ops ?_
  refine ax_q (q_mov rfl) ?_
  refine ax_q (q_mov rfl) ?_
  first | refine ax_q (q_lenS_map rfl) ?_ | refine ax_q (q_lenS_osl rfl) ?_ | refine ax_q (q_lenS_zs rfl) ?_ | refine ax_q (q_lenS rfl) ?_
  refine ax_q (q_ibin rfl rfl rfl) ?_
  refine ax_nil ?_
  refine cx_keep rfl rfl ?_
  refine cx_cond rfl (fun h1 => ?_) (fun h1 => ?_)
  ·
   have h1 := dT h1
   have h1x : k < ds.length := by omega
   refine cx_skip ?_
   refine cx_keep rfl rfl ?_
   refine cx_seq ?_
   refine cx_block ?_
   refine cx_ops ?_
   refine ax_q (q_mov rfl) ?_
   refine ax_q (q_mov rfl) ?_
   refine ax_q (q_mov rfl) ?_
   first | refine ax_q (q_ix rfl rfl (by assumption)) ?_ | refine ax_q (q_ix rfl rfl (mapAt (by first | assumption | omega))) ?_ | refine ax_q (q_ixo rfl rfl (by first | assumption | omega)) ?_ | refine ax_q (q_ixI rfl rfl (by omega) (mapAt (by first | assumption | omega))) ?_ | refine ax_q (q_ixoI rfl rfl (by omega) (by omega)) ?_
   first | refine ax_q (q_load1_ptr rfl rfl rfl) ?_ | refine ax_q (q_load1_ip rfl) ?_ | refine ax_q (q_load1_rptr rfl rfl rfl rfl) ?_ | refine ax_q (q_load1_rptr rfl rfl (by assumption) rfl) ?_ | refine ax_q (q_load1_rptr rfl rfl (mapAt (by first | assumption | omega)) rfl) ?_
   refine ax_qe (r' := int (mxI (maxK ds k) ds[k])) (q_mx rfl rfl) (rfl) ?_
   refine ax_q (q_mov rfl) ?_
   refine ax_nil ?_
   refine cx_keep rfl rfl ?_
   refine cx_ops ?_
   refine ax_q (q_mov rfl) ?_
   refine ax_qe (r' := int ((k + 1 : Nat) : Int)) (q_ibin rfl rfl rfl) (by rw [wi (by omega) (by omega)]; rfl) ?_
   refine ax_q (q_mov rfl) ?_
   refine ax_nil ?_
   exact ⟨_, k + 1, by omega, ⟨by omega, by omega, rfl⟩, by rw [maxK_succ h1x]; exact (by repeat (first | exact trivial | refine ⟨rfl, ?_⟩ | refine ⟨?_, ?_⟩))⟩
  ·
   have h1 := dF h1
   have h1x : k = ds.length := by omega
   subst h1x
   refine cx_exit rfl ?_
   refine cx_keep rfl rfl ?_
   refine cx_seq ?_
   refine cx_ops ?_
   refine ax_q (q_mov rfl) ?_
   refine ax_q (q_mov rfl) ?_
   refine ax_nil ?_
   refine cx_keep rfl rfl ?_
   refine cx_ret (ret0 rfl rfl ?_)
   exact ⟨by rw [maxK_all]; rfl, rfl⟩


/- loop.example/g00332/impl.CodeDepth -/
def k_c_CodeDepth : XCode :=
 .seq (.ops [.op (some 2) (.mov (.k (.int .i64 0))),
   .op (some 3) (.mov (.k (.int .i64 0)))])
 (.keep [0] (.seq (.seq (.ops [.op (some 6) (.mov (.t 0)),
   .op (some 7) (.lenS (.t 6)),
   .op (some 8) (.bin .gtr (.t 7) (.k (.int .i64 4096)))])
  (.keep [0, 8] (.cond (.t 8)
  (.seq (.ops [.op (some 2) (.mov (.k (.int .i64 0))),
    .op (some 3) (.mov (.k (.int .i64 2)))])
   (.keep [2, 3] (.ret)))
  (.skip))))
 (.keep [0] (.seq (.ops [.op (some 10) (.mov (.t 0)),
   .call (some 11) 42 [.t 10],
   .op (some 9) (.mov (.t 11)),
   .op (some 12) (.ext (.t 9) 0),
   .op (some 13) (.ext (.t 9) 1),
   .op (some 4) (.mov (.t 12)),
   .op (some 5) (.mov (.t 13))])
 (.keep [4, 5] (.seq (.seq (.ops [.op (some 14) (.mov (.t 5)),
   .op (some 15) (.not (.t 14))])
  (.keep [4, 15] (.cond (.t 15)
  (.seq (.ops [.op (some 2) (.mov (.k (.int .i64 0))),
    .op (some 3) (.mov (.k (.int .i64 1)))])
   (.keep [2, 3] (.ret)))
  (.skip))))
 (.keep [4] (.seq (.ops [.op (some 16) (.mov (.t 4)),
   .call (some 17) 44 [.t 16],
   .op (some 2) (.mov (.t 17)),
   .op (some 3) (.mov (.k (.int .i64 0)))])
 (.keep [2, 3] (.ret))))))))))
theorem k_c_CodeDepth_fits : fitsF Try.prog 16 ⟨18, k_c_CodeDepth, [.t 2, .t 3]⟩ = true := by kernel_rfl
theorem c_CodeDepth {l : List GIns} (hw : l.length ≤ 1048576) (hv : ∀ x ∈ l, x.V.T.length ≤ 1048576) : Con Try.prog noMv 16 [.d (.sl 5 (l.map GIns.row))] [] (fun r h => r = .tup [int (depF l).1, int (depF l).2] ∧ h = []) := by
 refine con_of2 k_c_CodeDepth_fits rfl fun C hP hmv => ?_
 unfold k_c_CodeDepth
 refine cx_seq ?_
 refine cx_ops ?_
 refine ax_q (q_mov rfl) ?_
 refine ax_q (q_mov rfl) ?_
 refine ax_nil ?_
 refine cx_keep rfl rfl ?_
 refine cx_seq ?_
 refine cx_seq ?_
 refine cx_ops ?_
 refine ax_q (q_mov rfl) ?_
 first | refine ax_q (q_lenS_map rfl) ?_ | refine ax_q (q_lenS_osl rfl) ?_ | refine ax_q (q_lenS_zs rfl) ?_ | refine ax_q (q_lenS rfl) ?_
 refine ax_q (q_ibin rfl rfl rfl) ?_
 refine ax_nil ?_
 refine cx_keep rfl rfl ?_
 refine cx_cond rfl (fun h0 => ?_) (fun h0 => ?_)
 ·
  have h0 := dT h0
  refine cx_seq ?_
  refine cx_ops ?_
  refine ax_q (q_mov rfl) ?_
  refine ax_q (q_mov rfl) ?_
  refine ax_nil ?_
  refine cx_keep rfl rfl ?_
  refine cx_ret (ret0 rfl rfl ?_)
  exact ⟨by rw [depF_0 (by omega)]; rfl, rfl⟩
 ·
  have h0 := dF h0
  refine cx_skip ?_
  refine cx_keep rfl rfl ?_
  refine cx_seq ?_
  refine cx_ops ?_
  refine ax_q (q_mov rfl) ?_
  first | refine ax_call rfl (vc_pure (c_heights  ?_ ?_) hP rfl ?_) | refine ax_call rfl (vc_lend (c_heights  ?_ ?_) hP (by repeat (first | exact lal_id _ rfl | exact LAL.nil | refine LAL.cons ?_ ?_ | exact la_id _ rfl | exact LA.lend (lend_whole rfl (by first | (simp; done) | (rw [List.length_map]; rfl))) | refine LA.agg ?_ | refine LA.fn ?_ | refine LA.lend ?_ | exact Lend.d _ | exact Lend.zs _ | exact lend_whole rfl (by first | (simp; done) | (rw [List.length_map]; rfl)) | refine Lend.ptr rfl ?_ | refine Lend.fn ?_ | exact LendL.nil | refine LendL.cons ?_ ?_)) ?_)
  ·
   first | assumption | omega | (simp; done) | (simp; omega)
  ·
   first | assumption | omega | (simp; done) | (simp; omega)
  rintro r h ⟨ds, rfl, rfl, hd⟩
  refine ⟨fun i => 11 + 200 * i, [0], ⟨rfl, rfl, rfl, rfl, rfl, (by first | exact (fun h => absurd h Bool.false_ne_true) | exact (fun _ => ⟨rfl, (noisl_of ⟨noisl_map (fun _ => rfl), trivial⟩)⟩))⟩, ?_⟩
  skip
  refine ax_q (q_mov rfl) ?_
  refine ax_q (q_ext rfl rfl) ?_
  refine ax_q (q_ext rfl rfl) ?_
  refine ax_q (q_mov rfl) ?_
  refine ax_q (q_mov rfl) ?_
  refine ax_nil ?_
  refine cx_keep rfl rfl ?_
  refine cx_seq ?_
  refine cx_seq ?_
  refine cx_ops ?_
  refine ax_q (q_mov rfl) ?_
  refine ax_q (q_not rfl) ?_
  refine ax_nil ?_
  refine cx_keep rfl rfl ?_
  refine cx_cond rfl (fun h1 => ?_) (fun h1 => ?_)
  ·
   have h1 := bT h1
   refine cx_seq ?_
   refine cx_ops ?_
   refine ax_q (q_mov rfl) ?_
   refine ax_q (q_mov rfl) ?_
   refine ax_nil ?_
   refine cx_keep rfl rfl ?_
   refine cx_ret (ret0 rfl rfl ?_)
   exact ⟨by rw [depF_1 (by omega) h1]; rfl, rfl⟩
  ·
   have h1 := bF h1
   have hr := hd h1
   have hdl := runH_len hr
   have hle := codeOK_len h1
   have hg := runH_good (Nat.le_refl _) hr
   refine cx_skip ?_
   refine cx_keep rfl rfl ?_
   refine cx_seq ?_
   refine cx_ops ?_
   refine ax_q (q_mov rfl) ?_
   first | refine ax_call rfl (vc_pure0 (c_Max (ds := ds) ?_ ?_) hP rfl rfl ?_) | refine ax_call rfl (vc_lend0 (c_Max (ds := ds) ?_ ?_) hP (by repeat (first | exact lal_id _ rfl | exact LAL.nil | refine LAL.cons ?_ ?_ | exact la_id _ rfl | exact LA.lend (lend_whole rfl (by first | (simp; done) | (rw [List.length_map]; rfl))) | refine LA.agg ?_ | refine LA.fn ?_ | refine LA.lend ?_ | exact Lend.d _ | exact Lend.zs _ | exact lend_whole rfl (by first | (simp; done) | (rw [List.length_map]; rfl)) | refine Lend.ptr rfl ?_ | refine Lend.fn ?_ | exact LendL.nil | refine LendL.cons ?_ ?_)) rfl rfl ?_)
   ·
    first | assumption | omega | (simp; done) | (simp; omega)
   ·
    first | assumption | omega | (simp; done) | (simp; omega)
   refine ax_q (q_mov rfl) ?_
   refine ax_q (q_mov rfl) ?_
   refine ax_nil ?_
   refine cx_keep rfl rfl ?_
   refine cx_ret (ret0 rfl rfl ?_)
   exact ⟨by rw [depF_2 (by omega) h1, depC_of hr]; rfl, rfl⟩


/- loop.example/g00332/impl.depthOf$1 -/
def k_c_depthOf1 : XCode :=
 .seq (.ops [.op (some 3) (.mov (.k (.int .i64 0))),
   .op (some 4) (.mov (.k (.bool false)))])
 (.keep [0, 1] (.seq (.ops [.op (some 7) (.load1 (.t 1)),
   .op (some 8) (.lenS (.t 7)),
   .op (some 9) (.bin .sub (.t 8) (.k (.int .i64 1))),
   .op (some 5) (.mov (.t 9))])
 (.keep [0, 1, 5] (.seq (.seq (.ops [.op (some 10) (.mov (.t 5)),
   .op (some 11) (.bin .lss (.t 10) (.k (.int .i64 0))),
   .op (some 12) (.mov (.t 11)),
   .andor 20 false 2 12 [.op (some 13) (.load1 (.t 1)), .op (some 14) (.mov (.t 5)), .op (some 15) (.iadr 2 (.t 13) (.t 14)), .op (some 16) (.fadr (.t 15) 0), .op (some 17) (.load1 (.t 16)), .op (some 18) (.mov (.t 0)), .op (some 19) (.bin .neq (.t 17) (.t 18))] (.t 19)])
  (.keep [1, 5, 20] (.cond (.t 20)
  (.seq (.ops [.op (some 3) (.mov (.k (.int .i64 0))),
    .op (some 4) (.mov (.k (.bool false)))])
   (.keep [3, 4] (.ret)))
  (.skip))))
 (.keep [1, 5] (.seq (.ops [.op (some 21) (.load1 (.t 1)),
   .op (some 22) (.mov (.t 5)),
   .op (some 23) (.iadr 2 (.t 21) (.t 22)),
   .op (some 24) (.fadr (.t 23) 1),
   .op (some 25) (.load1 (.t 24)),
   .op (some 6) (.mov (.t 25))])
 (.keep [1, 5, 6] (.seq (.ops [.op (some 26) (.load1 (.t 1)),
   .op (some 27) (.mov (.t 5)),
   .op (some 28) (.slc 2 (.t 26) none (some (.t 27)) none),
   .op none (.store 1 (.t 1) (.t 28))])
 (.keep [6] (.seq (.ops [.op (some 29) (.mov (.t 6)),
   .op (some 3) (.mov (.t 29)),
   .op (some 4) (.mov (.k (.bool true)))])
 (.keep [3, 4] (.ret))))))))))))
theorem k_c_depthOf1_fits : fitsF Try.prog 101 ⟨30, k_c_depthOf1, [.t 3, .t 4]⟩ = true := by kernel_rfl
theorem c_depthOf1 {S : List IDp} {rs : List (List D)} {a : Int} (hS : S.length ≤ 1048576) (hrs : rs.take S.length = S.map prow) : Con Try.prog noMv 101 [int a, .ptr 1000 0] [(1000, .box [.osl 1001 2 0 S.length]), (1001, .rows 2 rs)] (fun r h => r = .tup [int (popF S a).1, bool (popF S a).2.1] ∧ h = [(1000, .box [.osl 1001 2 0 (popF S a).2.2.length]), (1001, .rows 2 rs)]) := by
 refine con_of2 k_c_depthOf1_fits rfl fun C hP hmv => ?_
 unfold k_c_depthOf1
 refine cx_seq ?_
 refine cx_ops ?_
 refine ax_q (q_mov rfl) ?_
 refine ax_q (q_mov rfl) ?_
 refine ax_nil ?_
 refine cx_keep rfl rfl ?_
 refine cx_seq ?_
 refine cx_ops ?_
 first | refine ax_q (q_load1_ptr rfl rfl rfl) ?_ | refine ax_q (q_load1_ip rfl) ?_ | refine ax_q (q_load1_rptr rfl rfl rfl rfl) ?_ | refine ax_q (q_load1_rptr rfl rfl (by assumption) rfl) ?_ | refine ax_q (q_load1_rptr rfl rfl (mapAt (by first | assumption | omega)) rfl) ?_
 first | refine ax_q (q_lenS_map rfl) ?_ | refine ax_q (q_lenS_osl rfl) ?_ | refine ax_q (q_lenS_zs rfl) ?_ | refine ax_q (q_lenS rfl) ?_
 refine ax_q (q_sub rfl rfl (by omega)) ?_
 refine ax_q (q_mov rfl) ?_
 refine ax_nil ?_
 refine cx_keep rfl rfl ?_
 refine cx_seq ?_
 refine cx_seq ?_
 refine cx_ops ?_
 refine ax_q (q_mov rfl) ?_
 refine ax_q (q_ibin rfl rfl rfl) ?_
 refine ax_q (q_mov rfl) ?_
 apply ax_or rfl rfl
 ·
  intro g
  have g := dF g
  have hrow := top_row hrs g
  first | refine ax_q (q_load1_ptr rfl rfl rfl) ?_ | refine ax_q (q_load1_ip rfl) ?_ | refine ax_q (q_load1_rptr rfl rfl rfl rfl) ?_ | refine ax_q (q_load1_rptr rfl rfl (by assumption) rfl) ?_ | refine ax_q (q_load1_rptr rfl rfl (mapAt (by first | assumption | omega)) rfl) ?_
  refine ax_q (q_mov rfl) ?_
  refine ax_q (q_ixoI rfl rfl (by omega) (by omega)) ?_
  first | refine ax_q (q_fadr_ptr rfl) ?_ | refine ax_q (q_fadr_rptr rfl) ?_ | refine ax_q (q_fadr_ip rfl) ?_
  refine ax_q (q_load1_rptr (r := prow (S.getD (S.length - 1) (0, 0))) rfl rfl hrow rfl) ?_
  refine ax_q (q_mov rfl) ?_
  refine ax_q (q_ibin rfl rfl rfl) ?_
  exact ax_nil ⟨rfl, by repeat (first | exact trivial | refine ⟨rfl, ?_⟩ | refine ⟨?_, ?_⟩)⟩
 refine ax_nil ?_
 refine cx_keep rfl rfl ?_
 refine cx_cond rfl (fun h0 => ?_) (fun h0 => ?_)
 ·
  have h0 := (fun h => (or_T h).imp dT nT) h0
  refine cx_seq ?_
  refine cx_ops ?_
  refine ax_q (q_mov rfl) ?_
  refine ax_q (q_mov rfl) ?_
  refine ax_nil ?_
  refine cx_keep rfl rfl ?_
  refine cx_ret (retN id [1000, 1001] rfl rfl rfl rfl rfl ?_)
  rw [popF_no h0]; exact ⟨rfl, rfl⟩
 ·
  have h0 := (fun h => And.intro (dF (or_F h).1) (nF (or_F h).2)) h0
  refine cx_skip ?_
  refine cx_keep rfl rfl ?_
  refine cx_seq ?_
  refine cx_ops ?_
  first | refine ax_q (q_load1_ptr rfl rfl rfl) ?_ | refine ax_q (q_load1_ip rfl) ?_ | refine ax_q (q_load1_rptr rfl rfl rfl rfl) ?_ | refine ax_q (q_load1_rptr rfl rfl (by assumption) rfl) ?_ | refine ax_q (q_load1_rptr rfl rfl (mapAt (by first | assumption | omega)) rfl) ?_
  refine ax_q (q_mov rfl) ?_
  refine ax_q (q_ixoI rfl rfl (by omega) (by omega)) ?_
  first | refine ax_q (q_fadr_ptr rfl) ?_ | refine ax_q (q_fadr_rptr rfl) ?_ | refine ax_q (q_fadr_ip rfl) ?_
  refine ax_q (q_load1_rptr (r := prow (S.getD (S.length - 1) (0, 0))) rfl rfl (top_row hrs h0.1) rfl) ?_
  refine ax_q (q_mov rfl) ?_
  refine ax_nil ?_
  refine cx_keep rfl rfl ?_
  refine cx_seq ?_
  refine cx_ops ?_
  first | refine ax_q (q_load1_ptr rfl rfl rfl) ?_ | refine ax_q (q_load1_ip rfl) ?_ | refine ax_q (q_load1_rptr rfl rfl rfl rfl) ?_ | refine ax_q (q_load1_rptr rfl rfl (by assumption) rfl) ?_ | refine ax_q (q_load1_rptr rfl rfl (mapAt (by first | assumption | omega)) rfl) ?_
  refine ax_q (q_mov rfl) ?_
  refine ax_qe (r' := .osl 1001 2 0 (S.length - 1)) (q_slc_osl rfl rfl rfl (by omega) (by omega) (by omega)) (by rw [show ((S.length : Int) - 1).toNat - (0 : Int).toNat = S.length - 1 from by omega]; rfl) ?_
  refine ax_e (e_st rfl rfl rfl rfl rfl rfl rfl) ?_
  refine ax_nil ?_
  refine cx_keep rfl rfl ?_
  refine cx_seq ?_
  refine cx_ops ?_
  refine ax_q (q_mov rfl) ?_
  refine ax_q (q_mov rfl) ?_
  refine ax_q (q_mov rfl) ?_
  refine ax_nil ?_
  refine cx_keep rfl rfl ?_
  refine cx_ret (retN id [1000, 1001] rfl rfl rfl rfl rfl ?_)
  rw [popF_yes h0.1 h0.2]; exact ⟨rfl, by dsimp only; rw [List.length_dropLast]; rfl⟩


/- loop.example/g00332/impl.depthOf -/
def k_c_depthOf : XCode :=
 .seq (.ops [.op (some 2) (.mov (.k (.int .i64 0)))])
 (.keep [0] (.seq (.ops [.op (some 13) (.bslice 2 []),
   .op (some 3) (.alloc [.nils 2]),
   .op none (.store 1 (.t 3) (.t 13))])
 (.keep [0, 3] (.seq (.ops [.op (some 14) (.mkfn 101 [.t 3]),
   .op (some 4) (.mov (.t 14))])
 (.keep [0, 3, 4] (.seq (.seq (.ops [.op (some 15) (.mov (.t 0)),
   .op (some 16) (.lenS (.t 15)),
   .op (some 17) (.mov (.k (.int .i64 0)))])
  (.keep [3, 4, 15, 16, 17] (.block 0 (.loop (.seq (.ops [.op (some 18) (.bin .lss (.t 17) (.t 16))])
   (.keep [3, 4, 15, 16, 17, 18] (.seq (.cond (.t 18)
    (.skip)
    (.exit 0))
   (.keep [3, 4, 15, 16, 17] (.seq (.block 1 (.seq (.ops [.op (some 19) (.mov (.t 17)),
     .op (some 20) (.iadr 7 (.t 15) (.t 17)),
     .op (some 21) (.loadN 7 (.t 20)),
     .op (some 6) (.alloc [.int .i64 0, .int .i64 0, .int .i64 0, .int .i64 0, .int .i64 0, .int .i64 0, .str []]),
     .op (some 5) (.mov (.t 19)),
     .op none (.store 7 (.t 6) (.t 21))])
    (.keep [3, 4, 5, 6, 15, 16, 17] (.seq (.ops [.op (some 7) (.mov (.k (.int .i64 0))),
     .op (some 8) (.mov (.k (.bool true)))])
    (.keep [3, 4, 5, 6, 7, 15, 16, 17] (.seq (.block 2 (.seq (.ops [.op (some 23) (.fadr (.t 6) 0),
      .op (some 24) (.load1 (.t 23)),
      .op (some 25) (.bin .eql (.t 24) (.k (.int .i64 1))),
      .op (some 22) (.mov (.t 25))])
     (.keep [3, 4, 5, 6, 7, 15, 16, 17, 22] (.cond (.t 22)
     (.ops [.op (some 26) (.fadr (.t 6) 1),
       .op (some 27) (.load1 (.t 26)),
       .op (some 28) (.bin .eql (.t 27) (.k (.int .i64 0))),
       .op (some 29) (.mov (.t 28)),
       .andor 33 true 3 29 [.op (some 30) (.fadr (.t 6) 2), .op (some 31) (.load1 (.t 30)), .op (some 32) (.bin .eql (.t 31) (.k (.int .i64 0)))] (.t 32),
       .op (some 34) (.mov (.t 33)),
       .andor 38 true 8 34 [.op (some 35) (.fadr (.t 6) 3), .op (some 36) (.load1 (.t 35)), .op (some 37) (.bin .eql (.t 36) (.k (.int .i64 0)))] (.t 37),
       .op (some 39) (.mov (.t 38)),
       .andor 43 true 13 39 [.op (some 40) (.fadr (.t 6) 4), .op (some 41) (.loadN 3 (.t 40)), .call (some 42) 78 [.t 41]] (.t 42),
       .op (some 8) (.mov (.t 43))])
     (.seq (.ops [.op (some 45) (.fadr (.t 6) 0),
       .op (some 46) (.load1 (.t 45)),
       .op (some 47) (.bin .eql (.t 46) (.k (.int .i64 2))),
       .op (some 44) (.mov (.t 47))])
      (.keep [3, 4, 5, 6, 7, 15, 16, 17, 44] (.cond (.t 44)
      (.ops [.op (some 48) (.fadr (.t 6) 1),
        .op (some 49) (.load1 (.t 48)),
        .op (some 50) (.bin .eql (.t 49) (.k (.int .i64 0))),
        .op (some 51) (.mov (.t 50)),
        .andor 55 true 3 51 [.op (some 52) (.fadr (.t 6) 2), .op (some 53) (.load1 (.t 52)), .op (some 54) (.bin .eql (.t 53) (.k (.int .i64 0)))] (.t 54),
        .op (some 56) (.mov (.t 55)),
        .andor 60 true 8 56 [.op (some 57) (.fadr (.t 6) 3), .op (some 58) (.load1 (.t 57)), .call (some 59) 52 [.t 58, .k (.int .i64 3)]] (.t 59),
        .op (some 61) (.mov (.t 60)),
        .andor 66 true 13 61 [.op (some 62) (.fadr (.t 6) 4), .op (some 63) (.loadN 3 (.t 62)), .op (some 64) (.build [.int .i64 0, .int .i64 0, .str []] []), .op (some 65) (.eqs false [0, 0, 2] (.t 63) (.t 64))] (.t 65),
        .op (some 8) (.mov (.t 66))])
      (.seq (.ops [.op (some 68) (.fadr (.t 6) 0),
        .op (some 69) (.load1 (.t 68)),
        .call (some 70) 82 [.t 69],
        .op (some 67) (.mov (.t 70))])
       (.keep [3, 4, 5, 6, 7, 15, 16, 17, 67] (.cond (.t 67)
       (.seq (.ops [.op (some 72) (.mov (.t 4)),
         .op (some 73) (.fadr (.t 6) 1),
         .op (some 74) (.load1 (.t 73)),
         .callv (some 75) (.t 72) [.t 74],
         .op (some 71) (.mov (.t 75)),
         .op (some 76) (.ext (.t 71) 0),
         .op (some 77) (.ext (.t 71) 1),
         .op (some 7) (.mov (.t 76)),
         .op (some 8) (.mov (.t 77))])
        (.keep [3, 4, 5, 6, 7, 8, 15, 16, 17] (.ops [.op (some 78) (.mov (.t 8)),
         .op (some 79) (.mov (.t 78)),
         .andor 83 true 1 79 [.op (some 80) (.fadr (.t 6) 2), .op (some 81) (.load1 (.t 80)), .op (some 82) (.bin .eql (.t 81) (.k (.int .i64 0)))] (.t 82),
         .op (some 84) (.mov (.t 83)),
         .andor 88 true 6 84 [.op (some 85) (.fadr (.t 6) 3), .op (some 86) (.load1 (.t 85)), .op (some 87) (.bin .eql (.t 86) (.k (.int .i64 0)))] (.t 87),
         .op (some 89) (.mov (.t 88)),
         .andor 94 true 11 89 [.op (some 90) (.fadr (.t 6) 4), .op (some 91) (.loadN 3 (.t 90)), .op (some 92) (.build [.int .i64 0, .int .i64 0, .str []] []), .op (some 93) (.eqs false [0, 0, 2] (.t 91) (.t 92))] (.t 93),
         .op (some 8) (.mov (.t 94))])))
       (.seq (.ops [.op (some 96) (.fadr (.t 6) 0),
         .op (some 97) (.load1 (.t 96)),
         .call (some 98) 100 [.t 97],
         .op (some 95) (.mov (.t 98))])
        (.keep [3, 4, 5, 6, 7, 15, 16, 17, 95] (.cond (.t 95)
        (.seq (.ops [.op (some 100) (.mov (.t 4)),
          .op (some 101) (.fadr (.t 6) 2),
          .op (some 102) (.load1 (.t 101)),
          .callv (some 103) (.t 100) [.t 102],
          .op (some 99) (.mov (.t 103)),
          .op (some 104) (.ext (.t 99) 0),
          .op (some 105) (.ext (.t 99) 1),
          .op (some 9) (.mov (.t 104)),
          .op (some 10) (.mov (.t 105))])
         (.keep [3, 4, 5, 6, 9, 10, 15, 16, 17] (.seq (.ops [.op (some 107) (.mov (.t 4)),
          .op (some 108) (.fadr (.t 6) 1),
          .op (some 109) (.load1 (.t 108)),
          .callv (some 110) (.t 107) [.t 109],
          .op (some 106) (.mov (.t 110)),
          .op (some 111) (.ext (.t 106) 0),
          .op (some 112) (.ext (.t 106) 1),
          .op (some 11) (.mov (.t 111)),
          .op (some 12) (.mov (.t 112))])
         (.keep [3, 4, 5, 6, 9, 10, 11, 12, 15, 16, 17] (.draw [.op (some 113) (.mov (.t 11)),
          .op (some 114) (.mov (.t 9)),
          .op (some 115) (.mx true (.t 113) (.t 114)),
          .op (some 116) (.mov (.t 10)),
          .op (some 117) (.mov (.t 116)),
          .andor 119 true 4 117 [.op (some 118) (.mov (.t 12))] (.t 118),
          .op (some 120) (.mov (.t 119)),
          .andor 124 true 7 120 [.op (some 121) (.fadr (.t 6) 3), .op (some 122) (.load1 (.t 121)), .op (some 123) (.bin .eql (.t 122) (.k (.int .i64 0)))] (.t 123),
          .op (some 125) (.mov (.t 124)),
          .andor 130 true 12 125 [.op (some 126) (.fadr (.t 6) 4), .op (some 127) (.loadN 3 (.t 126)), .op (some 128) (.build [.int .i64 0, .int .i64 0, .str []] []), .op (some 129) (.eqs false [0, 0, 2] (.t 127) (.t 128))] (.t 129),
          .op (some 7) (.mov (.t 115)),
          .op (some 8) (.mov (.t 130))])))))
        (.ops [.op (some 8) (.mov (.k (.bool false)))]))))))))))))))
    (.keep [3, 4, 5, 7, 8, 15, 16, 17] (.seq (.seq (.ops [.op (some 131) (.mov (.t 8)),
      .op (some 132) (.not (.t 131))])
    (.keep [3, 4, 5, 7, 15, 16, 17, 132] (.cond (.t 132)
     (.seq (.ops [.op (some 2) (.mov (.k (.int .i64 0)))])
     (.keep [2] (.ret)))
     (.skip))))
    (.keep [3, 4, 5, 7, 15, 16, 17] (.ops [.op (some 133) (.load1 (.t 3)),
     .op (some 134) (.mov (.t 5)),
     .op (some 135) (.mov (.t 7)),
     .op (some 136) (.bin .add (.t 135) (.k (.int .i64 1))),
     .op (some 137) (.build [.int .i64 0, .int .i64 0] [(0, 1, .t 134), (1, 1, .t 136)]),
     .op (some 138) (.bslice 2 [.t 137]),
     .op (some 139) (.app 2 16 [.int .i64 0, .int .i64 0] (.t 133) (.t 138)),
     .op none (.store 1 (.t 3) (.t 139))]))))))))))
   (.keep [3, 4, 15, 16, 17] (.ops [.op (some 140) (.bin .add (.t 17) (.k (.int .i64 1))),
    .op (some 17) (.mov (.t 140))])))))))))))
 (.keep [3] (.seq (.seq (.ops [.op (some 141) (.load1 (.t 3)),
   .op (some 142) (.lenS (.t 141)),
   .op (some 143) (.bin .neq (.t 142) (.k (.int .i64 1)))])
  (.keep [3, 143] (.cond (.t 143)
  (.seq (.ops [.op (some 2) (.mov (.k (.int .i64 0)))])
   (.keep [2] (.ret)))
  (.skip))))
 (.keep [3] (.seq (.ops [.op (some 144) (.load1 (.t 3)),
   .op (some 145) (.iadr 2 (.t 144) (.k (.int .i64 0))),
   .op (some 146) (.fadr (.t 145) 1),
   .op (some 147) (.load1 (.t 146)),
   .op (some 2) (.mov (.t 147))])
 (.keep [2] (.ret))))))))))))
theorem k_c_depthOf_fits : fitsF Try.prog 76 ⟨148, k_c_depthOf, [.t 2]⟩ = true := by kernel_rfl
theorem c_depthOf {ns : List GExprNode} (hw : ns.length ≤ 1048576) (hv : ∀ x ∈ ns, x.V.T.length ≤ 1048576) : Con Try.prog noMv 76 [.d (.sl 7 (ns.map GExprNode.row))] [] (fun r h => r = int (depthF ns) ∧ h = []) := by
 refine con_of2 k_c_depthOf_fits rfl fun C hP hmv => ?_
 unfold k_c_depthOf
 refine cx_seq ?_
 refine cx_ops ?_
 refine ax_q (q_mov rfl) ?_
 refine ax_nil ?_
 refine cx_keep rfl rfl ?_
 refine cx_seq ?_
 refine cx_ops ?_
 refine ax_e (e_bslice rfl (by decide) rfl rfl) ?_
 refine ax_e (e_alloc (by decide) rfl rfl) ?_
 refine ax_e (e_st rfl rfl rfl rfl rfl rfl rfl) ?_
 refine ax_nil ?_
 refine cx_keep rfl rfl ?_
 refine cx_seq ?_
 refine cx_ops ?_
 refine ax_q (q_mkfn rfl) ?_
 refine ax_q (q_mov rfl) ?_
 refine ax_nil ?_
 refine cx_keep rfl rfl ?_
 refine cx_seq ?_
 refine cx_seq ?_
 refine cx_ops ?_
 refine ax_q (q_mov rfl) ?_
 first | refine ax_q (q_lenS_map rfl) ?_ | refine ax_q (q_lenS_osl rfl) ?_ | refine ax_q (q_lenS_zs rfl) ?_ | refine ax_q (q_lenS rfl) ?_
 refine ax_q (q_mov rfl) ?_
 refine ax_nil ?_
 refine cx_keep rfl rfl ?_
 refine cx_block ?_
 refine cx_loopU (fun n (p : Nat × List IDp × List (List D)) => p.1 ≤ ns.length ∧ n = ns.length - p.1 ∧ scanD ns p.1 = some p.2.1 ∧ p.2.2.take p.2.1.length = p.2.1.map prow ∧ p.2.1.length ≤ p.1 ∧ lowS p.2.1 p.1) (fun p => [(17, int p.1)]) (fun p => [(3, .box [.osl 13 2 0 p.2.1.length]), (13, .rows 2 p.2.2)]) ⟨_, (0, [], []), ⟨Nat.zero_le _, rfl, rfl, rfl, Nat.le_refl _, fun p hp => by cases hp⟩, by repeat (first | exact trivial | refine ⟨rfl, ?_⟩ | refine ⟨?_, ?_⟩)⟩ ?_
 rintro n ⟨k, S, rs⟩ ⟨hk, rfl, hs, hrs, hS, hlow⟩
 simp only at hk hs hrs hS hlow ⊢
 refine cx_seq ?_
 refine cx_ops ?_
 refine ax_q (q_ibin rfl rfl rfl) ?_
 refine ax_nil ?_
 refine cx_keep rfl rfl ?_
 refine cx_seq ?_
 refine cx_cond rfl (fun h0 => ?_) (fun h0 => ?_)
 ·
  have h0 := dT h0
  have h0x : k < ns.length := by omega
  have hvk := hv _ (List.getElem_mem h0x)
  have hlw := @okD_low S ns[k] k (by omega) hlow
  have hor := okD_rs (x := ns[k]) hrs
  refine cx_skip ?_
  refine cx_keep rfl rfl ?_
  refine cx_seq ?_
  refine cx_block ?_
  refine cx_seq ?_
  refine cx_ops ?_
  refine ax_q (q_mov rfl) ?_
  refine ax_q (q_ix rfl rfl (mapAt h0x)) ?_
  first | refine ax_q (q_ldN rfl rfl rfl) ?_ | refine ax_q (q_loadN_ip rfl (Nat.le_refl _)) ?_ | refine ax_q (q_loadN_ip rfl (by decide)) ?_ | refine ax_q (q_loadN_rptr rfl rfl (by assumption) (by decide)) ?_ | refine ax_q (q_loadN_rptr rfl rfl (mapAt (by first | assumption | omega)) (by decide)) ?_
  refine ax_e (e_alloc (by decide) rfl rfl) ?_
  refine ax_q (q_mov rfl) ?_
  refine ax_e (e_st rfl rfl rfl rfl rfl rfl rfl) ?_
  refine ax_nil ?_
  refine cx_keep rfl rfl ?_
  refine cx_seq ?_
  refine cx_ops ?_
  refine ax_q (q_mov rfl) ?_
  refine ax_q (q_mov rfl) ?_
  refine ax_nil ?_
  refine cx_keep rfl rfl ?_
  refine cx_seq ?_
  refine cx_block ?_
  refine cx_seq ?_
  refine cx_ops ?_
  refine ax_q (q_fadr_ptr rfl) ?_
  refine ax_q (q_load1_ptr rfl rfl rfl) ?_
  refine ax_q (q_ibin rfl rfl rfl) ?_
  refine ax_q (q_mov rfl) ?_
  refine ax_nil ?_
  refine cx_keep rfl rfl ?_
  refine cx_cond rfl (fun h1 => ?_) (fun h1 => ?_)
  ·
   have h1 := dT h1
   have ho := okD_1 (S := S) h1
   refine cx_ops ?_
   refine ax_q (q_fadr_ptr rfl) ?_
   refine ax_q (q_load1_ptr rfl rfl rfl) ?_
   refine ax_q (q_ibin rfl rfl rfl) ?_
   refine ax_q (q_mov rfl) ?_
   apply ax_and rfl rfl
   ·
    intro g
    have g := dT g
    refine ax_q (q_fadr_ptr rfl) ?_
    refine ax_q (q_load1_ptr rfl rfl rfl) ?_
    refine ax_q (q_ibin rfl rfl rfl) ?_
    exact ax_nil ⟨rfl, by repeat (first | exact trivial | refine ⟨rfl, ?_⟩ | refine ⟨?_, ?_⟩)⟩
   refine ax_q (q_mov rfl) ?_
   apply ax_and rfl rfl
   ·
    intro g
    have g := (fun h => And.intro (dT (and_T h).1) (dT (and_T h).2)) g
    refine ax_q (q_fadr_ptr rfl) ?_
    refine ax_q (q_load1_ptr rfl rfl rfl) ?_
    refine ax_q (q_ibin rfl rfl rfl) ?_
    exact ax_nil ⟨rfl, by repeat (first | exact trivial | refine ⟨rfl, ?_⟩ | refine ⟨?_, ?_⟩)⟩
   refine ax_q (q_mov rfl) ?_
   apply ax_and rfl rfl
   ·
    intro g
    have g := (fun h => And.intro ((fun h => And.intro (dT (and_T h).1) (dT (and_T h).2)) (and_T h).1) (dT (and_T h).2)) g
    refine ax_q (q_fadr_ptr rfl) ?_
    refine ax_q (q_ldN rfl rfl rfl) ?_
    first | refine ax_call rfl (vc_pure0 (c_ValueOK (v := ns[k].V) ?_) hP rfl rfl ?_) | refine ax_call rfl (vc_lend0 (c_ValueOK (v := ns[k].V) ?_) hP (by repeat (first | exact lal_id _ rfl | exact LAL.nil | refine LAL.cons ?_ ?_ | exact la_id _ rfl | exact LA.lend (lend_whole rfl (by first | (simp; done) | (rw [List.length_map]; rfl))) | refine LA.agg ?_ | refine LA.fn ?_ | refine LA.lend ?_ | exact Lend.d _ | exact Lend.zs _ | exact lend_whole rfl (by first | (simp; done) | (rw [List.length_map]; rfl)) | refine Lend.ptr rfl ?_ | refine Lend.fn ?_ | exact LendL.nil | refine LendL.cons ?_ ?_)) rfl rfl ?_)
    ·
     first | assumption | omega | (simp; done) | (simp; omega)
    exact ax_nil ⟨rfl, by repeat (first | exact trivial | refine ⟨rfl, ?_⟩ | refine ⟨?_, ?_⟩)⟩
   refine ax_q (q_mov rfl) ?_
   refine ax_nil ?_
   refine cx_keep rfl rfl ?_
   refine cx_seq ?_
   refine cx_seq ?_
   refine cx_ops ?_
   refine ax_q (q_mov rfl) ?_
   refine ax_q (q_not rfl) ?_
   refine ax_nil ?_
   refine cx_keep rfl rfl ?_
   refine cx_cond rfl (fun h5 => ?_) (fun h5 => ?_)
   ·
    have h5 : (okD S ns[k]).1 = false := by rw [ho] <;> exact bT h5
    refine cx_seq ?_
    refine cx_ops ?_
    refine ax_q (q_mov rfl) ?_
    refine ax_nil ?_
    refine cx_keep rfl rfl ?_
    refine cx_ret (ret0 rfl rfl ?_)
    exact ⟨by rw [depthF_none (k := k + 1) (by omega) (by rw [scan_next h0x hs, stepD_f h5])]; rfl, rfl⟩
   ·
    have h5 : (okD S ns[k]).1 = true := by rw [ho] <;> exact bF h5
    have hs2 := scan_next h0x hs
    rw [stepD_t h5, ho] at hs2
    rw [ho] at hlw hor
    dsimp only at hs2 hlw hor
    refine cx_skip ?_
    refine cx_keep rfl rfl ?_
    refine cx_ops ?_
    refine ax_q (q_load1_ptr rfl rfl rfl) ?_
    refine ax_q (q_mov rfl) ?_
    refine ax_q (q_mov rfl) ?_
    refine ax_q (q_add rfl rfl (by omega)) ?_
    refine ax_q (q_build rfl) ?_
    refine ax_e (e_bslice rfl (by decide) rfl rfl) ?_
    refine ax_e (e_appn rfl rfl (stk_le hor) rfl (src_osl rfl (by simp)) (.inl (by decide)) (hbnd (by omega) (by simp) (by decide)) (stk_len hs2) (stk_app hs2 hor)) ?_
    refine ax_e (e_st rfl rfl rfl rfl rfl rfl rfl) ?_
    refine ax_nil ?_
    refine cx_keep rfl rfl ?_
    refine cx_ops ?_
    refine ax_qe (r' := int ((k + 1 : Nat) : Int)) (q_ibin rfl rfl rfl) (by rw [wi (by omega) (by omega)]; rfl) ?_
    refine ax_q (q_mov rfl) ?_
    refine ax_nil ?_
    exact ⟨_, (k + 1, _, _), by simp only; omega, ⟨by simp only; omega, rfl, hs2, stk_inv hs2, by simp only [List.length_append, List.length_singleton]; omega, by rw [show ((k + 1 : Nat) : Int) = (k : Int) + 1 from by omega]; exact lowS_app hlw.2.2.1 ⟨hlw.1, hlw.2.1⟩⟩, by repeat (first | exact trivial | refine ⟨rfl, ?_⟩ | refine ⟨?_, ?_⟩)⟩
  ·
   have h1 := dF h1
   refine cx_seq ?_
   refine cx_ops ?_
   refine ax_q (q_fadr_ptr rfl) ?_
   refine ax_q (q_load1_ptr rfl rfl rfl) ?_
   refine ax_q (q_ibin rfl rfl rfl) ?_
   refine ax_q (q_mov rfl) ?_
   refine ax_nil ?_
   refine cx_keep rfl rfl ?_
   refine cx_cond rfl (fun h2 => ?_) (fun h2 => ?_)
   ·
    have h2 := dT h2
    have ho := okD_2 (S := S) h1 h2
    refine cx_ops ?_
    refine ax_q (q_fadr_ptr rfl) ?_
    refine ax_q (q_load1_ptr rfl rfl rfl) ?_
    refine ax_q (q_ibin rfl rfl rfl) ?_
    refine ax_q (q_mov rfl) ?_
    apply ax_and rfl rfl
    ·
     intro g
     have g := dT g
     refine ax_q (q_fadr_ptr rfl) ?_
     refine ax_q (q_load1_ptr rfl rfl rfl) ?_
     refine ax_q (q_ibin rfl rfl rfl) ?_
     exact ax_nil ⟨rfl, by repeat (first | exact trivial | refine ⟨rfl, ?_⟩ | refine ⟨?_, ?_⟩)⟩
    refine ax_q (q_mov rfl) ?_
    apply ax_and rfl rfl
    ·
     intro g
     have g := (fun h => And.intro (dT (and_T h).1) (dT (and_T h).2)) g
     refine ax_q (q_fadr_ptr rfl) ?_
     refine ax_q (q_load1_ptr rfl rfl rfl) ?_
     first | refine ax_call rfl (vc_pure0 (c_isPlace  ?_) hP rfl rfl ?_) | refine ax_call rfl (vc_lend0 (c_isPlace  ?_) hP (by repeat (first | exact lal_id _ rfl | exact LAL.nil | refine LAL.cons ?_ ?_ | exact la_id _ rfl | exact LA.lend (lend_whole rfl (by first | (simp; done) | (rw [List.length_map]; rfl))) | refine LA.agg ?_ | refine LA.fn ?_ | refine LA.lend ?_ | exact Lend.d _ | exact Lend.zs _ | exact lend_whole rfl (by first | (simp; done) | (rw [List.length_map]; rfl)) | refine Lend.ptr rfl ?_ | refine Lend.fn ?_ | exact LendL.nil | refine LendL.cons ?_ ?_)) rfl rfl ?_)
     ·
      first | assumption | omega | (simp; done) | (simp; omega)
     exact ax_nil ⟨rfl, by repeat (first | exact trivial | refine ⟨rfl, ?_⟩ | refine ⟨?_, ?_⟩)⟩
    refine ax_q (q_mov rfl) ?_
    apply ax_and rfl rfl
    ·
     intro g
     have g := (fun h => And.intro ((fun h => And.intro (dT (and_T h).1) (dT (and_T h).2)) (and_T h).1) (id (and_T h).2)) g
     refine ax_q (q_fadr_ptr rfl) ?_
     refine ax_q (q_ldN rfl rfl rfl) ?_
     refine ax_q (q_build rfl) ?_
     first | refine ax_q (GValue.q_eqs rfl rfl) ?_ | refine ax_q (q_eqs rfl rfl rfl) ?_
     exact ax_nil ⟨rfl, by repeat (first | exact trivial | refine ⟨rfl, ?_⟩ | refine ⟨?_, ?_⟩)⟩
    refine ax_q (q_mov rfl) ?_
    refine ax_nil ?_
    refine cx_keep rfl rfl ?_
    refine cx_seq ?_
    refine cx_seq ?_
    refine cx_ops ?_
    refine ax_q (q_mov rfl) ?_
    refine ax_q (q_not rfl) ?_
    refine ax_nil ?_
    refine cx_keep rfl rfl ?_
    refine cx_cond rfl (fun h5 => ?_) (fun h5 => ?_)
    ·
     have h5 : (okD S ns[k]).1 = false := by rw [ho] <;> exact bT h5
     refine cx_seq ?_
     refine cx_ops ?_
     refine ax_q (q_mov rfl) ?_
     refine ax_nil ?_
     refine cx_keep rfl rfl ?_
     refine cx_ret (ret0 rfl rfl ?_)
     exact ⟨by rw [depthF_none (k := k + 1) (by omega) (by rw [scan_next h0x hs, stepD_f h5])]; rfl, rfl⟩
    ·
     have h5 : (okD S ns[k]).1 = true := by rw [ho] <;> exact bF h5
     have hs2 := scan_next h0x hs
     rw [stepD_t h5, ho] at hs2
     rw [ho] at hlw hor
     dsimp only at hs2 hlw hor
     refine cx_skip ?_
     refine cx_keep rfl rfl ?_
     refine cx_ops ?_
     refine ax_q (q_load1_ptr rfl rfl rfl) ?_
     refine ax_q (q_mov rfl) ?_
     refine ax_q (q_mov rfl) ?_
     refine ax_q (q_add rfl rfl (by omega)) ?_
     refine ax_q (q_build rfl) ?_
     refine ax_e (e_bslice rfl (by decide) rfl rfl) ?_
     refine ax_e (e_appn rfl rfl (stk_le hor) rfl (src_osl rfl (by simp)) (.inl (by decide)) (hbnd (by omega) (by simp) (by decide)) (stk_len hs2) (stk_app hs2 hor)) ?_
     refine ax_e (e_st rfl rfl rfl rfl rfl rfl rfl) ?_
     refine ax_nil ?_
     refine cx_keep rfl rfl ?_
     refine cx_ops ?_
     refine ax_qe (r' := int ((k + 1 : Nat) : Int)) (q_ibin rfl rfl rfl) (by rw [wi (by omega) (by omega)]; rfl) ?_
     refine ax_q (q_mov rfl) ?_
     refine ax_nil ?_
     exact ⟨_, (k + 1, _, _), by simp only; omega, ⟨by simp only; omega, rfl, hs2, stk_inv hs2, by simp only [List.length_append, List.length_singleton]; omega, by rw [show ((k + 1 : Nat) : Int) = (k : Int) + 1 from by omega]; exact lowS_app hlw.2.2.1 ⟨hlw.1, hlw.2.1⟩⟩, by repeat (first | exact trivial | refine ⟨rfl, ?_⟩ | refine ⟨?_, ?_⟩)⟩
   ·
    have h2 := dF h2
    refine cx_seq ?_
    refine cx_ops ?_
    refine ax_q (q_fadr_ptr rfl) ?_
    refine ax_q (q_load1_ptr rfl rfl rfl) ?_
    first | refine ax_call rfl (vc_pure0 (c_isUnary  ) hP rfl rfl ?_) | refine ax_call rfl (vc_lend0 (c_isUnary  ) hP (by repeat (first | exact lal_id _ rfl | exact LAL.nil | refine LAL.cons ?_ ?_ | exact la_id _ rfl | exact LA.lend (lend_whole rfl (by first | (simp; done) | (rw [List.length_map]; rfl))) | refine LA.agg ?_ | refine LA.fn ?_ | refine LA.lend ?_ | exact Lend.d _ | exact Lend.zs _ | exact lend_whole rfl (by first | (simp; done) | (rw [List.length_map]; rfl)) | refine Lend.ptr rfl ?_ | refine Lend.fn ?_ | exact LendL.nil | refine LendL.cons ?_ ?_)) rfl rfl ?_)
    refine ax_q (q_mov rfl) ?_
    refine ax_nil ?_
    refine cx_keep rfl rfl ?_
    refine cx_cond rfl (fun h3 => ?_) (fun h3 => ?_)
    ·
     skip
     have ho := okD_3 (S := S) h1 h2 h3
     refine cx_seq ?_
     refine cx_ops ?_
     refine ax_q (q_mov rfl) ?_
     refine ax_q (q_fadr_ptr rfl) ?_
     refine ax_q (q_load1_ptr rfl rfl rfl) ?_
     refine ax_callv rfl (by rw [hP]; kernel_rfl) rfl (vcall_own (c_depthOf1 (S := S) (rs := rs) (a := ns[k].A) ?_ ?_) hP hmv false (fun e => bif Nat.beq e 1000 then 3 else 13) [1000, 1001] ⟨rfl, rfl, rfl, rfl, ⟨rfl, rfl, trivial⟩, rfl, rfl, rfl⟩ (.pass rfl rfl (.pass rfl rfl .nil)) ?_)
     ·
      omega
     ·
      exact hrs
     rintro r h ⟨rfl, rfl⟩
     refine ⟨fun e => bif Nat.beq e 1000 then 3 else 13, [], ⟨rfl, rfl, rfl, rfl, mem2 rfl rfl, rfl, rfl, fun h => absurd h Bool.false_ne_true⟩, ?_⟩
     refine ax_q (q_mov rfl) ?_
     refine ax_q (q_ext rfl rfl) ?_
     refine ax_q (q_ext rfl rfl) ?_
     refine ax_q (q_mov rfl) ?_
     refine ax_q (q_mov rfl) ?_
     refine ax_nil ?_
     refine cx_keep rfl rfl ?_
     refine cx_ops ?_
     refine ax_q (q_mov rfl) ?_
     refine ax_q (q_mov rfl) ?_
     apply ax_and rfl rfl
     ·
      intro g
      refine ax_q (q_fadr_ptr rfl) ?_
      refine ax_q (q_load1_ptr rfl rfl rfl) ?_
      refine ax_q (q_ibin rfl rfl rfl) ?_
      exact ax_nil ⟨rfl, by repeat (first | exact trivial | refine ⟨rfl, ?_⟩ | refine ⟨?_, ?_⟩)⟩
     refine ax_q (q_mov rfl) ?_
     apply ax_and rfl rfl
     ·
      intro g
      have g := (fun h => And.intro (id (and_T h).1) (dT (and_T h).2)) g
      refine ax_q (q_fadr_ptr rfl) ?_
      refine ax_q (q_load1_ptr rfl rfl rfl) ?_
      refine ax_q (q_ibin rfl rfl rfl) ?_
      exact ax_nil ⟨rfl, by repeat (first | exact trivial | refine ⟨rfl, ?_⟩ | refine ⟨?_, ?_⟩)⟩
     refine ax_q (q_mov rfl) ?_
     apply ax_and rfl rfl
     ·
      intro g
      have g := (fun h => And.intro ((fun h => And.intro (id (and_T h).1) (dT (and_T h).2)) (and_T h).1) (dT (and_T h).2)) g
      refine ax_q (q_fadr_ptr rfl) ?_
      refine ax_q (q_ldN rfl rfl rfl) ?_
      refine ax_q (q_build rfl) ?_
      first | refine ax_q (GValue.q_eqs rfl rfl) ?_ | refine ax_q (q_eqs rfl rfl rfl) ?_
      exact ax_nil ⟨rfl, by repeat (first | exact trivial | refine ⟨rfl, ?_⟩ | refine ⟨?_, ?_⟩)⟩
     refine ax_q (q_mov rfl) ?_
     refine ax_nil ?_
     refine cx_keep rfl rfl ?_
     refine cx_seq ?_
     refine cx_seq ?_
     refine cx_ops ?_
     refine ax_q (q_mov rfl) ?_
     refine ax_q (q_not rfl) ?_
     refine ax_nil ?_
     refine cx_keep rfl rfl ?_
     refine cx_cond rfl (fun h5 => ?_) (fun h5 => ?_)
     ·
      have h5 : (okD S ns[k]).1 = false := by rw [ho] <;> exact bT h5
      refine cx_seq ?_
      refine cx_ops ?_
      refine ax_q (q_mov rfl) ?_
      refine ax_nil ?_
      refine cx_keep rfl rfl ?_
      refine cx_ret (ret0 rfl rfl ?_)
      exact ⟨by rw [depthF_none (k := k + 1) (by omega) (by rw [scan_next h0x hs, stepD_f h5])]; rfl, rfl⟩
     ·
      have h5 : (okD S ns[k]).1 = true := by rw [ho] <;> exact bF h5
      have hs2 := scan_next h0x hs
      rw [stepD_t h5, ho] at hs2
      rw [ho] at hlw hor
      dsimp only at hs2 hlw hor
      refine cx_skip ?_
      refine cx_keep rfl rfl ?_
      refine cx_ops ?_
      refine ax_q (q_load1_ptr rfl rfl rfl) ?_
      refine ax_q (q_mov rfl) ?_
      refine ax_q (q_mov rfl) ?_
      refine ax_q (q_add rfl rfl (by omega)) ?_
      refine ax_q (q_build rfl) ?_
      refine ax_e (e_bslice rfl (by decide) rfl rfl) ?_
      refine ax_e (e_appn rfl rfl (stk_le hor) rfl (src_osl rfl (by simp)) (.inl (by decide)) (hbnd (by omega) (by simp) (by decide)) (stk_len hs2) (stk_app hs2 hor)) ?_
      refine ax_e (e_st rfl rfl rfl rfl rfl rfl rfl) ?_
      refine ax_nil ?_
      refine cx_keep rfl rfl ?_
      refine cx_ops ?_
      refine ax_qe (r' := int ((k + 1 : Nat) : Int)) (q_ibin rfl rfl rfl) (by rw [wi (by omega) (by omega)]; rfl) ?_
      refine ax_q (q_mov rfl) ?_
      refine ax_nil ?_
      exact ⟨_, (k + 1, _, _), by simp only; omega, ⟨by simp only; omega, rfl, hs2, stk_inv hs2, by simp only [List.length_append, List.length_singleton]; omega, by rw [show ((k + 1 : Nat) : Int) = (k : Int) + 1 from by omega]; exact lowS_app hlw.2.2.1 ⟨hlw.1, hlw.2.1⟩⟩, by repeat (first | exact trivial | refine ⟨rfl, ?_⟩ | refine ⟨?_, ?_⟩)⟩
    ·
     skip
     refine cx_seq ?_
     refine cx_ops ?_
     refine ax_q (q_fadr_ptr rfl) ?_
     refine ax_q (q_load1_ptr rfl rfl rfl) ?_
     first | refine ax_call rfl (vc_pure0 (c_isBinary  ) hP rfl rfl ?_) | refine ax_call rfl (vc_lend0 (c_isBinary  ) hP (by repeat (first | exact lal_id _ rfl | exact LAL.nil | refine LAL.cons ?_ ?_ | exact la_id _ rfl | exact LA.lend (lend_whole rfl (by first | (simp; done) | (rw [List.length_map]; rfl))) | refine LA.agg ?_ | refine LA.fn ?_ | refine LA.lend ?_ | exact Lend.d _ | exact Lend.zs _ | exact lend_whole rfl (by first | (simp; done) | (rw [List.length_map]; rfl)) | refine Lend.ptr rfl ?_ | refine Lend.fn ?_ | exact LendL.nil | refine LendL.cons ?_ ?_)) rfl rfl ?_)
     refine ax_q (q_mov rfl) ?_
     refine ax_nil ?_
     refine cx_keep rfl rfl ?_
     refine cx_cond rfl (fun h4 => ?_) (fun h4 => ?_)
     ·
      skip
      have ho := okD_4 (S := S) h1 h2 h3 h4
      refine cx_seq ?_
      refine cx_ops ?_
      refine ax_q (q_mov rfl) ?_
      refine ax_q (q_fadr_ptr rfl) ?_
      refine ax_q (q_load1_ptr rfl rfl rfl) ?_
      refine ax_callv rfl (by rw [hP]; kernel_rfl) rfl (vcall_own (c_depthOf1 (S := S) (rs := rs) (a := ns[k].B) ?_ ?_) hP hmv false (fun e => bif Nat.beq e 1000 then 3 else 13) [1000, 1001] ⟨rfl, rfl, rfl, rfl, ⟨rfl, rfl, trivial⟩, rfl, rfl, rfl⟩ (.pass rfl rfl (.pass rfl rfl .nil)) ?_)
      ·
       omega
      ·
       exact hrs
      rintro r h ⟨rfl, rfl⟩
      refine ⟨fun e => bif Nat.beq e 1000 then 3 else 13, [], ⟨rfl, rfl, rfl, rfl, mem2 rfl rfl, rfl, rfl, fun h => absurd h Bool.false_ne_true⟩, ?_⟩
      refine ax_q (q_mov rfl) ?_
      refine ax_q (q_ext rfl rfl) ?_
      refine ax_q (q_ext rfl rfl) ?_
      refine ax_q (q_mov rfl) ?_
      refine ax_q (q_mov rfl) ?_
      refine ax_nil ?_
      refine cx_keep rfl rfl ?_
      refine cx_seq ?_
      refine cx_ops ?_
      refine ax_q (q_mov rfl) ?_
      refine ax_q (q_fadr_ptr rfl) ?_
      refine ax_q (q_load1_ptr rfl rfl rfl) ?_
      have hpl := @popF_len S ns[k].B
      refine ax_callv rfl (by rw [hP]; kernel_rfl) rfl (vcall_own (c_depthOf1 (S := (popF S ns[k].B).2.2) (rs := rs) (a := ns[k].A) ?_ ?_) hP hmv false (fun e => bif Nat.beq e 1000 then 3 else 13) [1000, 1001] ⟨rfl, rfl, rfl, rfl, ⟨rfl, rfl, trivial⟩, rfl, rfl, rfl⟩ (.pass rfl rfl (.pass rfl rfl .nil)) ?_)
      ·
       omega
      ·
       exact popF_rs hrs
      rintro r h ⟨rfl, rfl⟩
      refine ⟨fun e => bif Nat.beq e 1000 then 3 else 13, [], ⟨rfl, rfl, rfl, rfl, mem2 rfl rfl, rfl, rfl, fun h => absurd h Bool.false_ne_true⟩, ?_⟩
      refine ax_q (q_mov rfl) ?_
      refine ax_q (q_ext rfl rfl) ?_
      refine ax_q (q_ext rfl rfl) ?_
      refine ax_q (q_mov rfl) ?_
      refine ax_q (q_mov rfl) ?_
      refine ax_nil ?_
      refine cx_keep rfl rfl ?_
      refine cx_draw ?_
      refine ax_q (q_mov rfl) ?_
      refine ax_q (q_mov rfl) ?_
      refine ax_qe (r' := int (mxI (popF (popF S ns[k].B).2.2 ns[k].A).1 (popF S ns[k].B).1)) (q_mx rfl rfl) (rfl) ?_
      refine ax_q (q_mov rfl) ?_
      refine ax_q (q_mov rfl) ?_
      apply ax_and rfl rfl
      ·
       intro g
       refine ax_q (q_mov rfl) ?_
       exact ax_nil ⟨rfl, by repeat (first | exact trivial | refine ⟨rfl, ?_⟩ | refine ⟨?_, ?_⟩)⟩
      refine ax_q (q_mov rfl) ?_
      apply ax_and rfl rfl
      ·
       intro g
       have g := (fun h => And.intro (id (and_T h).1) (id (and_T h).2)) g
       refine ax_q (q_fadr_ptr rfl) ?_
       refine ax_q (q_load1_ptr rfl rfl rfl) ?_
       refine ax_q (q_ibin rfl rfl rfl) ?_
       exact ax_nil ⟨rfl, by repeat (first | exact trivial | refine ⟨rfl, ?_⟩ | refine ⟨?_, ?_⟩)⟩
      refine ax_q (q_mov rfl) ?_
      apply ax_and rfl rfl
      ·
       intro g
       have g := (fun h => And.intro ((fun h => And.intro (id (and_T h).1) (id (and_T h).2)) (and_T h).1) (dT (and_T h).2)) g
       refine ax_q (q_fadr_ptr rfl) ?_
       refine ax_q (q_ldN rfl rfl rfl) ?_
       refine ax_q (q_build rfl) ?_
       first | refine ax_q (GValue.q_eqs rfl rfl) ?_ | refine ax_q (q_eqs rfl rfl rfl) ?_
       exact ax_nil ⟨rfl, by repeat (first | exact trivial | refine ⟨rfl, ?_⟩ | refine ⟨?_, ?_⟩)⟩
      refine ax_q (q_mov rfl) ?_
      refine ax_q (q_mov rfl) ?_
      refine ax_nil ?_
      refine cx_keep rfl rfl ?_
      refine cx_seq ?_
      refine cx_seq ?_
      refine cx_ops ?_
      refine ax_q (q_mov rfl) ?_
      refine ax_q (q_not rfl) ?_
      refine ax_nil ?_
      refine cx_keep rfl rfl ?_
      refine cx_cond rfl (fun h5 => ?_) (fun h5 => ?_)
      ·
       have h5 : (okD S ns[k]).1 = false := by rw [ho] <;> exact bT h5
       refine cx_seq ?_
       refine cx_ops ?_
       refine ax_q (q_mov rfl) ?_
       refine ax_nil ?_
       refine cx_keep rfl rfl ?_
       refine cx_ret (ret0 rfl rfl ?_)
       exact ⟨by rw [depthF_none (k := k + 1) (by omega) (by rw [scan_next h0x hs, stepD_f h5])]; rfl, rfl⟩
      ·
       have h5 : (okD S ns[k]).1 = true := by rw [ho] <;> exact bF h5
       have hs2 := scan_next h0x hs
       rw [stepD_t h5, ho] at hs2
       rw [ho] at hlw hor
       dsimp only at hs2 hlw hor
       refine cx_skip ?_
       refine cx_keep rfl rfl ?_
       refine cx_ops ?_
       refine ax_q (q_load1_ptr rfl rfl rfl) ?_
       refine ax_q (q_mov rfl) ?_
       refine ax_q (q_mov rfl) ?_
       refine ax_q (q_add rfl rfl (by omega)) ?_
       refine ax_q (q_build rfl) ?_
       refine ax_e (e_bslice rfl (by decide) rfl rfl) ?_
       refine ax_e (e_appn rfl rfl (stk_le hor) rfl (src_osl rfl (by simp)) (.inl (by decide)) (hbnd (by omega) (by simp) (by decide)) (stk_len hs2) (stk_app hs2 hor)) ?_
       refine ax_e (e_st rfl rfl rfl rfl rfl rfl rfl) ?_
       refine ax_nil ?_
       refine cx_keep rfl rfl ?_
       refine cx_ops ?_
       refine ax_qe (r' := int ((k + 1 : Nat) : Int)) (q_ibin rfl rfl rfl) (by rw [wi (by omega) (by omega)]; rfl) ?_
       refine ax_q (q_mov rfl) ?_
       refine ax_nil ?_
       exact ⟨_, (k + 1, _, _), by simp only; omega, ⟨by simp only; omega, rfl, hs2, stk_inv hs2, by simp only [List.length_append, List.length_singleton]; omega, by rw [show ((k + 1 : Nat) : Int) = (k : Int) + 1 from by omega]; exact lowS_app hlw.2.2.1 ⟨hlw.1, hlw.2.1⟩⟩, by repeat (first | exact trivial | refine ⟨rfl, ?_⟩ | refine ⟨?_, ?_⟩)⟩
     ·
      skip
      have ho := okD_5 (S := S) h1 h2 h3 h4
      refine cx_ops ?_
      refine ax_q (q_mov rfl) ?_
      refine ax_nil ?_
      refine cx_keep rfl rfl ?_
      refine cx_seq ?_
      refine cx_seq ?_
      refine cx_ops ?_
      refine ax_q (q_mov rfl) ?_
      refine ax_q (q_not rfl) ?_
      refine ax_nil ?_
      refine cx_keep rfl rfl ?_
      refine cx_cond rfl (fun h5 => ?_) (fun h5 => ?_)
      ·
       have h5 : (okD S ns[k]).1 = false := by rw [ho] <;> exact bT h5
       refine cx_seq ?_
       refine cx_ops ?_
       refine ax_q (q_mov rfl) ?_
       refine ax_nil ?_
       refine cx_keep rfl rfl ?_
       refine cx_ret (ret0 rfl rfl ?_)
       exact ⟨by rw [depthF_none (k := k + 1) (by omega) (by rw [scan_next h0x hs, stepD_f h5])]; rfl, rfl⟩
      ·
       have h5 : (okD S ns[k]).1 = true := by rw [ho] <;> exact bF h5
       have hs2 := scan_next h0x hs
       rw [stepD_t h5, ho] at hs2
       rw [ho] at hlw hor
       dsimp only at hs2 hlw hor
       refine cx_skip ?_
       refine cx_keep rfl rfl ?_
       refine cx_ops ?_
       refine ax_q (q_load1_ptr rfl rfl rfl) ?_
       refine ax_q (q_mov rfl) ?_
       refine ax_q (q_mov rfl) ?_
       refine ax_q (q_add rfl rfl (by omega)) ?_
       refine ax_q (q_build rfl) ?_
       refine ax_e (e_bslice rfl (by decide) rfl rfl) ?_
       refine ax_e (e_appn rfl rfl (stk_le hor) rfl (src_osl rfl (by simp)) (.inl (by decide)) (hbnd (by omega) (by simp) (by decide)) (stk_len hs2) (stk_app hs2 hor)) ?_
       refine ax_e (e_st rfl rfl rfl rfl rfl rfl rfl) ?_
       refine ax_nil ?_
       refine cx_keep rfl rfl ?_
       refine cx_ops ?_
       refine ax_qe (r' := int ((k + 1 : Nat) : Int)) (q_ibin rfl rfl rfl) (by rw [wi (by omega) (by omega)]; rfl) ?_
       refine ax_q (q_mov rfl) ?_
       refine ax_nil ?_
       exact ⟨_, (k + 1, _, _), by simp only; omega, ⟨by simp only; omega, rfl, hs2, stk_inv hs2, by simp only [List.length_append, List.length_singleton]; omega, by rw [show ((k + 1 : Nat) : Int) = (k : Int) + 1 from by omega]; exact lowS_app hlw.2.2.1 ⟨hlw.1, hlw.2.1⟩⟩, by repeat (first | exact trivial | refine ⟨rfl, ?_⟩ | refine ⟨?_, ?_⟩)⟩
 ·
  have h0 := dF h0
  have h0x : k = ns.length := by omega
  subst h0x
  refine cx_exit rfl ?_
  refine cx_keep rfl rfl ?_
  refine cx_seq ?_
  refine cx_seq ?_
  refine cx_ops ?_
  refine ax_q (q_load1_ptr rfl rfl rfl) ?_
  first | refine ax_q (q_lenS_map rfl) ?_ | refine ax_q (q_lenS_osl rfl) ?_ | refine ax_q (q_lenS_zs rfl) ?_ | refine ax_q (q_lenS rfl) ?_
  refine ax_q (q_ibin rfl rfl rfl) ?_
  refine ax_nil ?_
  refine cx_keep rfl rfl ?_
  refine cx_cond rfl (fun h6 => ?_) (fun h6 => ?_)
  ·
   have h6 := nT h6
   refine cx_seq ?_
   refine cx_ops ?_
   refine ax_q (q_mov rfl) ?_
   refine ax_nil ?_
   refine cx_keep rfl rfl ?_
   refine cx_ret (ret0 rfl rfl ?_)
   exact ⟨by rw [depthF_no hs h6]; rfl, rfl⟩
  ·
   have h6 := nF h6
   refine cx_skip ?_
   refine cx_keep rfl rfl ?_
   refine cx_seq ?_
   refine cx_ops ?_
   refine ax_q (q_load1_ptr rfl rfl rfl) ?_
   refine ax_q (q_ixoI rfl rfl (by omega) (by omega)) ?_
   first | refine ax_q (q_fadr_ptr rfl) ?_ | refine ax_q (q_fadr_rptr rfl) ?_ | refine ax_q (q_fadr_ip rfl) ?_
   refine ax_q (q_load1_rptr (r := prow (S.getD 0 (0, 0))) rfl rfl (row0 hrs h6) rfl) ?_
   refine ax_q (q_mov rfl) ?_
   refine ax_nil ?_
   refine cx_keep rfl rfl ?_
   refine cx_ret (ret0 rfl rfl ?_)
   exact ⟨by rw [depthF_yes hs h6]; rfl, rfl⟩


/- loop.example/g00332/impl.ExprOK -/
def k_c_ExprOK : XCode :=
 .seq (.ops [.op (some 1) (.box (.t 0)),
   .op (some 2) (.mov (.k (.bool false)))])
 (.keep [1] (.seq (.ops [.op (some 3) (.fadr (.t 1) 0),
   .op (some 4) (.load1 (.t 3)),
   .op (some 5) (.lenS (.t 4)),
   .call (some 6) 54 [.t 5, .k (.int .i64 1), .k (.int .i64 40)],
   .op (some 7) (.mov (.t 6)),
   .andor 12 true 4 7 [.op (some 8) (.fadr (.t 1) 0), .op (some 9) (.load1 (.t 8)), .call (some 10) 76 [.t 9], .call (some 11) 54 [.t 10, .k (.int .i64 1), .k (.int .i64 12)]] (.t 11),
   .op (some 2) (.mov (.t 12))])
 (.keep [2] (.ret))))
theorem k_c_ExprOK_fits : fitsF Try.prog 50 ⟨13, k_c_ExprOK, [.t 2]⟩ = true := by kernel_rfl
theorem c_ExprOK {e : GExpr} (hw : e.Nodes.length ≤ 1048576) (hv : ∀ x ∈ e.Nodes, x.V.T.length ≤ 1048576) : Con Try.prog noMv 50 [e.av] [] (fun r h => r = bool (exprOK e) ∧ h = []) := by
 refine con_of2 k_c_ExprOK_fits rfl fun C hP hmv => ?_
 unfold k_c_ExprOK
 refine cx_seq ?_
 refine cx_ops ?_
 refine ax_e (e_box rfl rfl (by decide) rfl rfl rfl) ?_
 refine ax_q (q_mov rfl) ?_
 refine ax_nil ?_
 refine cx_keep rfl rfl ?_
 refine cx_seq ?_
 refine cx_ops ?_
 refine ax_q (q_fadr_ptr rfl) ?_
 refine ax_q (q_load1_ptr rfl rfl rfl) ?_
 first | refine ax_q (q_lenS_map rfl) ?_ | refine ax_q (q_lenS_osl rfl) ?_ | refine ax_q (q_lenS_zs rfl) ?_ | refine ax_q (q_lenS rfl) ?_
 first | refine ax_call rfl (vc_pure0 (c_inRange  ) hP rfl rfl ?_) | refine ax_call rfl (vc_lend0 (c_inRange  ) hP (by repeat (first | exact lal_id _ rfl | exact LAL.nil | refine LAL.cons ?_ ?_ | exact la_id _ rfl | exact LA.lend (lend_whole rfl (by first | (simp; done) | (rw [List.length_map]; rfl))) | refine LA.agg ?_ | refine LA.fn ?_ | refine LA.lend ?_ | exact Lend.d _ | exact Lend.zs _ | exact lend_whole rfl (by first | (simp; done) | (rw [List.length_map]; rfl)) | refine Lend.ptr rfl ?_ | refine Lend.fn ?_ | exact LendL.nil | refine LendL.cons ?_ ?_)) rfl rfl ?_)
 refine ax_q (q_mov rfl) ?_
 apply ax_and rfl rfl
 ·
  intro g
  refine ax_q (q_fadr_ptr rfl) ?_
  refine ax_q (q_load1_ptr rfl rfl rfl) ?_
  first | refine ax_call rfl (vc_pure0 (c_depthOf (ns := e.Nodes) ?_ ?_) hP rfl rfl ?_) | refine ax_call rfl (vc_lend0 (c_depthOf (ns := e.Nodes) ?_ ?_) hP (by repeat (first | exact lal_id _ rfl | exact LAL.nil | refine LAL.cons ?_ ?_ | exact la_id _ rfl | exact LA.lend (lend_whole rfl (by first | (simp; done) | (rw [List.length_map]; rfl))) | refine LA.agg ?_ | refine LA.fn ?_ | refine LA.lend ?_ | exact Lend.d _ | exact Lend.zs _ | exact lend_whole rfl (by first | (simp; done) | (rw [List.length_map]; rfl)) | refine Lend.ptr rfl ?_ | refine Lend.fn ?_ | exact LendL.nil | refine LendL.cons ?_ ?_)) rfl rfl ?_)
  ·
   first | assumption | omega | (simp; done) | (simp; omega)
  ·
   first | assumption | omega | (simp; done) | (simp; omega)
  first | refine ax_call rfl (vc_pure0 (c_inRange  ) hP rfl rfl ?_) | refine ax_call rfl (vc_lend0 (c_inRange  ) hP (by repeat (first | exact lal_id _ rfl | exact LAL.nil | refine LAL.cons ?_ ?_ | exact la_id _ rfl | exact LA.lend (lend_whole rfl (by first | (simp; done) | (rw [List.length_map]; rfl))) | refine LA.agg ?_ | refine LA.fn ?_ | refine LA.lend ?_ | exact Lend.d _ | exact Lend.zs _ | exact lend_whole rfl (by first | (simp; done) | (rw [List.length_map]; rfl)) | refine Lend.ptr rfl ?_ | refine Lend.fn ?_ | exact LendL.nil | refine LendL.cons ?_ ?_)) rfl rfl ?_)
  exact ax_nil ⟨rfl, by repeat (first | exact trivial | refine ⟨rfl, ?_⟩ | refine ⟨?_, ?_⟩)⟩
 refine ax_q (q_mov rfl) ?_
 refine ax_nil ?_
 refine cx_keep rfl rfl ?_
 refine cx_ret (ret0 rfl rfl ?_)
 exact ⟨by rw [← exprOK_i]; rfl, rfl⟩


/- loop.example/g00332/impl.compile -/
def k_c_compile : XCode :=
 .seq (.ops [.op (some 4) (.box (.t 1)),
   .op (some 6) (.mov (.k (.nils 5)))])
 (.keep [0, 2, 4] (.seq (.ops [.op (some 9) (.fadr (.t 4) 0),
   .op (some 10) (.load1 (.t 9)),
   .op (some 11) (.mov (.t 2)),
   .op (some 12) (.iadr 7 (.t 10) (.t 11)),
   .op (some 13) (.loadN 7 (.t 12)),
   .op (some 7) (.alloc [.int .i64 0, .int .i64 0, .int .i64 0, .int .i64 0, .int .i64 0, .int .i64 0, .str []]),
   .op none (.store 7 (.t 7) (.t 13))])
 (.keep [0, 4, 7] (.seq (.seq (.ops [.op (some 14) (.fadr (.t 7) 0),
   .op (some 15) (.load1 (.t 14))])
  (.keep [0, 4, 7, 15] (.block 0 (.seq (.ops [.op (some 17) (.bin .eql (.t 15) (.k (.int .i64 1))),
    .op (some 16) (.mov (.t 17))])
  (.keep [0, 4, 7, 15, 16] (.cond (.t 16)
   (.seq (.ops [.op (some 18) (.mov (.t 0)),
     .op (some 19) (.fadr (.t 7) 4),
     .op (some 20) (.loadN 3 (.t 19)),
     .op (some 21) (.build [.int .i64 0, .int .i64 0, .int .i64 0, .int .i64 0, .str []] [(0, 1, .k (.int .i64 1)), (2, 3, .t 20)]),
     .op (some 22) (.bslice 5 [.t 21]),
     .op (some 23) (.app 5 48 [.int .i64 0, .int .i64 0, .int .i64 0, .int .i64 0, .str []] (.t 18) (.t 22)),
     .op (some 6) (.mov (.t 23))])
   (.keep [6] (.ret)))
   (.seq (.ops [.op (some 25) (.bin .eql (.t 15) (.k (.int .i64 2))),
     .op (some 24) (.mov (.t 25))])
   (.keep [0, 4, 7, 24] (.cond (.t 24)
    (.seq (.ops [.op (some 26) (.mov (.t 0)),
      .op (some 27) (.fadr (.t 7) 3),
      .op (some 28) (.load1 (.t 27)),
      .op (some 29) (.build [.int .i64 0, .int .i64 0, .int .i64 0, .int .i64 0, .str []] [(0, 1, .k (.int .i64 2)), (1, 1, .t 28)]),
      .op (some 30) (.bslice 5 [.t 29]),
      .op (some 31) (.app 5 48 [.int .i64 0, .int .i64 0, .int .i64 0, .int .i64 0, .str []] (.t 26) (.t 30)),
      .op (some 6) (.mov (.t 31))])
    (.keep [6] (.ret)))
    (.skip))))))))))
 (.keep [0, 4, 7] (.seq (.ops [.op (some 32) (.mov (.t 0)),
   .op (some 33) (.loadN 1 (.t 4)),
   .op (some 34) (.fadr (.t 7) 1),
   .op (some 35) (.load1 (.t 34)),
   .call (some 36) 59 [.t 32, .t 33, .t 35],
   .op (some 0) (.mov (.t 36))])
 (.keep [0, 4, 7] (.seq (.seq (.ops [.op (some 37) (.fadr (.t 7) 0),
   .op (some 38) (.load1 (.t 37)),
   .call (some 39) 82 [.t 38]])
  (.keep [0, 4, 7, 39] (.cond (.t 39)
  (.seq (.ops [.op (some 40) (.mov (.t 0)),
    .op (some 41) (.fadr (.t 7) 0),
    .op (some 42) (.load1 (.t 41)),
    .op (some 43) (.build [.int .i64 0, .int .i64 0, .int .i64 0, .int .i64 0, .str []] [(0, 1, .k (.int .i64 3)), (1, 1, .t 42)]),
    .op (some 44) (.bslice 5 [.t 43]),
    .op (some 45) (.app 5 48 [.int .i64 0, .int .i64 0, .int .i64 0, .int .i64 0, .str []] (.t 40) (.t 44)),
    .op (some 6) (.mov (.t 45))])
   (.keep [6] (.ret)))
  (.skip))))
 (.keep [0, 4, 7] (.seq (.ops [.op (some 46) (.mov (.t 0)),
   .op (some 47) (.lenS (.t 46)),
   .op (some 8) (.mov (.t 47))])
 (.keep [0, 4, 7, 8] (.seq (.seq (.ops [.op (some 48) (.fadr (.t 7) 0),
   .op (some 49) (.load1 (.t 48))])
  (.keep [0, 4, 7, 8, 49] (.block 1 (.seq (.ops [.op (some 51) (.bin .eql (.t 49) (.k (.int .i64 12))),
    .op (some 50) (.mov (.t 51))])
  (.keep [0, 4, 7, 8, 49, 50] (.cond (.t 50)
   (.ops [.op (some 52) (.mov (.t 0)),
    .op (some 53) (.build [.int .i64 0, .int .i64 0, .int .i64 0, .int .i64 0, .str []] [(0, 1, .k (.int .i64 5))]),
    .op (some 54) (.bslice 5 [.t 53]),
    .op (some 55) (.app 5 48 [.int .i64 0, .int .i64 0, .int .i64 0, .int .i64 0, .str []] (.t 52) (.t 54)),
    .op (some 0) (.mov (.t 55))])
   (.seq (.ops [.op (some 57) (.bin .eql (.t 49) (.k (.int .i64 13))),
     .op (some 56) (.mov (.t 57))])
   (.keep [0, 4, 7, 8, 56] (.cond (.t 56)
    (.ops [.op (some 58) (.mov (.t 0)),
     .op (some 59) (.build [.int .i64 0, .int .i64 0, .int .i64 0, .int .i64 0, .str []] [(0, 1, .k (.int .i64 6))]),
     .op (some 60) (.bslice 5 [.t 59]),
     .op (some 61) (.app 5 48 [.int .i64 0, .int .i64 0, .int .i64 0, .int .i64 0, .str []] (.t 58) (.t 60)),
     .op (some 0) (.mov (.t 61))])
    (.skip))))))))))
 (.keep [0, 4, 7, 8] (.seq (.drawE [[], [], [], [2], [0, 1, 2, 3], [], [5], [5, 6], [5, 6, 7], [0, 1, 2, 3, 4, 5, 6, 7, 8], [0, 1, 2, 3, 4, 5, 6, 7, 8, 9]] [.op (some 62) (.mov (.t 0)),
   .op (some 63) (.loadN 1 (.t 4)),
   .op (some 64) (.fadr (.t 7) 2),
   .op (some 65) (.load1 (.t 64)),
   .call (some 66) 59 [.t 62, .t 63, .t 65],
   .op (some 67) (.fadr (.t 7) 0),
   .op (some 68) (.load1 (.t 67)),
   .op (some 69) (.build [.int .i64 0, .int .i64 0, .int .i64 0, .int .i64 0, .str []] [(0, 1, .k (.int .i64 4)), (1, 1, .t 68)]),
   .op (some 70) (.bslice 5 [.t 69])]
  [.op (some 71) (.app 5 48 [.int .i64 0, .int .i64 0, .int .i64 0, .int .i64 0, .str []] (.t 66) (.t 70)),
   .op (some 0) (.mov (.t 71))])
 (.keep [0, 7, 8] (.seq (.seq (.ops [.op (some 72) (.fadr (.t 7) 0),
   .op (some 73) (.load1 (.t 72)),
   .op (some 74) (.bin .eql (.t 73) (.k (.int .i64 12))),
   .op (some 75) (.mov (.t 74)),
   .andor 79 false 3 75 [.op (some 76) (.fadr (.t 7) 0), .op (some 77) (.load1 (.t 76)), .op (some 78) (.bin .eql (.t 77) (.k (.int .i64 13)))] (.t 78)])
  (.keep [0, 8, 79] (.cond (.t 79)
  (.ops [.op (some 80) (.mov (.t 0)),
    .op (some 81) (.mov (.t 8)),
    .op (some 82) (.mov (.t 0)),
    .op (some 83) (.lenS (.t 82)),
    .op (some 84) (.iadr 5 (.t 80) (.t 81)),
    .op (some 85) (.fadr (.t 84) 1),
    .op none (.store 1 (.t 85) (.t 83))])
  (.skip))))
 (.keep [0] (.seq (.ops [.op (some 86) (.mov (.t 0)),
   .op (some 6) (.mov (.t 86))])
 (.keep [6] (.ret))))))))))))))))))))
theorem k_c_compile_fits : fitsF Try.prog 59 ⟨87, k_c_compile, [.t 6]⟩ = true := by kernel_rfl
theorem c_compile {e : GExpr} {f : Nat} {i : Int} {out : List GIns} (hi : 0 ≤ i) (hf : i < f) (hl : i < e.Nodes.length) (ht : (T e.Nodes i).2.2 = true) (hb : (out.length : Int) + 2 * (i - (T e.Nodes i).1 + 1) ≤ 1000000) (hw : e.Nodes.length ≤ 1048576) : Con Try.prog (fun e => Nat.beq e 1000) 59 [.osl 1000 5 0 out.length, e.av, int i] [(1000, .rows 5 (out.map GIns.row))] (fun r h => r = .osl 1000 5 0 (putE e.Nodes f i out).length ∧ h = [(1000, .rows 5 ((putE e.Nodes f i out).map GIns.row))]) := by
 induction f generalizing i out with
 | zero => exact absurd hf (by omega)
 | succ f ih =>
  refine con_of2 k_c_compile_fits rfl fun C hP hmv => ?_
  unfold k_c_compile
  obtain ⟨j, rfl⟩ : ∃ j : Nat, i = (j : Int) := ⟨i.toNat, by omega⟩
  have hj : j < e.Nodes.length := by omega
  have hTb := @T_b e.Nodes j
  refine cx_seq ?_
  refine cx_ops ?_
  refine ax_e (e_box rfl rfl (by decide) rfl rfl rfl) ?_
  refine ax_q (q_mov rfl) ?_
  refine ax_nil ?_
  refine cx_keep rfl rfl ?_
  refine cx_seq ?_
  refine cx_ops ?_
  refine ax_q (q_fadr_ptr rfl) ?_
  refine ax_q (q_load1_ptr rfl rfl rfl) ?_
  refine ax_q (q_mov rfl) ?_
  refine ax_q (q_ix rfl rfl (mapAt hj)) ?_
  first | refine ax_q (q_ldN rfl rfl rfl) ?_ | refine ax_q (q_loadN_ip rfl (Nat.le_refl _)) ?_ | refine ax_q (q_loadN_ip rfl (by decide)) ?_ | refine ax_q (q_loadN_rptr rfl rfl (by assumption) (by decide)) ?_ | refine ax_q (q_loadN_rptr rfl rfl (mapAt (by first | assumption | omega)) (by decide)) ?_
  refine ax_e (e_alloc (by decide) rfl rfl) ?_
  refine ax_e (e_st rfl rfl rfl rfl rfl rfl rfl) ?_
  refine ax_nil ?_
  refine cx_keep rfl rfl ?_
  refine cx_seq ?_
  refine cx_seq ?_
  refine cx_ops ?_
  refine ax_q (q_fadr_ptr rfl) ?_
  refine ax_q (q_load1_ptr rfl rfl rfl) ?_
  refine ax_nil ?_
  refine cx_keep rfl rfl ?_
  refine cx_block ?_
  refine cx_seq ?_
  refine cx_ops ?_
  refine ax_q (q_ibin rfl rfl rfl) ?_
  refine ax_q (q_mov rfl) ?_
  refine ax_nil ?_
  refine cx_keep rfl rfl ?_
  refine cx_cond rfl (fun h0 => ?_) (fun h0 => ?_)
  ·
   have h0 := dT h0
   refine cx_seq ?_
   refine cx_ops ?_
   refine ax_q (q_mov rfl) ?_
   refine ax_q (q_fadr_ptr rfl) ?_
   refine ax_q (q_ldN rfl rfl rfl) ?_
   refine ax_q (q_build rfl) ?_
   refine ax_e (e_bslice rfl (by decide) rfl rfl) ?_
   refine ax_e (e_appn (n' := (out ++ [(⟨1, 0, e.Nodes[j].V⟩ : GIns)]).length) (rs' := (out ++ [(⟨1, 0, e.Nodes[j].V⟩ : GIns)]).map GIns.row) rfl rfl (by simp) rfl (src_osl rfl (by simp)) (.inr (by rw [hmv]; rfl)) (hbnd (by omega) (by simp) (by decide)) (by simp) (app1 rfl)) ?_
   refine ax_q (q_mov rfl) ?_
   refine ax_nil ?_
   refine cx_keep rfl rfl ?_
   refine cx_ret (retN id [1000] rfl rfl rfl rfl rfl ?_)
   rw [putE_1 hj h0]; exact ⟨rfl, rfl⟩
  ·
   have h0 := dF h0
   refine cx_seq ?_
   refine cx_ops ?_
   refine ax_q (q_ibin rfl rfl rfl) ?_
   refine ax_q (q_mov rfl) ?_
   refine ax_nil ?_
   refine cx_keep rfl rfl ?_
   refine cx_cond rfl (fun h1 => ?_) (fun h1 => ?_)
   ·
    have h1 := dT h1
    refine cx_seq ?_
    refine cx_ops ?_
    refine ax_q (q_mov rfl) ?_
    refine ax_q (q_fadr_ptr rfl) ?_
    refine ax_q (q_load1_ptr rfl rfl rfl) ?_
    refine ax_q (q_build rfl) ?_
    refine ax_e (e_bslice rfl (by decide) rfl rfl) ?_
    refine ax_e (e_appn (n' := (out ++ [(⟨2, e.Nodes[j].Column, .zero⟩ : GIns)]).length) (rs' := (out ++ [(⟨2, e.Nodes[j].Column, .zero⟩ : GIns)]).map GIns.row) rfl rfl (by simp) rfl (src_osl rfl (by simp)) (.inr (by rw [hmv]; rfl)) (hbnd (by omega) (by simp) (by decide)) (by simp) (app1 rfl)) ?_
    refine ax_q (q_mov rfl) ?_
    refine ax_nil ?_
    refine cx_keep rfl rfl ?_
    refine cx_ret (retN id [1000] rfl rfl rfl rfl rfl ?_)
    rw [putE_2 hj h0 h1]; exact ⟨rfl, rfl⟩
   ·
    have h1 := dF h1
    refine cx_skip ?_
    refine cx_keep rfl rfl ?_
    refine cx_seq ?_
    refine cx_ops ?_
    refine ax_q (q_mov rfl) ?_
    refine ax_q (q_ldN rfl rfl rfl) ?_
    refine ax_q (q_fadr_ptr rfl) ?_
    refine ax_q (q_load1_ptr rfl rfl rfl) ?_
    obtain ⟨⟨hA0, hA1, hAt, hAs⟩, hB⟩ := T_kids hj ht h0 h1
    have la := putE_lenI (ns := e.Nodes) (f := f) (out := out) hA0 (by omega) (by omega) hAt
    have hTa := @T_b e.Nodes e.Nodes[j].A
    refine ax_call rfl (vcall_own (ih (i := e.Nodes[j].A) (out := out) (by omega) (by omega) (by omega) hAt (by omega)) hP hmv false (fun _ => 1000) [1000] ⟨rfl, rfl, rfl, rfl, ⟨rfl, trivial⟩, rfl, rfl, rfl⟩ (.pass rfl rfl (.pass rfl rfl (.pass rfl rfl .nil))) ?_)
    rintro r h ⟨rfl, rfl⟩
    refine ⟨fun _ => 1000, [], ⟨rfl, rfl, rfl, rfl, mem1 rfl, rfl, rfl, fun h => absurd h Bool.false_ne_true⟩, ?_⟩
    refine ax_q (q_mov rfl) ?_
    refine ax_nil ?_
    refine cx_keep rfl rfl ?_
    refine cx_seq ?_
    refine cx_seq ?_
    refine cx_ops ?_
    refine ax_q (q_fadr_ptr rfl) ?_
    refine ax_q (q_load1_ptr rfl rfl rfl) ?_
    first | refine ax_call rfl (vc_pure0 (c_isUnary  ) hP rfl rfl ?_) | refine ax_call rfl (vc_lend0 (c_isUnary  ) hP (by repeat (first | exact lal_id _ rfl | exact LAL.nil | refine LAL.cons ?_ ?_ | exact la_id _ rfl | exact LA.lend (lend_whole rfl (by first | (simp; done) | (rw [List.length_map]; rfl))) | refine LA.agg ?_ | refine LA.fn ?_ | refine LA.lend ?_ | exact Lend.d _ | exact Lend.zs _ | exact lend_whole rfl (by first | (simp; done) | (rw [List.length_map]; rfl)) | refine Lend.ptr rfl ?_ | refine Lend.fn ?_ | exact LendL.nil | refine LendL.cons ?_ ?_)) rfl rfl ?_)
    refine ax_nil ?_
    refine cx_keep rfl rfl ?_
    refine cx_cond rfl (fun h2 => ?_) (fun h2 => ?_)
    ·
     skip
     have h2 : e.Nodes[j].Op ≤ 5 := (inR_iff.1 h2).2
     refine cx_seq ?_
     refine cx_ops ?_
     refine ax_q (q_mov rfl) ?_
     refine ax_q (q_fadr_ptr rfl) ?_
     refine ax_q (q_load1_ptr rfl rfl rfl) ?_
     refine ax_q (q_build rfl) ?_
     refine ax_e (e_bslice rfl (by decide) rfl rfl) ?_
     refine ax_e (e_appn (n' := ((putE e.Nodes f e.Nodes[j].A out) ++ [(⟨3, e.Nodes[j].Op, .zero⟩ : GIns)]).length) (rs' := ((putE e.Nodes f e.Nodes[j].A out) ++ [(⟨3, e.Nodes[j].Op, .zero⟩ : GIns)]).map GIns.row) rfl rfl (by simp) rfl (src_osl rfl (by simp)) (.inr (by rw [hmv]; rfl)) (hbnd (by omega) (by simp) (by decide)) (by simp) (app1 rfl)) ?_
     refine ax_q (q_mov rfl) ?_
     refine ax_nil ?_
     refine cx_keep rfl rfl ?_
     refine cx_ret (retN id [1000] rfl rfl rfl rfl rfl ?_)
     rw [putE_3 hj h0 h1 h2]; exact ⟨rfl, rfl⟩
    ·
     skip
     have h2 : ¬ e.Nodes[j].Op ≤ 5 := fun hh => by have := ((T_un hj ht h0 h1).1 hh).1; rw [h2] at this; cases this
     obtain ⟨hB0, hB1, hBt, hBs, hBe⟩ := hB h2
     refine cx_skip ?_
     refine cx_keep rfl rfl ?_
     refine cx_seq ?_
     refine cx_ops ?_
     refine ax_q (q_mov rfl) ?_
     first | refine ax_q (q_lenS_map rfl) ?_ | refine ax_q (q_lenS_osl rfl) ?_ | refine ax_q (q_lenS_zs rfl) ?_ | refine ax_q (q_lenS rfl) ?_
     refine ax_q (q_mov rfl) ?_
     refine ax_nil ?_
     refine cx_keep rfl rfl ?_
     refine cx_seq ?_
     refine cx_seq ?_
     refine cx_ops ?_
     refine ax_q (q_fadr_ptr rfl) ?_
     refine ax_q (q_load1_ptr rfl rfl rfl) ?_
     refine ax_nil ?_
     refine cx_keep rfl rfl ?_
     refine cx_block ?_
     refine cx_seq ?_
     refine cx_ops ?_
     refine ax_q (q_ibin rfl rfl rfl) ?_
     refine ax_q (q_mov rfl) ?_
     refine ax_nil ?_
     refine cx_keep rfl rfl ?_
     refine cx_cond rfl (fun h3 => ?_) (fun h3 => ?_)
     ·
      have h3 := dT h3
      have lb := putE_lenI (ns := e.Nodes) (f := f) (out := ((putE e.Nodes f e.Nodes[j].A out) ++ [(⟨5, 0, .zero⟩ : GIns)])) hB0 (by omega) (by omega) hBt
      rw [List.length_append, List.length_singleton] at lb
      refine cx_ops ?_
      refine ax_q (q_mov rfl) ?_
      refine ax_q (q_build rfl) ?_
      refine ax_e (e_bslice rfl (by decide) rfl rfl) ?_
      refine ax_e (e_appn (n' := ((putE e.Nodes f e.Nodes[j].A out) ++ [(⟨5, 0, .zero⟩ : GIns)]).length) (rs' := ((putE e.Nodes f e.Nodes[j].A out) ++ [(⟨5, 0, .zero⟩ : GIns)]).map GIns.row) rfl rfl (by simp) rfl (src_osl rfl (by simp)) (.inr (by rw [hmv]; rfl)) (hbnd (by omega) (by simp) (by decide)) (by simp) (app1 rfl)) ?_
      refine ax_q (q_mov rfl) ?_
      refine ax_nil ?_
      refine cx_keep rfl rfl ?_
      refine cx_seq ?_
      refine cx_drawL 4 66 (Nat.beq 1000) (nrA 1000) [] ([(1000, .rows 5 ((putE e.Nodes f e.Nodes[j].B ((putE e.Nodes f e.Nodes[j].A out) ++ [(⟨5, 0, .zero⟩ : GIns)])).map GIns.row))]) [[0], [4], [7], [64], [62, 63, 65], [7], [67], [68], [69]] [[], [], [], [], [1000], [1000], [1000], [1000], [1000]] rfl ?_
      first | refine ⟨_, .inr ⟨rfl, _, rfl, .inl rfl, loc_q (q_mov rfl)⟩, ?_⟩
      first | refine ⟨_, .inr ⟨rfl, _, rfl, .inl rfl, loc_q (q_ldN rfl rfl rfl)⟩, ?_⟩
      first | refine ⟨_, .inr ⟨rfl, _, rfl, .inl rfl, loc_q (q_fadr_ptr rfl)⟩, ?_⟩
      first | refine ⟨_, .inr ⟨rfl, _, rfl, .inl rfl, loc_q (q_load1_ptr rfl rfl rfl)⟩, ?_⟩
      refine ⟨⟨66, _, []⟩, .inl ⟨rfl, rfl, rfl, locl_callm (fun _ => 1000) [1000] (fun _ => 1000) [] rfl (ih (i := e.Nodes[j].B) (out := ((putE e.Nodes f e.Nodes[j].A out) ++ [(⟨5, 0, .zero⟩ : GIns)])) (by omega) (by omega) (by omega) hBt (by simp only [List.length_append, List.length_singleton]; omega)) hP hmv rfl rfl rfl rfl ⟨rfl, trivial⟩ rfl rfl rfl (.pass rfl rfl (.pass rfl rfl (.pass rfl rfl .nil))) rfl rfl rfl rfl (mem1 rfl) rfl⟩, ?_⟩
      first | refine ⟨_, .inr ⟨rfl, _, rfl, .inr ⟨rfl, rfl, .inr rfl, rfl, rfl⟩, loc_q (q_fadr_ptr rfl)⟩, ?_⟩
      first | refine ⟨_, .inr ⟨rfl, _, rfl, .inr ⟨rfl, rfl, .inr rfl, rfl, rfl⟩, loc_q (q_load1_ptr rfl rfl rfl)⟩, ?_⟩
      first | refine ⟨_, .inr ⟨rfl, _, rfl, .inr ⟨rfl, rfl, .inr rfl, rfl, rfl⟩, loc_q (q_build rfl)⟩, ?_⟩
      first | refine ⟨_, .inr ⟨rfl, _, rfl, .inr ⟨rfl, rfl, .inr rfl, rfl, rfl⟩, loc_bslice rfl⟩, ?_⟩
      refine ⟨rfl, ?_⟩
      refine ax_e (e_appn (n' := ((putE e.Nodes f e.Nodes[j].B ((putE e.Nodes f e.Nodes[j].A out) ++ [(⟨5, 0, .zero⟩ : GIns)])) ++ [(⟨4, e.Nodes[j].Op, .zero⟩ : GIns)]).length) (rs' := ((putE e.Nodes f e.Nodes[j].B ((putE e.Nodes f e.Nodes[j].A out) ++ [(⟨5, 0, .zero⟩ : GIns)])) ++ [(⟨4, e.Nodes[j].Op, .zero⟩ : GIns)]).map GIns.row) rfl rfl (by simp) rfl (src_osl rfl (by simp)) (.inr (by rw [hmv]; rfl)) (hbnd (by omega) (by simp) (by decide)) (by simp) (app1 rfl)) ?_
      refine ax_q (q_mov rfl) ?_
      refine ax_nil ?_
      refine cx_keep rfl rfl ?_
      refine cx_seq ?_
      refine cx_seq ?_
      refine cx_ops ?_
      refine ax_q (q_fadr_ptr rfl) ?_
      refine ax_q (q_load1_ptr rfl rfl rfl) ?_
      refine ax_q (q_ibin rfl rfl rfl) ?_
      refine ax_q (q_mov rfl) ?_
      apply ax_or rfl rfl
      ·
       intro g
       have g := dF g
       refine ax_q (q_fadr_ptr rfl) ?_
       refine ax_q (q_load1_ptr rfl rfl rfl) ?_
       refine ax_q (q_ibin rfl rfl rfl) ?_
       exact ax_nil ⟨rfl, by repeat (first | exact trivial | refine ⟨rfl, ?_⟩ | refine ⟨?_, ?_⟩)⟩
      refine ax_nil ?_
      refine cx_keep rfl rfl ?_
      refine cx_cond rfl (fun h5 => ?_) (fun h5 => ?_)
      ·
       have h5 := (fun h => (or_T h).imp dT dT) h5
       refine cx_ops ?_
       refine ax_q (q_mov rfl) ?_
       refine ax_q (q_mov rfl) ?_
       refine ax_q (q_mov rfl) ?_
       first | refine ax_q (q_lenS_map rfl) ?_ | refine ax_q (q_lenS_osl rfl) ?_ | refine ax_q (q_lenS_zs rfl) ?_ | refine ax_q (q_lenS rfl) ?_
       refine ax_q (q_ixo rfl rfl (by have := @putE_ge e.Nodes f ((putE e.Nodes f e.Nodes[j].A out) ++ [(⟨5, 0, .zero⟩ : GIns)]) e.Nodes[j].B; simp only [List.length_append, List.length_singleton] at this ⊢; omega)) ?_
       first | refine ax_q (q_fadr_ptr rfl) ?_ | refine ax_q (q_fadr_rptr rfl) ?_ | refine ax_q (q_fadr_ip rfl) ?_
       refine ax_e (e_str (q := GIns.row ⟨5, ((putE e.Nodes f e.Nodes[j].B ((putE e.Nodes f e.Nodes[j].A out) ++ [(⟨5, 0, .zero⟩ : GIns)])) ++ [(⟨4, e.Nodes[j].Op, .zero⟩ : GIns)]).length, .zero⟩) (row := GIns.row ⟨5, 0, .zero⟩) (rs' := (binC ((putE e.Nodes f e.Nodes[j].B ((putE e.Nodes f e.Nodes[j].A out) ++ [(⟨5, 0, .zero⟩ : GIns)])) ++ [(⟨4, e.Nodes[j].Op, .zero⟩ : GIns)]) (putE e.Nodes f e.Nodes[j].A out).length).map GIns.row) rfl rfl rfl rfl rfl rfl (by rw [List.getElem?_map, bin_at]; rfl) rfl rfl (bin_set bin_at)) ?_
       refine ax_nil ?_
       refine cx_keep rfl rfl ?_
       refine cx_seq ?_
       refine cx_ops ?_
       refine ax_q (q_mov rfl) ?_
       refine ax_q (q_mov rfl) ?_
       refine ax_nil ?_
       refine cx_keep rfl rfl ?_
       refine cx_ret (retN id [1000] rfl rfl rfl rfl rfl ?_)
       first | (rw [putE_4 (b := 5) hj h0 h1 h2 (by omega) (by rw [if_neg (by omega)]), binC_len]; exact ⟨rfl, rfl⟩) | (rw [putE_4 (b := 6) hj h0 h1 h2 (by omega) (by rw [if_pos (by omega)]), binC_len]; exact ⟨rfl, rfl⟩) | (rw [putE_5 hj h0 h1 h2 (by omega)]; exact ⟨rfl, rfl⟩)
      ·
       have h5 := (fun h => And.intro (dF (or_F h).1) (dF (or_F h).2)) h5
       exfalso; omega
     ·
      have h3 := dF h3
      refine cx_seq ?_
      refine cx_ops ?_
      refine ax_q (q_ibin rfl rfl rfl) ?_
      refine ax_q (q_mov rfl) ?_
      refine ax_nil ?_
      refine cx_keep rfl rfl ?_
      refine cx_cond rfl (fun h4 => ?_) (fun h4 => ?_)
      ·
       have h4 := dT h4
       have lb := putE_lenI (ns := e.Nodes) (f := f) (out := ((putE e.Nodes f e.Nodes[j].A out) ++ [(⟨6, 0, .zero⟩ : GIns)])) hB0 (by omega) (by omega) hBt
       rw [List.length_append, List.length_singleton] at lb
       refine cx_ops ?_
       refine ax_q (q_mov rfl) ?_
       refine ax_q (q_build rfl) ?_
       refine ax_e (e_bslice rfl (by decide) rfl rfl) ?_
       refine ax_e (e_appn (n' := ((putE e.Nodes f e.Nodes[j].A out) ++ [(⟨6, 0, .zero⟩ : GIns)]).length) (rs' := ((putE e.Nodes f e.Nodes[j].A out) ++ [(⟨6, 0, .zero⟩ : GIns)]).map GIns.row) rfl rfl (by simp) rfl (src_osl rfl (by simp)) (.inr (by rw [hmv]; rfl)) (hbnd (by omega) (by simp) (by decide)) (by simp) (app1 rfl)) ?_
       refine ax_q (q_mov rfl) ?_
       refine ax_nil ?_
       refine cx_keep rfl rfl ?_
       refine cx_seq ?_
       refine cx_drawL 4 66 (Nat.beq 1000) (nrA 1000) [] ([(1000, .rows 5 ((putE e.Nodes f e.Nodes[j].B ((putE e.Nodes f e.Nodes[j].A out) ++ [(⟨6, 0, .zero⟩ : GIns)])).map GIns.row))]) [[0], [4], [7], [64], [62, 63, 65], [7], [67], [68], [69]] [[], [], [], [], [1000], [1000], [1000], [1000], [1000]] rfl ?_
       first | refine ⟨_, .inr ⟨rfl, _, rfl, .inl rfl, loc_q (q_mov rfl)⟩, ?_⟩
       first | refine ⟨_, .inr ⟨rfl, _, rfl, .inl rfl, loc_q (q_ldN rfl rfl rfl)⟩, ?_⟩
       first | refine ⟨_, .inr ⟨rfl, _, rfl, .inl rfl, loc_q (q_fadr_ptr rfl)⟩, ?_⟩
       first | refine ⟨_, .inr ⟨rfl, _, rfl, .inl rfl, loc_q (q_load1_ptr rfl rfl rfl)⟩, ?_⟩
       refine ⟨⟨66, _, []⟩, .inl ⟨rfl, rfl, rfl, locl_callm (fun _ => 1000) [1000] (fun _ => 1000) [] rfl (ih (i := e.Nodes[j].B) (out := ((putE e.Nodes f e.Nodes[j].A out) ++ [(⟨6, 0, .zero⟩ : GIns)])) (by omega) (by omega) (by omega) hBt (by simp only [List.length_append, List.length_singleton]; omega)) hP hmv rfl rfl rfl rfl ⟨rfl, trivial⟩ rfl rfl rfl (.pass rfl rfl (.pass rfl rfl (.pass rfl rfl .nil))) rfl rfl rfl rfl (mem1 rfl) rfl⟩, ?_⟩
       first | refine ⟨_, .inr ⟨rfl, _, rfl, .inr ⟨rfl, rfl, .inr rfl, rfl, rfl⟩, loc_q (q_fadr_ptr rfl)⟩, ?_⟩
       first | refine ⟨_, .inr ⟨rfl, _, rfl, .inr ⟨rfl, rfl, .inr rfl, rfl, rfl⟩, loc_q (q_load1_ptr rfl rfl rfl)⟩, ?_⟩
       first | refine ⟨_, .inr ⟨rfl, _, rfl, .inr ⟨rfl, rfl, .inr rfl, rfl, rfl⟩, loc_q (q_build rfl)⟩, ?_⟩
       first | refine ⟨_, .inr ⟨rfl, _, rfl, .inr ⟨rfl, rfl, .inr rfl, rfl, rfl⟩, loc_bslice rfl⟩, ?_⟩
       refine ⟨rfl, ?_⟩
       refine ax_e (e_appn (n' := ((putE e.Nodes f e.Nodes[j].B ((putE e.Nodes f e.Nodes[j].A out) ++ [(⟨6, 0, .zero⟩ : GIns)])) ++ [(⟨4, e.Nodes[j].Op, .zero⟩ : GIns)]).length) (rs' := ((putE e.Nodes f e.Nodes[j].B ((putE e.Nodes f e.Nodes[j].A out) ++ [(⟨6, 0, .zero⟩ : GIns)])) ++ [(⟨4, e.Nodes[j].Op, .zero⟩ : GIns)]).map GIns.row) rfl rfl (by simp) rfl (src_osl rfl (by simp)) (.inr (by rw [hmv]; rfl)) (hbnd (by omega) (by simp) (by decide)) (by simp) (app1 rfl)) ?_
       refine ax_q (q_mov rfl) ?_
       refine ax_nil ?_
       refine cx_keep rfl rfl ?_
       refine cx_seq ?_
       refine cx_seq ?_
       refine cx_ops ?_
       refine ax_q (q_fadr_ptr rfl) ?_
       refine ax_q (q_load1_ptr rfl rfl rfl) ?_
       refine ax_q (q_ibin rfl rfl rfl) ?_
       refine ax_q (q_mov rfl) ?_
       apply ax_or rfl rfl
       ·
        intro g
        have g := dF g
        refine ax_q (q_fadr_ptr rfl) ?_
        refine ax_q (q_load1_ptr rfl rfl rfl) ?_
        refine ax_q (q_ibin rfl rfl rfl) ?_
        exact ax_nil ⟨rfl, by repeat (first | exact trivial | refine ⟨rfl, ?_⟩ | refine ⟨?_, ?_⟩)⟩
       refine ax_nil ?_
       refine cx_keep rfl rfl ?_
       refine cx_cond rfl (fun h5 => ?_) (fun h5 => ?_)
       ·
        have h5 := (fun h => (or_T h).imp dT dT) h5
        refine cx_ops ?_
        refine ax_q (q_mov rfl) ?_
        refine ax_q (q_mov rfl) ?_
        refine ax_q (q_mov rfl) ?_
        first | refine ax_q (q_lenS_map rfl) ?_ | refine ax_q (q_lenS_osl rfl) ?_ | refine ax_q (q_lenS_zs rfl) ?_ | refine ax_q (q_lenS rfl) ?_
        refine ax_q (q_ixo rfl rfl (by have := @putE_ge e.Nodes f ((putE e.Nodes f e.Nodes[j].A out) ++ [(⟨6, 0, .zero⟩ : GIns)]) e.Nodes[j].B; simp only [List.length_append, List.length_singleton] at this ⊢; omega)) ?_
        first | refine ax_q (q_fadr_ptr rfl) ?_ | refine ax_q (q_fadr_rptr rfl) ?_ | refine ax_q (q_fadr_ip rfl) ?_
        refine ax_e (e_str (q := GIns.row ⟨6, ((putE e.Nodes f e.Nodes[j].B ((putE e.Nodes f e.Nodes[j].A out) ++ [(⟨6, 0, .zero⟩ : GIns)])) ++ [(⟨4, e.Nodes[j].Op, .zero⟩ : GIns)]).length, .zero⟩) (row := GIns.row ⟨6, 0, .zero⟩) (rs' := (binC ((putE e.Nodes f e.Nodes[j].B ((putE e.Nodes f e.Nodes[j].A out) ++ [(⟨6, 0, .zero⟩ : GIns)])) ++ [(⟨4, e.Nodes[j].Op, .zero⟩ : GIns)]) (putE e.Nodes f e.Nodes[j].A out).length).map GIns.row) rfl rfl rfl rfl rfl rfl (by rw [List.getElem?_map, bin_at]; rfl) rfl rfl (bin_set bin_at)) ?_
        refine ax_nil ?_
        refine cx_keep rfl rfl ?_
        refine cx_seq ?_
        refine cx_ops ?_
        refine ax_q (q_mov rfl) ?_
        refine ax_q (q_mov rfl) ?_
        refine ax_nil ?_
        refine cx_keep rfl rfl ?_
        refine cx_ret (retN id [1000] rfl rfl rfl rfl rfl ?_)
        first | (rw [putE_4 (b := 5) hj h0 h1 h2 (by omega) (by rw [if_neg (by omega)]), binC_len]; exact ⟨rfl, rfl⟩) | (rw [putE_4 (b := 6) hj h0 h1 h2 (by omega) (by rw [if_pos (by omega)]), binC_len]; exact ⟨rfl, rfl⟩) | (rw [putE_5 hj h0 h1 h2 (by omega)]; exact ⟨rfl, rfl⟩)
       ·
        have h5 := (fun h => And.intro (dF (or_F h).1) (dF (or_F h).2)) h5
        exfalso; omega
      ·
       have h4 := dF h4
       have lb := putE_lenI (ns := e.Nodes) (f := f) (out := (putE e.Nodes f e.Nodes[j].A out)) hB0 (by omega) (by omega) hBt
       refine cx_skip ?_
       refine cx_keep rfl rfl ?_
       refine cx_seq ?_
       refine cx_drawL 4 66 (Nat.beq 1000) (nrA 1000) [] ([(1000, .rows 5 ((putE e.Nodes f e.Nodes[j].B (putE e.Nodes f e.Nodes[j].A out)).map GIns.row))]) [[0], [4], [7], [64], [62, 63, 65], [7], [67], [68], [69]] [[], [], [], [], [1000], [1000], [1000], [1000], [1000]] rfl ?_
       first | refine ⟨_, .inr ⟨rfl, _, rfl, .inl rfl, loc_q (q_mov rfl)⟩, ?_⟩
       first | refine ⟨_, .inr ⟨rfl, _, rfl, .inl rfl, loc_q (q_ldN rfl rfl rfl)⟩, ?_⟩
       first | refine ⟨_, .inr ⟨rfl, _, rfl, .inl rfl, loc_q (q_fadr_ptr rfl)⟩, ?_⟩
       first | refine ⟨_, .inr ⟨rfl, _, rfl, .inl rfl, loc_q (q_load1_ptr rfl rfl rfl)⟩, ?_⟩
       refine ⟨⟨66, _, []⟩, .inl ⟨rfl, rfl, rfl, locl_callm (fun _ => 1000) [1000] (fun _ => 1000) [] rfl (ih (i := e.Nodes[j].B) (out := (putE e.Nodes f e.Nodes[j].A out)) (by omega) (by omega) (by omega) hBt (by omega)) hP hmv rfl rfl rfl rfl ⟨rfl, trivial⟩ rfl rfl rfl (.pass rfl rfl (.pass rfl rfl (.pass rfl rfl .nil))) rfl rfl rfl rfl (mem1 rfl) rfl⟩, ?_⟩
       first | refine ⟨_, .inr ⟨rfl, _, rfl, .inr ⟨rfl, rfl, .inr rfl, rfl, rfl⟩, loc_q (q_fadr_ptr rfl)⟩, ?_⟩
       first | refine ⟨_, .inr ⟨rfl, _, rfl, .inr ⟨rfl, rfl, .inr rfl, rfl, rfl⟩, loc_q (q_load1_ptr rfl rfl rfl)⟩, ?_⟩
       first | refine ⟨_, .inr ⟨rfl, _, rfl, .inr ⟨rfl, rfl, .inr rfl, rfl, rfl⟩, loc_q (q_build rfl)⟩, ?_⟩
       first | refine ⟨_, .inr ⟨rfl, _, rfl, .inr ⟨rfl, rfl, .inr rfl, rfl, rfl⟩, loc_bslice rfl⟩, ?_⟩
       refine ⟨rfl, ?_⟩
       refine ax_e (e_appn (n' := ((putE e.Nodes f e.Nodes[j].B (putE e.Nodes f e.Nodes[j].A out)) ++ [(⟨4, e.Nodes[j].Op, .zero⟩ : GIns)]).length) (rs' := ((putE e.Nodes f e.Nodes[j].B (putE e.Nodes f e.Nodes[j].A out)) ++ [(⟨4, e.Nodes[j].Op, .zero⟩ : GIns)]).map GIns.row) rfl rfl (by simp) rfl (src_osl rfl (by simp)) (.inr (by rw [hmv]; rfl)) (hbnd (by omega) (by simp) (by decide)) (by simp) (app1 rfl)) ?_
       refine ax_q (q_mov rfl) ?_
       refine ax_nil ?_
       refine cx_keep rfl rfl ?_
       refine cx_seq ?_
       refine cx_seq ?_
       refine cx_ops ?_
       refine ax_q (q_fadr_ptr rfl) ?_
       refine ax_q (q_load1_ptr rfl rfl rfl) ?_
       refine ax_q (q_ibin rfl rfl rfl) ?_
       refine ax_q (q_mov rfl) ?_
       apply ax_or rfl rfl
       ·
        intro g
        have g := dF g
        refine ax_q (q_fadr_ptr rfl) ?_
        refine ax_q (q_load1_ptr rfl rfl rfl) ?_
        refine ax_q (q_ibin rfl rfl rfl) ?_
        exact ax_nil ⟨rfl, by repeat (first | exact trivial | refine ⟨rfl, ?_⟩ | refine ⟨?_, ?_⟩)⟩
       refine ax_nil ?_
       refine cx_keep rfl rfl ?_
       refine cx_cond rfl (fun h5 => ?_) (fun h5 => ?_)
       ·
        have h5 := (fun h => (or_T h).imp dT dT) h5
        exfalso; omega
       ·
        have h5 := (fun h => And.intro (dF (or_F h).1) (dF (or_F h).2)) h5
        refine cx_skip ?_
        refine cx_keep rfl rfl ?_
        refine cx_seq ?_
        refine cx_ops ?_
        refine ax_q (q_mov rfl) ?_
        refine ax_q (q_mov rfl) ?_
        refine ax_nil ?_
        refine cx_keep rfl rfl ?_
        refine cx_ret (retN id [1000] rfl rfl rfl rfl rfl ?_)
        first | (rw [putE_4 (b := 5) hj h0 h1 h2 (by omega) (by rw [if_neg (by omega)]), binC_len]; exact ⟨rfl, rfl⟩) | (rw [putE_4 (b := 6) hj h0 h1 h2 (by omega) (by rw [if_pos (by omega)]), binC_len]; exact ⟨rfl, rfl⟩) | (rw [putE_5 hj h0 h1 h2 (by omega)]; exact ⟨rfl, rfl⟩)


/- loop.example/g00332/impl.CompileExpr -/
def k_c_Compile : XCode :=
 .seq (.ops [.op (some 1) (.box (.t 0)),
   .op (some 2) (.mov (.k (.nils 5))),
   .op (some 3) (.mov (.k (.int .i64 0)))])
 (.keep [1] (.seq (.seq (.ops [.op (some 4) (.loadN 1 (.t 1)),
   .call (some 5) 50 [.t 4],
   .op (some 6) (.not (.t 5))])
  (.keep [1, 6] (.cond (.t 6)
  (.seq (.ops [.op (some 2) (.mov (.k (.nils 5))),
    .op (some 3) (.mov (.k (.int .i64 1)))])
   (.keep [2, 3] (.ret)))
  (.skip))))
 (.keep [1] (.seq (.ops [.op (some 7) (.loadN 1 (.t 1)),
   .op (some 8) (.fadr (.t 1) 0),
   .op (some 9) (.load1 (.t 8)),
   .op (some 10) (.lenS (.t 9)),
   .op (some 11) (.bin .sub (.t 10) (.k (.int .i64 1))),
   .call (some 12) 59 [.k (.nils 0), .t 7, .t 11],
   .op (some 2) (.mov (.t 12)),
   .op (some 3) (.mov (.k (.int .i64 0)))])
 (.keep [2, 3] (.ret))))))
theorem k_c_Compile_fits : fitsF Try.prog 25 ⟨13, k_c_Compile, [.t 2, .t 3]⟩ = true := by kernel_rfl
theorem c_Compile {e : GExpr} (hw : e.Nodes.length ≤ 1048576) (hv : ∀ x ∈ e.Nodes, x.V.T.length ≤ 1048576) : Con Try.prog noMv 25 [e.av] [] (fun r h => r = .tup [.osl 0 5 0 (compF e).1.length, int (compF e).2] ∧ h = [(0, .rows 5 ((compF e).1.map GIns.row))]) := by
 refine con_of2 k_c_Compile_fits rfl fun C hP hmv => ?_
 unfold k_c_Compile
 refine cx_seq ?_
 refine cx_ops ?_
 refine ax_e (e_box rfl rfl (by decide) rfl rfl rfl) ?_
 refine ax_q (q_mov rfl) ?_
 refine ax_q (q_mov rfl) ?_
 refine ax_nil ?_
 refine cx_keep rfl rfl ?_
 refine cx_seq ?_
 refine cx_seq ?_
 refine cx_ops ?_
 refine ax_q (q_ldN rfl rfl rfl) ?_
 first | refine ax_call rfl (vc_pure0 (c_ExprOK  ?_ ?_) hP rfl rfl ?_) | refine ax_call rfl (vc_lend0 (c_ExprOK  ?_ ?_) hP (by repeat (first | exact lal_id _ rfl | exact LAL.nil | refine LAL.cons ?_ ?_ | exact la_id _ rfl | exact LA.lend (lend_whole rfl (by first | (simp; done) | (rw [List.length_map]; rfl))) | refine LA.agg ?_ | refine LA.fn ?_ | refine LA.lend ?_ | exact Lend.d _ | exact Lend.zs _ | exact lend_whole rfl (by first | (simp; done) | (rw [List.length_map]; rfl)) | refine Lend.ptr rfl ?_ | refine Lend.fn ?_ | exact LendL.nil | refine LendL.cons ?_ ?_)) rfl rfl ?_)
 ·
  first | assumption | omega | (simp; done) | (simp; omega)
 ·
  first | assumption | omega | (simp; done) | (simp; omega)
 refine ax_q (q_not rfl) ?_
 refine ax_nil ?_
 refine cx_keep rfl rfl ?_
 refine cx_cond rfl (fun h0 => ?_) (fun h0 => ?_)
 ·
  have h0 := bT h0
  refine cx_seq ?_
  refine cx_ops ?_
  refine ax_q (q_mov rfl) ?_
  refine ax_q (q_mov rfl) ?_
  refine ax_nil ?_
  refine cx_keep rfl rfl ?_
  refine cx_wk (wk_virt 901 5 rfl rfl rfl) ?_
  refine cx_wk (wk_zs 2 901 [] rfl rfl) ?_
  refine cx_ret (retN (fun _ => 0) [901] rfl rfl rfl rfl rfl ?_)
  rw [compF_0 h0]; exact ⟨rfl, rfl⟩
 ·
  have h0 := bF h0
  refine cx_skip ?_
  refine cx_keep rfl rfl ?_
  refine cx_seq ?_
  refine cx_ops ?_
  refine ax_q (q_ldN rfl rfl rfl) ?_
  refine ax_q (q_fadr_ptr rfl) ?_
  refine ax_q (q_load1_ptr rfl rfl rfl) ?_
  first | refine ax_q (q_lenS_map rfl) ?_ | refine ax_q (q_lenS_osl rfl) ?_ | refine ax_q (q_lenS_zs rfl) ?_ | refine ax_q (q_lenS rfl) ?_
  refine ax_q (q_sub rfl rfl (by omega)) ?_
  refine ax_wk (wk_virt 900 5 rfl rfl rfl) ?_
  have hz := comp_hyps h0
  refine ax_call rfl (vcall_own (c_compile (f := e.Nodes.length + 1) (i := (e.Nodes.length : Int) - 1) (out := []) hz.1 hz.2.1 hz.2.2.1 hz.2.2.2.1 hz.2.2.2.2 hw) hP hmv false (fun _ => 900) [1000] ⟨rfl, rfl, rfl, rfl, ⟨rfl, trivial⟩, rfl, rfl, rfl⟩ (.nilS (.pass rfl rfl (.pass rfl rfl .nil))) ?_)
  rintro r h ⟨rfl, rfl⟩
  refine ⟨fun _ => 900, [], ⟨rfl, rfl, rfl, rfl, mem1 rfl, rfl, rfl, fun h => absurd h Bool.false_ne_true⟩, ?_⟩
  refine ax_q (q_mov rfl) ?_
  refine ax_q (q_mov rfl) ?_
  refine ax_nil ?_
  refine cx_keep rfl rfl ?_
  refine cx_ret (retN (fun _ => 0) [900] rfl rfl rfl rfl rfl ?_)
  rw [compF_1 h0]; exact ⟨rfl, rfl⟩


/- loop.example/g00332/spec.l01In -/
def k_c_l01In : XCode :=
 .seq (.ops [.op (some 6) (.mov (.k (.bool false)))])
 (.keep [0, 1, 2] (.seq (.ops [.op (some 7) (.mov (.t 1)),
   .op (some 8) (.mov (.t 0)),
   .op (some 9) (.bin .leq (.t 7) (.t 8)),
   .op (some 10) (.mov (.t 9)),
   .andor 14 true 3 10 [.op (some 11) (.mov (.t 0)), .op (some 12) (.mov (.t 2)), .op (some 13) (.bin .leq (.t 11) (.t 12))] (.t 13),
   .op (some 6) (.mov (.t 14))])
 (.keep [6] (.ret))))
theorem k_c_l01In_fits : fitsF Try.prog 45 ⟨15, k_c_l01In, [.t 6]⟩ = true := by kernel_rfl
theorem c_l01In {n lo hi : Int} : Con Try.prog noMv 45 [int n, int lo, int hi] [] (fun r h => r = bool (inR n lo hi) ∧ h = []) := by
 refine con_of2 k_c_l01In_fits rfl fun C hP hmv => ?_
 unfold k_c_l01In
 refine cx_seq ?_
 refine cx_ops ?_
 refine ax_q (q_mov rfl) ?_
 refine ax_nil ?_
 refine cx_keep rfl rfl ?_
 refine cx_seq ?_
 refine cx_ops ?_
 refine ax_q (q_mov rfl) ?_
 refine ax_q (q_mov rfl) ?_
 refine ax_q (q_ibin rfl rfl rfl) ?_
 refine ax_q (q_mov rfl) ?_
 apply ax_and rfl rfl
 ·
  intro g
  have g := dT g
  refine ax_q (q_mov rfl) ?_
  refine ax_q (q_mov rfl) ?_
  refine ax_q (q_ibin rfl rfl rfl) ?_
  exact ax_nil ⟨rfl, by repeat (first | exact trivial | refine ⟨rfl, ?_⟩ | refine ⟨?_, ?_⟩)⟩
 refine ax_q (q_mov rfl) ?_
 refine ax_nil ?_
 refine cx_keep rfl rfl ?_
 refine cx_ret (ret0 rfl rfl ?_)
 exact ⟨rfl, rfl⟩


/- loop.example/g00332/spec.ValueOK -/
def k_c_sValueOK : XCode :=
 .seq (.ops [.op (some 1) (.box (.t 0)),
   .op (some 2) (.mov (.k (.bool false)))])
 (.keep [1] (.seq (.seq (.ops [.op (some 4) (.fadr (.t 1) 0),
   .op (some 5) (.load1 (.t 4))])
  (.keep [1, 5] (.block 0 (.seq (.ops [.op (some 7) (.bin .eql (.t 5) (.k (.int .i64 0))),
    .op (some 6) (.mov (.t 7))])
  (.keep [1, 5, 6] (.cond (.t 6)
   (.seq (.ops [.op (some 8) (.fadr (.t 1) 1),
     .op (some 9) (.load1 (.t 8)),
     .op (some 10) (.bin .eql (.t 9) (.k (.int .i64 0))),
     .op (some 11) (.mov (.t 10)),
     .andor 15 true 3 11 [.op (some 12) (.fadr (.t 1) 2), .op (some 13) (.load1 (.t 12)), .op (some 14) (.bin .eql (.t 13) (.k (.str [])))] (.t 14),
     .op (some 2) (.mov (.t 15))])
   (.keep [2] (.ret)))
   (.seq (.ops [.op (some 17) (.bin .eql (.t 5) (.k (.int .i64 1))),
     .op (some 16) (.mov (.t 17))])
   (.keep [1, 5, 16] (.cond (.t 16)
    (.seq (.ops [.op (some 18) (.fadr (.t 1) 1),
      .op (some 19) (.load1 (.t 18)),
      .call (some 20) 45 [.t 19, .k (.int .i64 (-1000000000)), .k (.int .i64 1000000000)],
      .op (some 21) (.mov (.t 20)),
      .andor 25 true 3 21 [.op (some 22) (.fadr (.t 1) 2), .op (some 23) (.load1 (.t 22)), .op (some 24) (.bin .eql (.t 23) (.k (.str [])))] (.t 24),
      .op (some 2) (.mov (.t 25))])
    (.keep [2] (.ret)))
    (.seq (.ops [.op (some 27) (.bin .eql (.t 5) (.k (.int .i64 2))),
      .op (some 26) (.mov (.t 27))])
    (.keep [1, 26] (.cond (.t 26)
     (.seq (.seq (.ops [.op (some 28) (.fadr (.t 1) 1),
       .op (some 29) (.load1 (.t 28)),
       .op (some 30) (.bin .neq (.t 29) (.k (.int .i64 0))),
       .op (some 31) (.mov (.t 30)),
       .andor 36 false 3 31 [.op (some 32) (.fadr (.t 1) 2), .op (some 33) (.load1 (.t 32)), .op (some 34) (.lenT (.t 33)), .op (some 35) (.bin .gtr (.t 34) (.k (.int .i64 10)))] (.t 35)])
      (.keep [1, 36] (.cond (.t 36)
      (.seq (.ops [.op (some 2) (.mov (.k (.bool false)))])
       (.keep [2] (.ret)))
      (.skip))))
     (.keep [1] (.seq (.seq (.ops [.op (some 3) (.mov (.k (.int .i64 0)))])
      (.keep [1, 3] (.block 1 (.loop (.seq (.seq (.ops [.op (some 37) (.mov (.t 3)),
         .op (some 38) (.fadr (.t 1) 2),
         .op (some 39) (.load1 (.t 38)),
         .op (some 40) (.lenT (.t 39)),
         .op (some 41) (.bin .lss (.t 37) (.t 40))])
       (.keep [1, 3, 41] (.cond (.t 41)
        (.skip)
        (.exit 1))))
       (.keep [1, 3] (.seq (.block 2 (.seq (.ops [.op (some 44) (.fadr (.t 1) 2),
         .op (some 45) (.load1 (.t 44)),
         .op (some 46) (.mov (.t 3)),
         .op (some 47) (.idxS (.t 45) (.t 46)),
         .op (some 48) (.conv .i64 (.t 47)),
         .call (some 49) 45 [.t 48, .k (.int .i64 97), .k (.int .i64 122)],
         .op (some 50) (.not (.t 49))])
        (.keep [1, 3, 50] (.cond (.t 50)
        (.seq (.ops [.op (some 2) (.mov (.k (.bool false)))])
         (.keep [2] (.ret)))
        (.skip)))))
       (.keep [1, 3] (.ops [.op (some 42) (.mov (.t 3)),
        .op (some 43) (.bin .add (.t 42) (.k (.int .i64 1))),
        .op (some 3) (.mov (.t 43))])))))))))
     (.keep [] (.seq (.ops [.op (some 2) (.mov (.k (.bool true)))])
     (.keep [2] (.ret)))))))
     (.skip)))))))))))))
 (.keep [] (.seq (.ops [.op (some 2) (.mov (.k (.bool false)))])
 (.keep [2] (.ret))))))
theorem k_c_sValueOK_fits : fitsF Try.prog 72 ⟨51, k_c_sValueOK, [.t 2]⟩ = true := by kernel_rfl
theorem c_sValueOK {v : GValue} (hv : v.T.length ≤ 1048576) : Con Try.prog noMv 72 [v.av] [] (fun r h => r = bool (valueOK v) ∧ h = []) := by
 refine con_of2 k_c_sValueOK_fits rfl fun C hP hmv => ?_
 unfold k_c_sValueOK
 refine cx_seq ?_
 refine cx_ops ?_
 refine ax_e (e_box rfl rfl (by decide) rfl rfl rfl) ?_
 refine ax_q (q_mov rfl) ?_
 refine ax_nil ?_
 refine cx_keep rfl rfl ?_
 refine cx_seq ?_
 refine cx_seq ?_
 refine cx_ops ?_
 refine ax_q (q_fadr_ptr rfl) ?_
 refine ax_q (q_load1_ptr rfl rfl rfl) ?_
 refine ax_nil ?_
 refine cx_keep rfl rfl ?_
 refine cx_block ?_
 refine cx_seq ?_
 refine cx_ops ?_
 refine ax_q (q_ibin rfl rfl rfl) ?_
 refine ax_q (q_mov rfl) ?_
 refine ax_nil ?_
 refine cx_keep rfl rfl ?_
 refine cx_cond rfl (fun h0 => ?_) (fun h0 => ?_)
 ·
  have h0 := dT h0
  refine cx_seq ?_
  refine cx_ops ?_
  refine ax_q (q_fadr_ptr rfl) ?_
  refine ax_q (q_load1_ptr rfl rfl rfl) ?_
  refine ax_q (q_ibin rfl rfl rfl) ?_
  refine ax_q (q_mov rfl) ?_
  apply ax_and rfl rfl
  ·
   intro g
   have g := dT g
   refine ax_q (q_fadr_ptr rfl) ?_
   refine ax_q (q_load1_ptr rfl rfl rfl) ?_
   refine ax_q (q_sbin rfl rfl rfl) ?_
   exact ax_nil ⟨rfl, by repeat (first | exact trivial | refine ⟨rfl, ?_⟩ | refine ⟨?_, ?_⟩)⟩
  refine ax_q (q_mov rfl) ?_
  refine ax_nil ?_
  refine cx_keep rfl rfl ?_
  refine cx_ret (ret0 rfl rfl ?_)
  exact ⟨by rw [valueOK_0 h0] <;> rfl, rfl⟩
 ·
  have h0 := dF h0
  refine cx_seq ?_
  refine cx_ops ?_
  refine ax_q (q_ibin rfl rfl rfl) ?_
  refine ax_q (q_mov rfl) ?_
  refine ax_nil ?_
  refine cx_keep rfl rfl ?_
  refine cx_cond rfl (fun h1 => ?_) (fun h1 => ?_)
  ·
   have h1 := dT h1
   refine cx_seq ?_
   refine cx_ops ?_
   refine ax_q (q_fadr_ptr rfl) ?_
   refine ax_q (q_load1_ptr rfl rfl rfl) ?_
   first | refine ax_call rfl (vc_pure0 (c_l01In  ) hP rfl rfl ?_) | refine ax_call rfl (vc_lend0 (c_l01In  ) hP (by repeat (first | exact lal_id _ rfl | exact LAL.nil | refine LAL.cons ?_ ?_ | exact la_id _ rfl | exact LA.lend (lend_whole rfl (by first | (simp; done) | (rw [List.length_map]; rfl))) | refine LA.agg ?_ | refine LA.fn ?_ | refine LA.lend ?_ | exact Lend.d _ | exact Lend.zs _ | exact lend_whole rfl (by first | (simp; done) | (rw [List.length_map]; rfl)) | refine Lend.ptr rfl ?_ | refine Lend.fn ?_ | exact LendL.nil | refine LendL.cons ?_ ?_)) rfl rfl ?_)
   refine ax_q (q_mov rfl) ?_
   apply ax_and rfl rfl
   ·
    intro g
    refine ax_q (q_fadr_ptr rfl) ?_
    refine ax_q (q_load1_ptr rfl rfl rfl) ?_
    refine ax_q (q_sbin rfl rfl rfl) ?_
    exact ax_nil ⟨rfl, by repeat (first | exact trivial | refine ⟨rfl, ?_⟩ | refine ⟨?_, ?_⟩)⟩
   refine ax_q (q_mov rfl) ?_
   refine ax_nil ?_
   refine cx_keep rfl rfl ?_
   refine cx_ret (ret0 rfl rfl ?_)
   exact ⟨by rw [valueOK_1 h1] <;> rfl, rfl⟩
  ·
   have h1 := dF h1
   refine cx_seq ?_
   refine cx_ops ?_
   refine ax_q (q_ibin rfl rfl rfl) ?_
   refine ax_q (q_mov rfl) ?_
   refine ax_nil ?_
   refine cx_keep rfl rfl ?_
   refine cx_cond rfl (fun h2 => ?_) (fun h2 => ?_)
   ·
    have h2 := dT h2
    refine cx_seq ?_
    refine cx_seq ?_
    refine cx_ops ?_
    refine ax_q (q_fadr_ptr rfl) ?_
    refine ax_q (q_load1_ptr rfl rfl rfl) ?_
    refine ax_q (q_ibin rfl rfl rfl) ?_
    refine ax_q (q_mov rfl) ?_
    apply ax_or rfl rfl
    ·
     intro g
     have g := nF g
     refine ax_q (q_fadr_ptr rfl) ?_
     refine ax_q (q_load1_ptr rfl rfl rfl) ?_
     refine ax_q (q_lenT rfl) ?_
     refine ax_q (q_ibin rfl rfl rfl) ?_
     exact ax_nil ⟨rfl, by repeat (first | exact trivial | refine ⟨rfl, ?_⟩ | refine ⟨?_, ?_⟩)⟩
    refine ax_nil ?_
    refine cx_keep rfl rfl ?_
    refine cx_cond rfl (fun h3 => ?_) (fun h3 => ?_)
    ·
     have h3 := (fun h => (or_T h).imp nT dT) h3
     refine cx_seq ?_
     refine cx_ops ?_
     refine ax_q (q_mov rfl) ?_
     refine ax_nil ?_
     refine cx_keep rfl rfl ?_
     refine cx_ret (ret0 rfl rfl ?_)
     have e : valueOK v = false := by
      rw [valueOK_2 h0 h1]
      rcases h3 with h | h
      ·
       simp [h]
      ·
       unfold isWord; rw [decide_eq_false (show ¬ ((v.T.length : Int) ≤ 10) from by omega)]; simp
     exact ⟨by rw [e] <;> rfl, rfl⟩
    ·
     have h3 := (fun h => And.intro (nF (or_F h).1) (dF (or_F h).2)) h3
     refine cx_skip ?_
     refine cx_keep rfl rfl ?_
     refine cx_seq ?_
     refine cx_seq ?_
     refine cx_ops ?_
     refine ax_q (q_mov rfl) ?_
     refine ax_nil ?_
     refine cx_keep rfl rfl ?_
     refine cx_block ?_
     refine cx_loopU (fun n k => k ≤ v.T.length ∧ n = v.T.length - k ∧ ∀ j, j < k → ∀ x, v.T[j]? = some x → badCh x = false) (fun k : Nat => [(3, int k)]) (fun _ => [(1, .box [.d (.int .i64 v.Kind), .d (.int .i64 v.N), .d (.str v.T)])]) ⟨_, 0, ⟨Nat.zero_le _, rfl, fun j hj => by omega⟩, by repeat (first | exact trivial | refine ⟨rfl, ?_⟩ | refine ⟨?_, ?_⟩)⟩ ?_
     rintro n k ⟨hk, rfl, hb⟩
     refine cx_seq ?_
     refine cx_seq ?_
     refine cx_ops ?_
     refine ax_q (q_mov rfl) ?_
     refine ax_q (q_fadr_ptr rfl) ?_
     refine ax_q (q_load1_ptr rfl rfl rfl) ?_
     refine ax_q (q_lenT rfl) ?_
     refine ax_q (q_ibin rfl rfl rfl) ?_
     refine ax_nil ?_
     refine cx_keep rfl rfl ?_
     refine cx_cond rfl (fun h4 => ?_) (fun h4 => ?_)
     ·
      have h4 := dT h4
      have h4x : k < v.T.length := by omega
      refine cx_skip ?_
      refine cx_keep rfl rfl ?_
      refine cx_seq ?_
      refine cx_block ?_
      refine cx_seq ?_
      refine cx_ops ?_
      refine ax_q (q_fadr_ptr rfl) ?_
      refine ax_q (q_load1_ptr rfl rfl rfl) ?_
      refine ax_q (q_mov rfl) ?_
      refine ax_q (q_idxN rfl rfl (by first | assumption | omega)) ?_
      first | refine ax_q (q_convB rfl) ?_ | refine ax_q (q_convI rfl (by omega)) ?_ | refine ax_q (q_convU8 rfl) ?_ | refine ax_q (q_conv rfl) ?_
      first | refine ax_call rfl (vc_pure0 (c_l01In  ) hP rfl rfl ?_) | refine ax_call rfl (vc_lend0 (c_l01In  ) hP (by repeat (first | exact lal_id _ rfl | exact LAL.nil | refine LAL.cons ?_ ?_ | exact la_id _ rfl | exact LA.lend (lend_whole rfl (by first | (simp; done) | (rw [List.length_map]; rfl))) | refine LA.agg ?_ | refine LA.fn ?_ | refine LA.lend ?_ | exact Lend.d _ | exact Lend.zs _ | exact lend_whole rfl (by first | (simp; done) | (rw [List.length_map]; rfl)) | refine Lend.ptr rfl ?_ | refine Lend.fn ?_ | exact LendL.nil | refine LendL.cons ?_ ?_)) rfl rfl ?_)
      refine ax_q (q_not rfl) ?_
      refine ax_nil ?_
      refine cx_keep rfl rfl ?_
      refine cx_cond rfl (fun h5 => ?_) (fun h5 => ?_)
      ·
       have h5 : badCh v.T[k] = true := h5
       refine cx_seq ?_
       refine cx_ops ?_
       refine ax_q (q_mov rfl) ?_
       refine ax_nil ?_
       refine cx_keep rfl rfl ?_
       refine cx_ret (ret0 rfl rfl ?_)
       have e : valueOK v = false := by
        rw [valueOK_2 h0 h1]; unfold isWord; rw [any_hit h4x h5]; simp
       exact ⟨by rw [e]; rfl, rfl⟩
      ·
       have h5 : badCh v.T[k] = false := h5
       refine cx_skip ?_
       refine cx_keep rfl rfl ?_
       refine cx_ops ?_
       refine ax_q (q_mov rfl) ?_
       refine ax_qe (r' := int ((k + 1 : Nat) : Int)) (q_ibin rfl rfl rfl) (by rw [wi (by omega) (by omega)]; rfl) ?_
       refine ax_q (q_mov rfl) ?_
       refine ax_nil ?_
       exact ⟨_, k + 1, by omega, ⟨by omega, rfl, before_step h4x hb h5⟩, by repeat (first | exact trivial | refine ⟨rfl, ?_⟩ | refine ⟨?_, ?_⟩)⟩
     ·
      have h4 := dF h4
      have h4x : k = v.T.length := by omega
      refine cx_exit rfl ?_
      refine cx_keep rfl rfl ?_
      refine cx_seq ?_
      refine cx_ops ?_
      refine ax_q (q_mov rfl) ?_
      refine ax_nil ?_
      refine cx_keep rfl rfl ?_
      refine cx_ret (ret0 rfl rfl ?_)
      exact ⟨by rw [valueOK_2 h0 h1]; unfold isWord; rw [any_all (fun i hi => hb i (by omega)), decide_eq_true h2, decide_eq_true (show v.N = 0 from by omega), decide_eq_true (show (v.T.length : Int) ≤ 10 from by omega)] <;> rfl, rfl⟩
   ·
    have h2 := dF h2
    refine cx_skip ?_
    refine cx_keep rfl rfl ?_
    refine cx_seq ?_
    refine cx_ops ?_
    refine ax_q (q_mov rfl) ?_
    refine ax_nil ?_
    refine cx_keep rfl rfl ?_
    refine cx_ret (ret0 rfl rfl ?_)
    exact ⟨by rw [valueOK_2 h0 h1, decide_eq_false h2] <;> rfl, rfl⟩


/- loop.example/g00332/spec.l10Walk -/
def k_c_l10Walk : XCode :=
 .seq (.ops [.op (some 2) (.box (.t 0)),
   .op (some 4) (.mov (.k (.int .i64 0))),
   .op (some 5) (.mov (.k (.int .i64 0))),
   .op (some 6) (.mov (.k (.bool false)))])
 (.keep [1, 2] (.seq (.seq (.ops [.op (some 17) (.mov (.t 1)),
   .op (some 18) (.bin .lss (.t 17) (.k (.int .i64 0)))])
  (.keep [1, 2, 18] (.cond (.t 18)
  (.seq (.ops [.op (some 4) (.mov (.k (.int .i64 0))),
    .op (some 5) (.mov (.k (.int .i64 0))),
    .op (some 6) (.mov (.k (.bool false)))])
   (.keep [4, 5, 6] (.ret)))
  (.skip))))
 (.keep [1, 2] (.seq (.ops [.op (some 19) (.fadr (.t 2) 0),
   .op (some 20) (.load1 (.t 19)),
   .op (some 21) (.mov (.t 1)),
   .op (some 22) (.iadr 7 (.t 20) (.t 21)),
   .op (some 23) (.loadN 7 (.t 22)),
   .op (some 7) (.alloc [.int .i64 0, .int .i64 0, .int .i64 0, .int .i64 0, .int .i64 0, .int .i64 0, .str []]),
   .op none (.store 7 (.t 7) (.t 23))])
 (.keep [1, 2, 7] (.seq (.block 0 (.seq (.ops [.op (some 25) (.fadr (.t 7) 0),
    .op (some 26) (.load1 (.t 25)),
    .op (some 27) (.bin .eql (.t 26) (.k (.int .i64 1))),
    .op (some 24) (.mov (.t 27))])
  (.keep [1, 2, 7, 24] (.cond (.t 24)
   (.seq (.ops [.op (some 28) (.mov (.t 1)),
     .op (some 29) (.fadr (.t 7) 1),
     .op (some 30) (.load1 (.t 29)),
     .op (some 31) (.bin .eql (.t 30) (.k (.int .i64 0))),
     .op (some 32) (.mov (.t 31)),
     .andor 36 true 4 32 [.op (some 33) (.fadr (.t 7) 2), .op (some 34) (.load1 (.t 33)), .op (some 35) (.bin .eql (.t 34) (.k (.int .i64 0)))] (.t 35),
     .op (some 37) (.mov (.t 36)),
     .andor 41 true 9 37 [.op (some 38) (.fadr (.t 7) 3), .op (some 39) (.load1 (.t 38)), .op (some 40) (.bin .eql (.t 39) (.k (.int .i64 0)))] (.t 40),
     .op (some 42) (.mov (.t 41)),
     .andor 46 true 14 42 [.op (some 43) (.fadr (.t 7) 4), .op (some 44) (.loadN 3 (.t 43)), .call (some 45) 72 [.t 44]] (.t 45),
     .op (some 4) (.mov (.t 28)),
     .op (some 5) (.mov (.k (.int .i64 1))),
     .op (some 6) (.mov (.t 46))])
   (.keep [4, 5, 6] (.ret)))
   (.seq (.ops [.op (some 48) (.fadr (.t 7) 0),
     .op (some 49) (.load1 (.t 48)),
     .op (some 50) (.bin .eql (.t 49) (.k (.int .i64 2))),
     .op (some 47) (.mov (.t 50))])
   (.keep [1, 2, 7, 47] (.cond (.t 47)
    (.seq (.draw [.op (some 51) (.mov (.t 1)),
      .op (some 52) (.fadr (.t 7) 1),
      .op (some 53) (.load1 (.t 52)),
      .op (some 54) (.bin .eql (.t 53) (.k (.int .i64 0))),
      .op (some 55) (.mov (.t 54)),
      .andor 59 true 4 55 [.op (some 56) (.fadr (.t 7) 2), .op (some 57) (.load1 (.t 56)), .op (some 58) (.bin .eql (.t 57) (.k (.int .i64 0)))] (.t 58),
      .op (some 60) (.mov (.t 59)),
      .andor 64 true 9 60 [.op (some 61) (.fadr (.t 7) 3), .op (some 62) (.load1 (.t 61)), .call (some 63) 45 [.t 62, .k (.int .i64 0), .k (.int .i64 2)]] (.t 63),
      .op (some 65) (.mov (.t 64)),
      .andor 70 true 14 65 [.op (some 66) (.fadr (.t 7) 4), .op (some 67) (.loadN 3 (.t 66)), .op (some 68) (.build [.int .i64 0, .int .i64 0, .str []] []), .op (some 69) (.eqs false [0, 0, 2] (.t 67) (.t 68))] (.t 69),
      .op (some 4) (.mov (.t 51)),
      .op (some 5) (.mov (.k (.int .i64 1))),
      .op (some 6) (.mov (.t 70))])
    (.keep [4, 5, 6] (.ret)))
    (.seq (.ops [.op (some 72) (.fadr (.t 7) 0),
      .op (some 73) (.load1 (.t 72)),
      .call (some 74) 45 [.t 73, .k (.int .i64 3), .k (.int .i64 5)],
      .op (some 71) (.mov (.t 74))])
    (.keep [1, 2, 7, 71] (.cond (.t 71)
     (.seq (.ops [.op (some 76) (.loadN 1 (.t 2)),
       .op (some 77) (.mov (.t 1)),
       .op (some 78) (.bin .sub (.t 77) (.k (.int .i64 1))),
       .call (some 79) 75 [.t 76, .t 78],
       .op (some 75) (.mov (.t 79)),
       .op (some 80) (.ext (.t 75) 0),
       .op (some 81) (.ext (.t 75) 1),
       .op (some 82) (.ext (.t 75) 2),
       .op (some 8) (.mov (.t 80)),
       .op (some 9) (.mov (.t 81)),
       .op (some 10) (.mov (.t 82))])
     (.keep [1, 7, 8, 9, 10] (.seq (.draw [.op (some 83) (.mov (.t 8)),
       .op (some 84) (.mov (.t 9)),
       .op (some 85) (.bin .add (.t 84) (.k (.int .i64 1))),
       .op (some 86) (.mov (.t 10)),
       .op (some 87) (.mov (.t 86)),
       .andor 93 true 4 87 [.op (some 88) (.fadr (.t 7) 1), .op (some 89) (.load1 (.t 88)), .op (some 90) (.mov (.t 1)), .op (some 91) (.bin .sub (.t 90) (.k (.int .i64 1))), .op (some 92) (.bin .eql (.t 89) (.t 91))] (.t 92),
       .op (some 94) (.mov (.t 93)),
       .andor 98 true 11 94 [.op (some 95) (.fadr (.t 7) 2), .op (some 96) (.load1 (.t 95)), .op (some 97) (.bin .eql (.t 96) (.k (.int .i64 0)))] (.t 97),
       .op (some 99) (.mov (.t 98)),
       .andor 103 true 16 99 [.op (some 100) (.fadr (.t 7) 3), .op (some 101) (.load1 (.t 100)), .op (some 102) (.bin .eql (.t 101) (.k (.int .i64 0)))] (.t 102),
       .op (some 104) (.mov (.t 103)),
       .andor 109 true 21 104 [.op (some 105) (.fadr (.t 7) 4), .op (some 106) (.loadN 3 (.t 105)), .op (some 107) (.build [.int .i64 0, .int .i64 0, .str []] []), .op (some 108) (.eqs false [0, 0, 2] (.t 106) (.t 107))] (.t 108),
       .op (some 4) (.mov (.t 83)),
       .op (some 5) (.mov (.t 85)),
       .op (some 6) (.mov (.t 109))])
     (.keep [4, 5, 6] (.ret)))))
     (.seq (.ops [.op (some 111) (.fadr (.t 7) 0),
       .op (some 112) (.load1 (.t 111)),
       .call (some 113) 45 [.t 112, .k (.int .i64 6), .k (.int .i64 13)],
       .op (some 110) (.mov (.t 113))])
     (.keep [1, 2, 7, 110] (.cond (.t 110)
      (.seq (.ops [.op (some 115) (.loadN 1 (.t 2)),
        .op (some 116) (.mov (.t 1)),
        .op (some 117) (.bin .sub (.t 116) (.k (.int .i64 1))),
        .call (some 118) 75 [.t 115, .t 117],
        .op (some 114) (.mov (.t 118)),
        .op (some 119) (.ext (.t 114) 0),
        .op (some 120) (.ext (.t 114) 1),
        .op (some 121) (.ext (.t 114) 2),
        .op (some 11) (.mov (.t 119)),
        .op (some 12) (.mov (.t 120)),
        .op (some 13) (.mov (.t 121))])
      (.keep [1, 2, 7, 11, 12, 13] (.seq (.seq (.ops [.op (some 122) (.mov (.t 13)),
        .op (some 123) (.not (.t 122))])
       (.keep [1, 2, 7, 11, 12, 123] (.cond (.t 123)
       (.seq (.ops [.op (some 4) (.mov (.k (.int .i64 0))),
         .op (some 5) (.mov (.k (.int .i64 0))),
         .op (some 6) (.mov (.k (.bool false)))])
        (.keep [4, 5, 6] (.ret)))
       (.skip))))
      (.keep [1, 2, 7, 11, 12] (.seq (.ops [.op (some 125) (.loadN 1 (.t 2)),
        .op (some 126) (.mov (.t 11)),
        .op (some 127) (.bin .sub (.t 126) (.k (.int .i64 1))),
        .call (some 128) 75 [.t 125, .t 127],
        .op (some 124) (.mov (.t 128)),
        .op (some 129) (.ext (.t 124) 0),
        .op (some 130) (.ext (.t 124) 1),
        .op (some 131) (.ext (.t 124) 2),
        .op (some 14) (.mov (.t 129)),
        .op (some 15) (.mov (.t 130)),
        .op (some 16) (.mov (.t 131))])
      (.keep [1, 7, 11, 12, 14, 15, 16] (.seq (.draw [.op (some 132) (.mov (.t 14)),
        .op (some 133) (.mov (.t 15)),
        .op (some 134) (.mov (.t 12)),
        .op (some 135) (.mx true (.t 133) (.t 134)),
        .op (some 136) (.bin .add (.t 135) (.k (.int .i64 1))),
        .op (some 137) (.mov (.t 16)),
        .op (some 138) (.mov (.t 137)),
        .andor 144 true 6 138 [.op (some 139) (.fadr (.t 7) 1), .op (some 140) (.load1 (.t 139)), .op (some 141) (.mov (.t 11)), .op (some 142) (.bin .sub (.t 141) (.k (.int .i64 1))), .op (some 143) (.bin .eql (.t 140) (.t 142))] (.t 143),
        .op (some 145) (.mov (.t 144)),
        .andor 151 true 13 145 [.op (some 146) (.fadr (.t 7) 2), .op (some 147) (.load1 (.t 146)), .op (some 148) (.mov (.t 1)), .op (some 149) (.bin .sub (.t 148) (.k (.int .i64 1))), .op (some 150) (.bin .eql (.t 147) (.t 149))] (.t 150),
        .op (some 152) (.mov (.t 151)),
        .andor 156 true 20 152 [.op (some 153) (.fadr (.t 7) 3), .op (some 154) (.load1 (.t 153)), .op (some 155) (.bin .eql (.t 154) (.k (.int .i64 0)))] (.t 155),
        .op (some 157) (.mov (.t 156)),
        .andor 162 true 25 157 [.op (some 158) (.fadr (.t 7) 4), .op (some 159) (.loadN 3 (.t 158)), .op (some 160) (.build [.int .i64 0, .int .i64 0, .str []] []), .op (some 161) (.eqs false [0, 0, 2] (.t 159) (.t 160))] (.t 161),
        .op (some 4) (.mov (.t 132)),
        .op (some 5) (.mov (.t 136)),
        .op (some 6) (.mov (.t 162))])
      (.keep [4, 5, 6] (.ret)))))))))
      (.skip))))))))))))))
 (.keep [] (.seq (.ops [.op (some 4) (.mov (.k (.int .i64 0))),
   .op (some 5) (.mov (.k (.int .i64 0))),
   .op (some 6) (.mov (.k (.bool false)))])
 (.keep [4, 5, 6] (.ret))))))))))
theorem k_c_l10Walk_fits : fitsF Try.prog 75 ⟨163, k_c_l10Walk, [.t 4, .t 5, .t 6]⟩ = true := by kernel_rfl
theorem c_l10Walk {e : GExpr} {f : Nat} {i : Int} (hn : -1 ≤ i) (hi : i + 1 < f) (hf : f ≤ 1000) (hl : i < e.Nodes.length) (hw : e.Nodes.length ≤ 1048576) (hv : ∀ x ∈ e.Nodes, x.V.T.length ≤ 1048576) : Con Try.prog noMv 75 [e.av, int i] [] (fun r h => r = .tup [int (walkF e.Nodes f i).1, int (walkF e.Nodes f i).2.1, bool (walkF e.Nodes f i).2.2] ∧ h = []) := by
 induction f generalizing i with
 | zero => exact absurd hi (by omega)
 | succ f ih =>
  refine con_of2 k_c_l10Walk_fits rfl fun C hP hmv => ?_
  unfold k_c_l10Walk
  refine cx_seq ?_
  refine cx_ops ?_
  refine ax_e (e_box rfl rfl (by decide) rfl rfl rfl) ?_
  refine ax_q (q_mov rfl) ?_
  refine ax_q (q_mov rfl) ?_
  refine ax_q (q_mov rfl) ?_
  refine ax_nil ?_
  refine cx_keep rfl rfl ?_
  refine cx_seq ?_
  refine cx_seq ?_
  refine cx_ops ?_
  refine ax_q (q_mov rfl) ?_
  refine ax_q (q_ibin rfl rfl rfl) ?_
  refine ax_nil ?_
  refine cx_keep rfl rfl ?_
  refine cx_cond rfl (fun h0 => ?_) (fun h0 => ?_)
  ·
   have h0 := dT h0
   refine cx_seq ?_
   refine cx_ops ?_
   refine ax_q (q_mov rfl) ?_
   refine ax_q (q_mov rfl) ?_
   refine ax_q (q_mov rfl) ?_
   refine ax_nil ?_
   refine cx_keep rfl rfl ?_
   refine cx_ret (ret0 rfl rfl ?_)
   exact ⟨by rw [walkF_neg h0]; rfl, rfl⟩
  ·
   have h0 := dF h0
   obtain ⟨j, rfl⟩ : ∃ j : Nat, i = (j : Int) := ⟨i.toNat, by omega⟩
   have hj : j < e.Nodes.length := by omega
   have hvj := hv _ (List.getElem_mem hj)
   have wb := @walkF_b e.Nodes f ((j : Int) - 1)
   have wc := @walkF_b e.Nodes f ((walkF e.Nodes f ((j : Int) - 1)).1 - 1)
   have hm := mxI_b (n := f) (a := (walkF e.Nodes f ((walkF e.Nodes f ((j : Int) - 1)).1 - 1)).2.1) (b := (walkF e.Nodes f ((j : Int) - 1)).2.1) ⟨wc.2.2.1, wc.2.2.2⟩ ⟨wb.2.2.1, wb.2.2.2⟩
   refine cx_skip ?_
   refine cx_keep rfl rfl ?_
   refine cx_seq ?_
   refine cx_ops ?_
   refine ax_q (q_fadr_ptr rfl) ?_
   refine ax_q (q_load1_ptr rfl rfl rfl) ?_
   refine ax_q (q_mov rfl) ?_
   refine ax_q (q_ix rfl rfl (mapAt hj)) ?_
   first | refine ax_q (q_ldN rfl rfl rfl) ?_ | refine ax_q (q_loadN_ip rfl (Nat.le_refl _)) ?_ | refine ax_q (q_loadN_ip rfl (by decide)) ?_ | refine ax_q (q_loadN_rptr rfl rfl (by assumption) (by decide)) ?_ | refine ax_q (q_loadN_rptr rfl rfl (mapAt (by first | assumption | omega)) (by decide)) ?_
   refine ax_e (e_alloc (by decide) rfl rfl) ?_
   refine ax_e (e_st rfl rfl rfl rfl rfl rfl rfl) ?_
   refine ax_nil ?_
   refine cx_keep rfl rfl ?_
   refine cx_seq ?_
   refine cx_block ?_
   refine cx_seq ?_
   refine cx_ops ?_
   refine ax_q (q_fadr_ptr rfl) ?_
   refine ax_q (q_load1_ptr rfl rfl rfl) ?_
   refine ax_q (q_ibin rfl rfl rfl) ?_
   refine ax_q (q_mov rfl) ?_
   refine ax_nil ?_
   refine cx_keep rfl rfl ?_
   refine cx_cond rfl (fun h1 => ?_) (fun h1 => ?_)
   ·
    have h1 := dT h1
    refine cx_seq ?_
    refine cx_ops ?_
    refine ax_q (q_mov rfl) ?_
    refine ax_q (q_fadr_ptr rfl) ?_
    refine ax_q (q_load1_ptr rfl rfl rfl) ?_
    refine ax_q (q_ibin rfl rfl rfl) ?_
    refine ax_q (q_mov rfl) ?_
    apply ax_and rfl rfl
    ·
     intro g
     have g := dT g
     refine ax_q (q_fadr_ptr rfl) ?_
     refine ax_q (q_load1_ptr rfl rfl rfl) ?_
     refine ax_q (q_ibin rfl rfl rfl) ?_
     exact ax_nil ⟨rfl, by repeat (first | exact trivial | refine ⟨rfl, ?_⟩ | refine ⟨?_, ?_⟩)⟩
    refine ax_q (q_mov rfl) ?_
    apply ax_and rfl rfl
    ·
     intro g
     have g := (fun h => And.intro (dT (and_T h).1) (dT (and_T h).2)) g
     refine ax_q (q_fadr_ptr rfl) ?_
     refine ax_q (q_load1_ptr rfl rfl rfl) ?_
     refine ax_q (q_ibin rfl rfl rfl) ?_
     exact ax_nil ⟨rfl, by repeat (first | exact trivial | refine ⟨rfl, ?_⟩ | refine ⟨?_, ?_⟩)⟩
    refine ax_q (q_mov rfl) ?_
    apply ax_and rfl rfl
    ·
     intro g
     have g := (fun h => And.intro ((fun h => And.intro (dT (and_T h).1) (dT (and_T h).2)) (and_T h).1) (dT (and_T h).2)) g
     refine ax_q (q_fadr_ptr rfl) ?_
     refine ax_q (q_ldN rfl rfl rfl) ?_
     first | refine ax_call rfl (vc_pure0 (c_sValueOK (v := e.Nodes[j].V) ?_) hP rfl rfl ?_) | refine ax_call rfl (vc_lend0 (c_sValueOK (v := e.Nodes[j].V) ?_) hP (by repeat (first | exact lal_id _ rfl | exact LAL.nil | refine LAL.cons ?_ ?_ | exact la_id _ rfl | exact LA.lend (lend_whole rfl (by first | (simp; done) | (rw [List.length_map]; rfl))) | refine LA.agg ?_ | refine LA.fn ?_ | refine LA.lend ?_ | exact Lend.d _ | exact Lend.zs _ | exact lend_whole rfl (by first | (simp; done) | (rw [List.length_map]; rfl)) | refine Lend.ptr rfl ?_ | refine Lend.fn ?_ | exact LendL.nil | refine LendL.cons ?_ ?_)) rfl rfl ?_)
     ·
      first | assumption | omega | (simp; done) | (simp; omega)
     exact ax_nil ⟨rfl, by repeat (first | exact trivial | refine ⟨rfl, ?_⟩ | refine ⟨?_, ?_⟩)⟩
    refine ax_q (q_mov rfl) ?_
    refine ax_q (q_mov rfl) ?_
    refine ax_q (q_mov rfl) ?_
    refine ax_nil ?_
    refine cx_keep rfl rfl ?_
    refine cx_ret (ret0 rfl rfl ?_)
    exact ⟨by rw [walkF_at hj, nodeW_1 h1]; rfl, rfl⟩
   ·
    have h1 := dF h1
    refine cx_seq ?_
    refine cx_ops ?_
    refine ax_q (q_fadr_ptr rfl) ?_
    refine ax_q (q_load1_ptr rfl rfl rfl) ?_
    refine ax_q (q_ibin rfl rfl rfl) ?_
    refine ax_q (q_mov rfl) ?_
    refine ax_nil ?_
    refine cx_keep rfl rfl ?_
    refine cx_cond rfl (fun h2 => ?_) (fun h2 => ?_)
    ·
     have h2 := dT h2
     refine cx_seq ?_
     refine cx_draw ?_
     refine ax_q (q_mov rfl) ?_
     refine ax_q (q_fadr_ptr rfl) ?_
     refine ax_q (q_load1_ptr rfl rfl rfl) ?_
     refine ax_q (q_ibin rfl rfl rfl) ?_
     refine ax_q (q_mov rfl) ?_
     apply ax_and rfl rfl
     ·
      intro g
      have g := dT g
      refine ax_q (q_fadr_ptr rfl) ?_
      refine ax_q (q_load1_ptr rfl rfl rfl) ?_
      refine ax_q (q_ibin rfl rfl rfl) ?_
      exact ax_nil ⟨rfl, by repeat (first | exact trivial | refine ⟨rfl, ?_⟩ | refine ⟨?_, ?_⟩)⟩
     refine ax_q (q_mov rfl) ?_
     apply ax_and rfl rfl
     ·
      intro g
      have g := (fun h => And.intro (dT (and_T h).1) (dT (and_T h).2)) g
      refine ax_q (q_fadr_ptr rfl) ?_
      refine ax_q (q_load1_ptr rfl rfl rfl) ?_
      first | refine ax_callq rfl (c_l01In  ) hP (lal_id _ rfl) rfl ?_ | refine ax_callq rfl (c_l01In  ) hP (by repeat (first | exact lal_id _ rfl | exact LAL.nil | refine LAL.cons ?_ ?_ | exact la_id _ rfl | exact LA.lend (lend_whole rfl (by first | (simp; done) | (rw [List.length_map]; rfl))) | refine LA.agg ?_ | refine LA.fn ?_ | refine LA.lend ?_ | exact Lend.d _ | exact Lend.zs _ | exact lend_whole rfl (by first | (simp; done) | (rw [List.length_map]; rfl)) | refine Lend.ptr rfl ?_ | refine Lend.fn ?_ | exact LendL.nil | refine LendL.cons ?_ ?_)) rfl ?_
      exact ax_nil ⟨rfl, by repeat (first | exact trivial | refine ⟨rfl, ?_⟩ | refine ⟨?_, ?_⟩)⟩
     refine ax_q (q_mov rfl) ?_
     apply ax_and rfl rfl
     ·
      intro g
      have g := (fun h => And.intro ((fun h => And.intro (dT (and_T h).1) (dT (and_T h).2)) (and_T h).1) (id (and_T h).2)) g
      refine ax_q (q_fadr_ptr rfl) ?_
      refine ax_q (q_ldN rfl rfl rfl) ?_
      refine ax_q (q_build rfl) ?_
      first | refine ax_q (GValue.q_eqs rfl rfl) ?_ | refine ax_q (q_eqs rfl rfl rfl) ?_
      exact ax_nil ⟨rfl, by repeat (first | exact trivial | refine ⟨rfl, ?_⟩ | refine ⟨?_, ?_⟩)⟩
     refine ax_q (q_mov rfl) ?_
     refine ax_q (q_mov rfl) ?_
     refine ax_q (q_mov rfl) ?_
     refine ax_nil ?_
     refine cx_keep rfl rfl ?_
     refine cx_ret (ret0 rfl rfl ?_)
     exact ⟨by rw [walkF_at hj, nodeW_2 h1 h2]; rfl, rfl⟩
    ·
     have h2 := dF h2
     refine cx_seq ?_
     refine cx_ops ?_
     refine ax_q (q_fadr_ptr rfl) ?_
     refine ax_q (q_load1_ptr rfl rfl rfl) ?_
     first | refine ax_call rfl (vc_pure0 (c_l01In  ) hP rfl rfl ?_) | refine ax_call rfl (vc_lend0 (c_l01In  ) hP (by repeat (first | exact lal_id _ rfl | exact LAL.nil | refine LAL.cons ?_ ?_ | exact la_id _ rfl | exact LA.lend (lend_whole rfl (by first | (simp; done) | (rw [List.length_map]; rfl))) | refine LA.agg ?_ | refine LA.fn ?_ | refine LA.lend ?_ | exact Lend.d _ | exact Lend.zs _ | exact lend_whole rfl (by first | (simp; done) | (rw [List.length_map]; rfl)) | refine Lend.ptr rfl ?_ | refine Lend.fn ?_ | exact LendL.nil | refine LendL.cons ?_ ?_)) rfl rfl ?_)
     refine ax_q (q_mov rfl) ?_
     refine ax_nil ?_
     refine cx_keep rfl rfl ?_
     refine cx_cond rfl (fun h3 => ?_) (fun h3 => ?_)
     ·
      skip
      refine cx_seq ?_
      refine cx_ops ?_
      refine ax_q (q_ldN rfl rfl rfl) ?_
      refine ax_q (q_mov rfl) ?_
      refine ax_q (q_sub rfl rfl (by omega)) ?_
      first | refine ax_call rfl (vc_pure0 (ih (i := (j : Int) - 1) ?_ ?_ ?_ ?_) hP rfl rfl ?_) | refine ax_call rfl (vc_lend0 (ih (i := (j : Int) - 1) ?_ ?_ ?_ ?_) hP (by repeat (first | exact lal_id _ rfl | exact LAL.nil | refine LAL.cons ?_ ?_ | exact la_id _ rfl | exact LA.lend (lend_whole rfl (by first | (simp; done) | (rw [List.length_map]; rfl))) | refine LA.agg ?_ | refine LA.fn ?_ | refine LA.lend ?_ | exact Lend.d _ | exact Lend.zs _ | exact lend_whole rfl (by first | (simp; done) | (rw [List.length_map]; rfl)) | refine Lend.ptr rfl ?_ | refine Lend.fn ?_ | exact LendL.nil | refine LendL.cons ?_ ?_)) rfl rfl ?_)
      ·
       first | assumption | omega | (simp; done) | (simp; omega)
      ·
       first | assumption | omega | (simp; done) | (simp; omega)
      ·
       first | assumption | omega | (simp; done) | (simp; omega)
      ·
       first | assumption | omega | (simp; done) | (simp; omega)
      refine ax_q (q_mov rfl) ?_
      refine ax_q (q_ext rfl rfl) ?_
      refine ax_q (q_ext rfl rfl) ?_
      refine ax_q (q_ext rfl rfl) ?_
      refine ax_q (q_mov rfl) ?_
      refine ax_q (q_mov rfl) ?_
      refine ax_q (q_mov rfl) ?_
      refine ax_nil ?_
      refine cx_keep rfl rfl ?_
      refine cx_seq ?_
      refine cx_draw ?_
      refine ax_q (q_mov rfl) ?_
      refine ax_q (q_mov rfl) ?_
      refine ax_q (q_add rfl rfl (by omega)) ?_
      refine ax_q (q_mov rfl) ?_
      refine ax_q (q_mov rfl) ?_
      apply ax_and rfl rfl
      ·
       intro g
       refine ax_q (q_fadr_ptr rfl) ?_
       refine ax_q (q_load1_ptr rfl rfl rfl) ?_
       refine ax_q (q_mov rfl) ?_
       refine ax_q (q_sub rfl rfl (by omega)) ?_
       refine ax_q (q_ibin rfl rfl rfl) ?_
       exact ax_nil ⟨rfl, by repeat (first | exact trivial | refine ⟨rfl, ?_⟩ | refine ⟨?_, ?_⟩)⟩
      refine ax_q (q_mov rfl) ?_
      apply ax_and rfl rfl
      ·
       intro g
       have g := (fun h => And.intro (id (and_T h).1) (dT (and_T h).2)) g
       refine ax_q (q_fadr_ptr rfl) ?_
       refine ax_q (q_load1_ptr rfl rfl rfl) ?_
       refine ax_q (q_ibin rfl rfl rfl) ?_
       exact ax_nil ⟨rfl, by repeat (first | exact trivial | refine ⟨rfl, ?_⟩ | refine ⟨?_, ?_⟩)⟩
      refine ax_q (q_mov rfl) ?_
      apply ax_and rfl rfl
      ·
       intro g
       have g := (fun h => And.intro ((fun h => And.intro (id (and_T h).1) (dT (and_T h).2)) (and_T h).1) (dT (and_T h).2)) g
       refine ax_q (q_fadr_ptr rfl) ?_
       refine ax_q (q_load1_ptr rfl rfl rfl) ?_
       refine ax_q (q_ibin rfl rfl rfl) ?_
       exact ax_nil ⟨rfl, by repeat (first | exact trivial | refine ⟨rfl, ?_⟩ | refine ⟨?_, ?_⟩)⟩
      refine ax_q (q_mov rfl) ?_
      apply ax_and rfl rfl
      ·
       intro g
       have g := (fun h => And.intro ((fun h => And.intro ((fun h => And.intro (id (and_T h).1) (dT (and_T h).2)) (and_T h).1) (dT (and_T h).2)) (and_T h).1) (dT (and_T h).2)) g
       refine ax_q (q_fadr_ptr rfl) ?_
       refine ax_q (q_ldN rfl rfl rfl) ?_
       refine ax_q (q_build rfl) ?_
       first | refine ax_q (GValue.q_eqs rfl rfl) ?_ | refine ax_q (q_eqs rfl rfl rfl) ?_
       exact ax_nil ⟨rfl, by repeat (first | exact trivial | refine ⟨rfl, ?_⟩ | refine ⟨?_, ?_⟩)⟩
      refine ax_q (q_mov rfl) ?_
      refine ax_q (q_mov rfl) ?_
      refine ax_q (q_mov rfl) ?_
      refine ax_nil ?_
      refine cx_keep rfl rfl ?_
      refine cx_ret (ret0 rfl rfl ?_)
      exact ⟨by rw [walkF_at hj, nodeW_3 h1 h2 h3]; rfl, rfl⟩
     ·
      skip
      refine cx_seq ?_
      refine cx_ops ?_
      refine ax_q (q_fadr_ptr rfl) ?_
      refine ax_q (q_load1_ptr rfl rfl rfl) ?_
      first | refine ax_call rfl (vc_pure0 (c_l01In  ) hP rfl rfl ?_) | refine ax_call rfl (vc_lend0 (c_l01In  ) hP (by repeat (first | exact lal_id _ rfl | exact LAL.nil | refine LAL.cons ?_ ?_ | exact la_id _ rfl | exact LA.lend (lend_whole rfl (by first | (simp; done) | (rw [List.length_map]; rfl))) | refine LA.agg ?_ | refine LA.fn ?_ | refine LA.lend ?_ | exact Lend.d _ | exact Lend.zs _ | exact lend_whole rfl (by first | (simp; done) | (rw [List.length_map]; rfl)) | refine Lend.ptr rfl ?_ | refine Lend.fn ?_ | exact LendL.nil | refine LendL.cons ?_ ?_)) rfl rfl ?_)
      refine ax_q (q_mov rfl) ?_
      refine ax_nil ?_
      refine cx_keep rfl rfl ?_
      refine cx_cond rfl (fun h4 => ?_) (fun h4 => ?_)
      ·
       skip
       refine cx_seq ?_
       refine cx_ops ?_
       refine ax_q (q_ldN rfl rfl rfl) ?_
       refine ax_q (q_mov rfl) ?_
       refine ax_q (q_sub rfl rfl (by omega)) ?_
       first | refine ax_call rfl (vc_pure0 (ih (i := (j : Int) - 1) ?_ ?_ ?_ ?_) hP rfl rfl ?_) | refine ax_call rfl (vc_lend0 (ih (i := (j : Int) - 1) ?_ ?_ ?_ ?_) hP (by repeat (first | exact lal_id _ rfl | exact LAL.nil | refine LAL.cons ?_ ?_ | exact la_id _ rfl | exact LA.lend (lend_whole rfl (by first | (simp; done) | (rw [List.length_map]; rfl))) | refine LA.agg ?_ | refine LA.fn ?_ | refine LA.lend ?_ | exact Lend.d _ | exact Lend.zs _ | exact lend_whole rfl (by first | (simp; done) | (rw [List.length_map]; rfl)) | refine Lend.ptr rfl ?_ | refine Lend.fn ?_ | exact LendL.nil | refine LendL.cons ?_ ?_)) rfl rfl ?_)
       ·
        first | assumption | omega | (simp; done) | (simp; omega)
       ·
        first | assumption | omega | (simp; done) | (simp; omega)
       ·
        first | assumption | omega | (simp; done) | (simp; omega)
       ·
        first | assumption | omega | (simp; done) | (simp; omega)
       refine ax_q (q_mov rfl) ?_
       refine ax_q (q_ext rfl rfl) ?_
       refine ax_q (q_ext rfl rfl) ?_
       refine ax_q (q_ext rfl rfl) ?_
       refine ax_q (q_mov rfl) ?_
       refine ax_q (q_mov rfl) ?_
       refine ax_q (q_mov rfl) ?_
       refine ax_nil ?_
       refine cx_keep rfl rfl ?_
       refine cx_seq ?_
       refine cx_seq ?_
       refine cx_ops ?_
       refine ax_q (q_mov rfl) ?_
       refine ax_q (q_not rfl) ?_
       refine ax_nil ?_
       refine cx_keep rfl rfl ?_
       refine cx_cond rfl (fun h5 => ?_) (fun h5 => ?_)
       ·
        have h5 := bT h5
        refine cx_seq ?_
        refine cx_ops ?_
        refine ax_q (q_mov rfl) ?_
        refine ax_q (q_mov rfl) ?_
        refine ax_q (q_mov rfl) ?_
        refine ax_nil ?_
        refine cx_keep rfl rfl ?_
        refine cx_ret (ret0 rfl rfl ?_)
        exact ⟨by rw [walkF_at hj, nodeW_4 h1 h2 h3 h4 h5]; rfl, rfl⟩
       ·
        have h5 := bF h5
        refine cx_skip ?_
        refine cx_keep rfl rfl ?_
        refine cx_seq ?_
        refine cx_ops ?_
        refine ax_q (q_ldN rfl rfl rfl) ?_
        refine ax_q (q_mov rfl) ?_
        refine ax_q (q_sub rfl rfl (by omega)) ?_
        first | refine ax_call rfl (vc_pure0 (ih (i := (walkF e.Nodes f ((j : Int) - 1)).1 - 1) ?_ ?_ ?_ ?_) hP rfl rfl ?_) | refine ax_call rfl (vc_lend0 (ih (i := (walkF e.Nodes f ((j : Int) - 1)).1 - 1) ?_ ?_ ?_ ?_) hP (by repeat (first | exact lal_id _ rfl | exact LAL.nil | refine LAL.cons ?_ ?_ | exact la_id _ rfl | exact LA.lend (lend_whole rfl (by first | (simp; done) | (rw [List.length_map]; rfl))) | refine LA.agg ?_ | refine LA.fn ?_ | refine LA.lend ?_ | exact Lend.d _ | exact Lend.zs _ | exact lend_whole rfl (by first | (simp; done) | (rw [List.length_map]; rfl)) | refine Lend.ptr rfl ?_ | refine Lend.fn ?_ | exact LendL.nil | refine LendL.cons ?_ ?_)) rfl rfl ?_)
        ·
         first | assumption | omega | (simp; done) | (simp; omega)
        ·
         first | assumption | omega | (simp; done) | (simp; omega)
        ·
         first | assumption | omega | (simp; done) | (simp; omega)
        ·
         first | assumption | omega | (simp; done) | (simp; omega)
        refine ax_q (q_mov rfl) ?_
        refine ax_q (q_ext rfl rfl) ?_
        refine ax_q (q_ext rfl rfl) ?_
        refine ax_q (q_ext rfl rfl) ?_
        refine ax_q (q_mov rfl) ?_
        refine ax_q (q_mov rfl) ?_
        refine ax_q (q_mov rfl) ?_
        refine ax_nil ?_
        refine cx_keep rfl rfl ?_
        refine cx_seq ?_
        refine cx_draw ?_
        refine ax_q (q_mov rfl) ?_
        refine ax_q (q_mov rfl) ?_
        refine ax_q (q_mov rfl) ?_
        refine ax_qe (r' := int (mxI (walkF e.Nodes f ((walkF e.Nodes f ((j : Int) - 1)).1 - 1)).2.1 (walkF e.Nodes f ((j : Int) - 1)).2.1)) (q_mx rfl rfl) (rfl) ?_
        refine ax_q (q_add rfl rfl (by omega)) ?_
        refine ax_q (q_mov rfl) ?_
        refine ax_q (q_mov rfl) ?_
        apply ax_and rfl rfl
        ·
         intro g
         refine ax_q (q_fadr_ptr rfl) ?_
         refine ax_q (q_load1_ptr rfl rfl rfl) ?_
         refine ax_q (q_mov rfl) ?_
         refine ax_q (q_sub rfl rfl (by omega)) ?_
         refine ax_q (q_ibin rfl rfl rfl) ?_
         exact ax_nil ⟨rfl, by repeat (first | exact trivial | refine ⟨rfl, ?_⟩ | refine ⟨?_, ?_⟩)⟩
        refine ax_q (q_mov rfl) ?_
        apply ax_and rfl rfl
        ·
         intro g
         have g := (fun h => And.intro (id (and_T h).1) (dT (and_T h).2)) g
         refine ax_q (q_fadr_ptr rfl) ?_
         refine ax_q (q_load1_ptr rfl rfl rfl) ?_
         refine ax_q (q_mov rfl) ?_
         refine ax_q (q_sub rfl rfl (by omega)) ?_
         refine ax_q (q_ibin rfl rfl rfl) ?_
         exact ax_nil ⟨rfl, by repeat (first | exact trivial | refine ⟨rfl, ?_⟩ | refine ⟨?_, ?_⟩)⟩
        refine ax_q (q_mov rfl) ?_
        apply ax_and rfl rfl
        ·
         intro g
         have g := (fun h => And.intro ((fun h => And.intro (id (and_T h).1) (dT (and_T h).2)) (and_T h).1) (dT (and_T h).2)) g
         refine ax_q (q_fadr_ptr rfl) ?_
         refine ax_q (q_load1_ptr rfl rfl rfl) ?_
         refine ax_q (q_ibin rfl rfl rfl) ?_
         exact ax_nil ⟨rfl, by repeat (first | exact trivial | refine ⟨rfl, ?_⟩ | refine ⟨?_, ?_⟩)⟩
        refine ax_q (q_mov rfl) ?_
        apply ax_and rfl rfl
        ·
         intro g
         have g := (fun h => And.intro ((fun h => And.intro ((fun h => And.intro (id (and_T h).1) (dT (and_T h).2)) (and_T h).1) (dT (and_T h).2)) (and_T h).1) (dT (and_T h).2)) g
         refine ax_q (q_fadr_ptr rfl) ?_
         refine ax_q (q_ldN rfl rfl rfl) ?_
         refine ax_q (q_build rfl) ?_
         first | refine ax_q (GValue.q_eqs rfl rfl) ?_ | refine ax_q (q_eqs rfl rfl rfl) ?_
         exact ax_nil ⟨rfl, by repeat (first | exact trivial | refine ⟨rfl, ?_⟩ | refine ⟨?_, ?_⟩)⟩
        refine ax_q (q_mov rfl) ?_
        refine ax_q (q_mov rfl) ?_
        refine ax_q (q_mov rfl) ?_
        refine ax_nil ?_
        refine cx_keep rfl rfl ?_
        refine cx_ret (ret0 rfl rfl ?_)
        exact ⟨by rw [walkF_at hj, nodeW_5 h1 h2 h3 h4 h5]; rfl, rfl⟩
      ·
       skip
       refine cx_skip ?_
       refine cx_keep rfl rfl ?_
       refine cx_seq ?_
       refine cx_ops ?_
       refine ax_q (q_mov rfl) ?_
       refine ax_q (q_mov rfl) ?_
       refine ax_q (q_mov rfl) ?_
       refine ax_nil ?_
       refine cx_keep rfl rfl ?_
       refine cx_ret (ret0 rfl rfl ?_)
       exact ⟨by rw [walkF_at hj, nodeW_6 h1 h2 h3 h4]; rfl, rfl⟩


/- loop.example/g00332/spec.ExprOK -/
def k_c_sExprOK : XCode :=
 .seq (.ops [.op (some 1) (.box (.t 0)),
   .op (some 2) (.mov (.k (.bool false)))])
 (.keep [1] (.seq (.seq (.ops [.op (some 6) (.fadr (.t 1) 0),
   .op (some 7) (.load1 (.t 6)),
   .op (some 8) (.lenS (.t 7)),
   .call (some 9) 45 [.t 8, .k (.int .i64 1), .k (.int .i64 40)],
   .op (some 10) (.not (.t 9))])
  (.keep [1, 10] (.cond (.t 10)
  (.seq (.ops [.op (some 2) (.mov (.k (.bool false)))])
   (.keep [2] (.ret)))
  (.skip))))
 (.keep [1] (.seq (.ops [.op (some 12) (.loadN 1 (.t 1)),
   .op (some 13) (.fadr (.t 1) 0),
   .op (some 14) (.load1 (.t 13)),
   .op (some 15) (.lenS (.t 14)),
   .op (some 16) (.bin .sub (.t 15) (.k (.int .i64 1))),
   .call (some 17) 75 [.t 12, .t 16],
   .op (some 11) (.mov (.t 17)),
   .op (some 18) (.ext (.t 11) 0),
   .op (some 19) (.ext (.t 11) 1),
   .op (some 20) (.ext (.t 11) 2),
   .op (some 3) (.mov (.t 18)),
   .op (some 4) (.mov (.t 19)),
   .op (some 5) (.mov (.t 20))])
 (.keep [3, 4, 5] (.seq (.ops [.op (some 21) (.mov (.t 5)),
   .op (some 22) (.mov (.t 21)),
   .andor 25 true 1 22 [.op (some 23) (.mov (.t 3)), .op (some 24) (.bin .eql (.t 23) (.k (.int .i64 0)))] (.t 24),
   .op (some 26) (.mov (.t 25)),
   .andor 29 true 5 26 [.op (some 27) (.mov (.t 4)), .op (some 28) (.bin .leq (.t 27) (.k (.int .i64 12)))] (.t 28),
   .op (some 2) (.mov (.t 29))])
 (.keep [2] (.ret))))))))
theorem k_c_sExprOK_fits : fitsF Try.prog 47 ⟨30, k_c_sExprOK, [.t 2]⟩ = true := by kernel_rfl
theorem c_sExprOK {e : GExpr} (hw : e.Nodes.length ≤ 1048576) (hv : ∀ x ∈ e.Nodes, x.V.T.length ≤ 1048576) : Con Try.prog noMv 47 [e.av] [] (fun r h => r = bool (exprOK e) ∧ h = []) := by
 refine con_of2 k_c_sExprOK_fits rfl fun C hP hmv => ?_
 unfold k_c_sExprOK
 refine cx_seq ?_
 refine cx_ops ?_
 refine ax_e (e_box rfl rfl (by decide) rfl rfl rfl) ?_
 refine ax_q (q_mov rfl) ?_
 refine ax_nil ?_
 refine cx_keep rfl rfl ?_
 refine cx_seq ?_
 refine cx_seq ?_
 refine cx_ops ?_
 refine ax_q (q_fadr_ptr rfl) ?_
 refine ax_q (q_load1_ptr rfl rfl rfl) ?_
 first | refine ax_q (q_lenS_map rfl) ?_ | refine ax_q (q_lenS_osl rfl) ?_ | refine ax_q (q_lenS_zs rfl) ?_ | refine ax_q (q_lenS rfl) ?_
 first | refine ax_call rfl (vc_pure0 (c_l01In  ) hP rfl rfl ?_) | refine ax_call rfl (vc_lend0 (c_l01In  ) hP (by repeat (first | exact lal_id _ rfl | exact LAL.nil | refine LAL.cons ?_ ?_ | exact la_id _ rfl | exact LA.lend (lend_whole rfl (by first | (simp; done) | (rw [List.length_map]; rfl))) | refine LA.agg ?_ | refine LA.fn ?_ | refine LA.lend ?_ | exact Lend.d _ | exact Lend.zs _ | exact lend_whole rfl (by first | (simp; done) | (rw [List.length_map]; rfl)) | refine Lend.ptr rfl ?_ | refine Lend.fn ?_ | exact LendL.nil | refine LendL.cons ?_ ?_)) rfl rfl ?_)
 refine ax_q (q_not rfl) ?_
 refine ax_nil ?_
 refine cx_keep rfl rfl ?_
 refine cx_cond rfl (fun h0 => ?_) (fun h0 => ?_)
 ·
  have h0 := bT h0
  refine cx_seq ?_
  refine cx_ops ?_
  refine ax_q (q_mov rfl) ?_
  refine ax_nil ?_
  refine cx_keep rfl rfl ?_
  refine cx_ret (ret0 rfl rfl ?_)
  exact ⟨by rw [exprOK_0 h0]; rfl, rfl⟩
 ·
  have h0 := bF h0
  have hn := inR_iff.1 h0
  refine cx_skip ?_
  refine cx_keep rfl rfl ?_
  refine cx_seq ?_
  refine cx_ops ?_
  refine ax_q (q_ldN rfl rfl rfl) ?_
  refine ax_q (q_fadr_ptr rfl) ?_
  refine ax_q (q_load1_ptr rfl rfl rfl) ?_
  first | refine ax_q (q_lenS_map rfl) ?_ | refine ax_q (q_lenS_osl rfl) ?_ | refine ax_q (q_lenS_zs rfl) ?_ | refine ax_q (q_lenS rfl) ?_
  refine ax_q (q_sub rfl rfl (by omega)) ?_
  first | refine ax_call rfl (vc_pure0 (c_l10Walk (f := e.Nodes.length + 1) ?_ ?_ ?_ ?_ ?_ ?_) hP rfl rfl ?_) | refine ax_call rfl (vc_lend0 (c_l10Walk (f := e.Nodes.length + 1) ?_ ?_ ?_ ?_ ?_ ?_) hP (by repeat (first | exact lal_id _ rfl | exact LAL.nil | refine LAL.cons ?_ ?_ | exact la_id _ rfl | exact LA.lend (lend_whole rfl (by first | (simp; done) | (rw [List.length_map]; rfl))) | refine LA.agg ?_ | refine LA.fn ?_ | refine LA.lend ?_ | exact Lend.d _ | exact Lend.zs _ | exact lend_whole rfl (by first | (simp; done) | (rw [List.length_map]; rfl)) | refine Lend.ptr rfl ?_ | refine Lend.fn ?_ | exact LendL.nil | refine LendL.cons ?_ ?_)) rfl rfl ?_)
  ·
   first | assumption | omega | (simp; done) | (simp; omega)
  ·
   first | assumption | omega | (simp; done) | (simp; omega)
  ·
   first | assumption | omega | (simp; done) | (simp; omega)
  ·
   first | assumption | omega | (simp; done) | (simp; omega)
  ·
   first | assumption | omega | (simp; done) | (simp; omega)
  ·
   first | assumption | omega | (simp; done) | (simp; omega)
  refine ax_q (q_mov rfl) ?_
  refine ax_q (q_ext rfl rfl) ?_
  refine ax_q (q_ext rfl rfl) ?_
  refine ax_q (q_ext rfl rfl) ?_
  refine ax_q (q_mov rfl) ?_
  refine ax_q (q_mov rfl) ?_
  refine ax_q (q_mov rfl) ?_
  refine ax_nil ?_
  refine cx_keep rfl rfl ?_
  refine cx_seq ?_
  refine cx_ops ?_
  refine ax_q (q_mov rfl) ?_
  refine ax_q (q_mov rfl) ?_
  apply ax_and rfl rfl
  ·
   intro g
   refine ax_q (q_mov rfl) ?_
   refine ax_q (q_ibin rfl rfl rfl) ?_
   exact ax_nil ⟨rfl, by repeat (first | exact trivial | refine ⟨rfl, ?_⟩ | refine ⟨?_, ?_⟩)⟩
  refine ax_q (q_mov rfl) ?_
  apply ax_and rfl rfl
  ·
   intro g
   have g := (fun h => And.intro (id (and_T h).1) (dT (and_T h).2)) g
   refine ax_q (q_mov rfl) ?_
   refine ax_q (q_ibin rfl rfl rfl) ?_
   exact ax_nil ⟨rfl, by repeat (first | exact trivial | refine ⟨rfl, ?_⟩ | refine ⟨?_, ?_⟩)⟩
  refine ax_q (q_mov rfl) ?_
  refine ax_nil ?_
  refine cx_keep rfl rfl ?_
  refine cx_ret (ret0 rfl rfl ?_)
  exact ⟨by rw [exprOK_1 h0]; rfl, rfl⟩


/- loop.example/g00332/spec.l07Row -/
def k_c_l07Row : XCode :=
 .seq (.ops [.op (some 1) (.box (.t 0)),
   .op (some 2) (.mov (.k (.bool false)))])
 (.keep [1] (.seq (.ops [.op (some 3) (.fadr (.t 1) 0),
   .op (some 4) (.load1 (.t 3)),
   .call (some 5) 45 [.t 4, .k (.int .i64 0), .k (.int .i64 1000)],
   .op (some 6) (.mov (.t 5)),
   .andor 10 true 3 6 [.op (some 7) (.fadr (.t 1) 1), .op (some 8) (.loadN 3 (.t 7)), .call (some 9) 72 [.t 8]] (.t 9),
   .op (some 11) (.mov (.t 10)),
   .andor 15 true 8 11 [.op (some 12) (.fadr (.t 1) 4), .op (some 13) (.loadN 3 (.t 12)), .call (some 14) 72 [.t 13]] (.t 14),
   .op (some 16) (.mov (.t 15)),
   .andor 21 true 13 16 [.op (some 17) (.fadr (.t 1) 1), .op (some 18) (.fadr (.t 17) 0), .op (some 19) (.load1 (.t 18)), .op (some 20) (.bin .neq (.t 19) (.k (.int .i64 2)))] (.t 20),
   .op (some 22) (.mov (.t 21)),
   .andor 27 true 19 22 [.op (some 23) (.fadr (.t 1) 4), .op (some 24) (.fadr (.t 23) 0), .op (some 25) (.load1 (.t 24)), .op (some 26) (.bin .neq (.t 25) (.k (.int .i64 1)))] (.t 26),
   .op (some 2) (.mov (.t 27))])
 (.keep [2] (.ret))))
theorem k_c_l07Row_fits : fitsF Try.prog 48 ⟨28, k_c_l07Row, [.t 2]⟩ = true := by kernel_rfl
theorem c_l07Row {a : GRow} (hv : a.N.T.length ≤ 1048576) (hw : a.Name.T.length ≤ 1048576) : Con Try.prog noMv 48 [a.av] [] (fun r h => r = bool (rowOK a) ∧ h = []) := by
 refine con_of2 k_c_l07Row_fits rfl fun C hP hmv => ?_
 unfold k_c_l07Row
 refine cx_seq ?_
 refine cx_ops ?_
 refine ax_e (e_box rfl rfl (by decide) rfl rfl rfl) ?_
 refine ax_q (q_mov rfl) ?_
 refine ax_nil ?_
 refine cx_keep rfl rfl ?_
 refine cx_seq ?_
 refine cx_ops ?_
 refine ax_q (q_fadr_ptr rfl) ?_
 refine ax_q (q_load1_ptr rfl rfl rfl) ?_
 first | refine ax_call rfl (vc_pure0 (c_l01In  ) hP rfl rfl ?_) | refine ax_call rfl (vc_lend0 (c_l01In  ) hP (by repeat (first | exact lal_id _ rfl | exact LAL.nil | refine LAL.cons ?_ ?_ | exact la_id _ rfl | exact LA.lend (lend_whole rfl (by first | (simp; done) | (rw [List.length_map]; rfl))) | refine LA.agg ?_ | refine LA.fn ?_ | refine LA.lend ?_ | exact Lend.d _ | exact Lend.zs _ | exact lend_whole rfl (by first | (simp; done) | (rw [List.length_map]; rfl)) | refine Lend.ptr rfl ?_ | refine Lend.fn ?_ | exact LendL.nil | refine LendL.cons ?_ ?_)) rfl rfl ?_)
 refine ax_q (q_mov rfl) ?_
 apply ax_and rfl rfl
 ·
  intro g
  refine ax_q (q_fadr_ptr rfl) ?_
  refine ax_q (q_ldN rfl rfl rfl) ?_
  first | refine ax_call rfl (vc_pure0 (c_sValueOK (v := a.N) ?_) hP rfl rfl ?_) | refine ax_call rfl (vc_lend0 (c_sValueOK (v := a.N) ?_) hP (by repeat (first | exact lal_id _ rfl | exact LAL.nil | refine LAL.cons ?_ ?_ | exact la_id _ rfl | exact LA.lend (lend_whole rfl (by first | (simp; done) | (rw [List.length_map]; rfl))) | refine LA.agg ?_ | refine LA.fn ?_ | refine LA.lend ?_ | exact Lend.d _ | exact Lend.zs _ | exact lend_whole rfl (by first | (simp; done) | (rw [List.length_map]; rfl)) | refine Lend.ptr rfl ?_ | refine Lend.fn ?_ | exact LendL.nil | refine LendL.cons ?_ ?_)) rfl rfl ?_)
  ·
   first | assumption | omega | (simp; done) | (simp; omega)
  exact ax_nil ⟨rfl, by repeat (first | exact trivial | refine ⟨rfl, ?_⟩ | refine ⟨?_, ?_⟩)⟩
 refine ax_q (q_mov rfl) ?_
 apply ax_and rfl rfl
 ·
  intro g
  have g := (fun h => And.intro (id (and_T h).1) (id (and_T h).2)) g
  refine ax_q (q_fadr_ptr rfl) ?_
  refine ax_q (q_ldN rfl rfl rfl) ?_
  first | refine ax_call rfl (vc_pure0 (c_sValueOK (v := a.Name) ?_) hP rfl rfl ?_) | refine ax_call rfl (vc_lend0 (c_sValueOK (v := a.Name) ?_) hP (by repeat (first | exact lal_id _ rfl | exact LAL.nil | refine LAL.cons ?_ ?_ | exact la_id _ rfl | exact LA.lend (lend_whole rfl (by first | (simp; done) | (rw [List.length_map]; rfl))) | refine LA.agg ?_ | refine LA.fn ?_ | refine LA.lend ?_ | exact Lend.d _ | exact Lend.zs _ | exact lend_whole rfl (by first | (simp; done) | (rw [List.length_map]; rfl)) | refine Lend.ptr rfl ?_ | refine Lend.fn ?_ | exact LendL.nil | refine LendL.cons ?_ ?_)) rfl rfl ?_)
  ·
   first | assumption | omega | (simp; done) | (simp; omega)
  exact ax_nil ⟨rfl, by repeat (first | exact trivial | refine ⟨rfl, ?_⟩ | refine ⟨?_, ?_⟩)⟩
 refine ax_q (q_mov rfl) ?_
 apply ax_and rfl rfl
 ·
  intro g
  have g := (fun h => And.intro ((fun h => And.intro (id (and_T h).1) (id (and_T h).2)) (and_T h).1) (id (and_T h).2)) g
  refine ax_q (q_fadr_ptr rfl) ?_
  refine ax_q (q_fadr_ptr rfl) ?_
  refine ax_q (q_load1_ptr rfl rfl rfl) ?_
  refine ax_q (q_ibin rfl rfl rfl) ?_
  exact ax_nil ⟨rfl, by repeat (first | exact trivial | refine ⟨rfl, ?_⟩ | refine ⟨?_, ?_⟩)⟩
 refine ax_q (q_mov rfl) ?_
 apply ax_and rfl rfl
 ·
  intro g
  have g := (fun h => And.intro ((fun h => And.intro ((fun h => And.intro (id (and_T h).1) (id (and_T h).2)) (and_T h).1) (id (and_T h).2)) (and_T h).1) (nT (and_T h).2)) g
  refine ax_q (q_fadr_ptr rfl) ?_
  refine ax_q (q_fadr_ptr rfl) ?_
  refine ax_q (q_load1_ptr rfl rfl rfl) ?_
  refine ax_q (q_ibin rfl rfl rfl) ?_
  exact ax_nil ⟨rfl, by repeat (first | exact trivial | refine ⟨rfl, ?_⟩ | refine ⟨?_, ?_⟩)⟩
 refine ax_q (q_mov rfl) ?_
 refine ax_nil ?_
 refine cx_keep rfl rfl ?_
 refine cx_ret (ret0 rfl rfl ?_)
 exact ⟨rfl, rfl⟩


/- loop.example/g00332/spec.l10Int -/
def k_c_sInt : XCode :=
 .seq (.ops [.op (some 2) (.alloc [.int .i64 0, .int .i64 0, .str []])])
 (.keep [0, 2] (.seq (.ops [.op (some 3) (.mov (.t 0)),
   .op (some 4) (.build [.int .i64 0, .int .i64 0, .str []] [(0, 1, .k (.int .i64 1)), (1, 1, .t 3)]),
   .op none (.store 3 (.t 2) (.t 4))])
 (.keep [2] (.ret))))
theorem k_c_sInt_fits : fitsF Try.prog 86 ⟨5, k_c_sInt, [.cN 2 3]⟩ = true := by kernel_rfl
theorem c_sInt {n : Int} : Con Try.prog noMv 86 [int n] [] (fun r h => r = (vI n).av ∧ h = []) := by
 refine con_of2 k_c_sInt_fits rfl fun C hP hmv => ?_
 unfold k_c_sInt
 refine cx_seq ?_
 refine cx_ops ?_
 refine ax_e (e_alloc (by decide) rfl rfl) ?_
 refine ax_nil ?_
 refine cx_keep rfl rfl ?_
 refine cx_seq ?_
 refine cx_ops ?_
 refine ax_q (q_mov rfl) ?_
 refine ax_q (q_build rfl) ?_
 refine ax_e (e_st rfl rfl rfl rfl rfl rfl rfl) ?_
 refine ax_nil ?_
 refine cx_keep rfl rfl ?_
 refine cx_ret (ret0 rfl rfl ?_)
 exact ⟨rfl, rfl⟩


/- loop.example/g00332/spec.l10Column -/
def k_c_sColumn : XCode :=
 .seq (.ops [.op (some 2) (.box (.t 0)),
   .op (some 4) (.alloc [.int .i64 0, .int .i64 0, .str []])])
 (.keep [1, 2, 4] (.seq (.seq (.ops [.op (some 5) (.mov (.t 1))])
  (.keep [2, 4, 5] (.block 0 (.seq (.ops [.op (some 7) (.bin .eql (.t 5) (.k (.int .i64 0))),
    .op (some 6) (.mov (.t 7))])
  (.keep [2, 4, 5, 6] (.cond (.t 6)
   (.seq (.ops [.op (some 8) (.fadr (.t 2) 0),
     .op (some 9) (.load1 (.t 8)),
     .call (some 10) 86 [.t 9],
     .op none (.store 3 (.t 4) (.t 10))])
   (.keep [4] (.ret)))
   (.seq (.ops [.op (some 12) (.bin .eql (.t 5) (.k (.int .i64 1))),
     .op (some 11) (.mov (.t 12))])
   (.keep [2, 4, 11] (.cond (.t 11)
    (.seq (.ops [.op (some 13) (.fadr (.t 2) 1),
      .op (some 14) (.loadN 3 (.t 13)),
      .op none (.store 3 (.t 4) (.t 14))])
    (.keep [4] (.ret)))
    (.skip))))))))))
 (.keep [2, 4] (.seq (.ops [.op (some 15) (.fadr (.t 2) 4),
   .op (some 16) (.loadN 3 (.t 15)),
   .op none (.store 3 (.t 4) (.t 16))])
 (.keep [4] (.ret))))))
theorem k_c_sColumn_fits : fitsF Try.prog 84 ⟨17, k_c_sColumn, [.cN 4 3]⟩ = true := by kernel_rfl
theorem c_sColumn {w : GRow} {k : Int} : Con Try.prog noMv 84 [w.av, int k] [] (fun r h => r = (colF w k).av ∧ h = []) := by
 refine con_of2 k_c_sColumn_fits rfl fun C hP hmv => ?_
 unfold k_c_sColumn
 refine cx_seq ?_
 refine cx_ops ?_
 refine ax_e (e_box rfl rfl (by decide) rfl rfl rfl) ?_
 refine ax_e (e_alloc (by decide) rfl rfl) ?_
 refine ax_nil ?_
 refine cx_keep rfl rfl ?_
 refine cx_seq ?_
 refine cx_seq ?_
 refine cx_ops ?_
 refine ax_q (q_mov rfl) ?_
 refine ax_nil ?_
 refine cx_keep rfl rfl ?_
 refine cx_block ?_
 refine cx_seq ?_
 refine cx_ops ?_
 refine ax_q (q_ibin rfl rfl rfl) ?_
 refine ax_q (q_mov rfl) ?_
 refine ax_nil ?_
 refine cx_keep rfl rfl ?_
 refine cx_cond rfl (fun h0 => ?_) (fun h0 => ?_)
 ·
  have h0 := dT h0
  refine cx_seq ?_
  refine cx_ops ?_
  refine ax_q (q_fadr_ptr rfl) ?_
  refine ax_q (q_load1_ptr rfl rfl rfl) ?_
  first | refine ax_call rfl (vc_pure0 (c_sInt  ) hP rfl rfl ?_) | refine ax_call rfl (vc_lend0 (c_sInt  ) hP (by repeat (first | exact lal_id _ rfl | exact LAL.nil | refine LAL.cons ?_ ?_ | exact la_id _ rfl | exact LA.lend (lend_whole rfl (by first | (simp; done) | (rw [List.length_map]; rfl))) | refine LA.agg ?_ | refine LA.fn ?_ | refine LA.lend ?_ | exact Lend.d _ | exact Lend.zs _ | exact lend_whole rfl (by first | (simp; done) | (rw [List.length_map]; rfl)) | refine Lend.ptr rfl ?_ | refine Lend.fn ?_ | exact LendL.nil | refine LendL.cons ?_ ?_)) rfl rfl ?_)
  refine ax_e (e_st rfl rfl rfl rfl rfl rfl rfl) ?_
  refine ax_nil ?_
  refine cx_keep rfl rfl ?_
  refine cx_ret (ret0 rfl rfl ?_)
  exact ⟨by unfold colF; rw [if_pos h0]; rfl, rfl⟩
 ·
  have h0 := dF h0
  refine cx_seq ?_
  refine cx_ops ?_
  refine ax_q (q_ibin rfl rfl rfl) ?_
  refine ax_q (q_mov rfl) ?_
  refine ax_nil ?_
  refine cx_keep rfl rfl ?_
  refine cx_cond rfl (fun h1 => ?_) (fun h1 => ?_)
  ·
   have h1 := dT h1
   refine cx_seq ?_
   refine cx_ops ?_
   refine ax_q (q_fadr_ptr rfl) ?_
   refine ax_q (q_ldN rfl rfl rfl) ?_
   refine ax_e (e_st rfl rfl rfl rfl rfl rfl rfl) ?_
   refine ax_nil ?_
   refine cx_keep rfl rfl ?_
   refine cx_ret (ret0 rfl rfl ?_)
   exact ⟨by unfold colF; rw [if_neg h0, if_pos h1]; rfl, rfl⟩
  ·
   have h1 := dF h1
   refine cx_skip ?_
   refine cx_keep rfl rfl ?_
   refine cx_seq ?_
   refine cx_ops ?_
   refine ax_q (q_fadr_ptr rfl) ?_
   refine ax_q (q_ldN rfl rfl rfl) ?_
   refine ax_e (e_st rfl rfl rfl rfl rfl rfl rfl) ?_
   refine ax_nil ?_
   refine cx_keep rfl rfl ?_
   refine cx_ret (ret0 rfl rfl ?_)
   exact ⟨by unfold colF; rw [if_neg h0, if_neg h1]; rfl, rfl⟩


/- loop.example/g00332/spec.l01Bit -/
def k_c_l01Bit : XCode :=
 .seq (.ops [.op (some 2) (.mov (.k (.int .i64 0)))])
 (.keep [0] (.seq (.seq (.ops [.op (some 3) (.mov (.t 0))])
  (.keep [3] (.cond (.t 3)
  (.seq (.ops [.op (some 2) (.mov (.k (.int .i64 1)))])
   (.keep [2] (.ret)))
  (.skip))))
 (.keep [] (.seq (.ops [.op (some 2) (.mov (.k (.int .i64 0)))])
 (.keep [2] (.ret))))))
theorem k_c_l01Bit_fits : fitsF Try.prog 80 ⟨4, k_c_l01Bit, [.t 2]⟩ = true := by kernel_rfl
theorem c_l01Bit {b : Bool} : Con Try.prog noMv 80 [bool b] [] (fun r h => r = int (bitI b) ∧ h = []) := by
 refine con_of2 k_c_l01Bit_fits rfl fun C hP hmv => ?_
 unfold k_c_l01Bit
 refine cx_seq ?_
 refine cx_ops ?_
 refine ax_q (q_mov rfl) ?_
 refine ax_nil ?_
 refine cx_keep rfl rfl ?_
 refine cx_seq ?_
 refine cx_seq ?_
 refine cx_ops ?_
 refine ax_q (q_mov rfl) ?_
 refine ax_nil ?_
 refine cx_keep rfl rfl ?_
 refine cx_cond rfl (fun h0 => ?_) (fun h0 => ?_)
 ·
  skip
  refine cx_seq ?_
  refine cx_ops ?_
  refine ax_q (q_mov rfl) ?_
  refine ax_nil ?_
  refine cx_keep rfl rfl ?_
  refine cx_ret (ret0 rfl rfl ?_)
  exact ⟨by rw [h0]; rfl, rfl⟩
 ·
  skip
  refine cx_skip ?_
  refine cx_keep rfl rfl ?_
  refine cx_seq ?_
  refine cx_ops ?_
  refine ax_q (q_mov rfl) ?_
  refine ax_nil ?_
  refine cx_keep rfl rfl ?_
  refine cx_ret (ret0 rfl rfl ?_)
  exact ⟨by rw [h0]; rfl, rfl⟩

end Go.Proofs.Ytalnddcijlkklaa
