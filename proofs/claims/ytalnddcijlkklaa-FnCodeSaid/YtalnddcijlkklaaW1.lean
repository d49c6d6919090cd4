/- The walks: what each function computes, as a contract without a world (part 1). -/
import Derived.Test.YtalnddcijlkklaaProg
import Derived.Test.YtalnddcijlkklaaW0
namespace Go.Proofs.Ytalnddcijlkklaa
open Go Go.AM
set_option maxRecDepth 10000
set_option linter.unusedVariables false
/- loop.example/g00332/spec.l10Unary -/
def k_c_sUnary : XCode :=
 .seq (.ops [.op (some 3) (.box (.t 1)),
   .op (some 4) (.alloc [.int .i64 0, .int .i64 0, .str []]),
   .op (some 5) (.mov (.k (.int .i64 0)))])
 (.keep [0, 3, 4] (.seq (.block 0 (.seq (.ops [.op (some 7) (.mov (.t 0)),
    .op (some 8) (.bin .eql (.t 7) (.k (.int .i64 4))),
    .op (some 6) (.mov (.t 8))])
  (.keep [0, 3, 4, 6] (.cond (.t 6)
   (.seq (.ops [.op (some 9) (.fadr (.t 3) 0),
     .op (some 10) (.load1 (.t 9)),
     .op (some 11) (.bin .eql (.t 10) (.k (.int .i64 0))),
     .call (some 12) 80 [.t 11],
     .call (some 13) 86 [.t 12],
     .op none (.store 3 (.t 4) (.t 13)),
     .op (some 5) (.mov (.k (.int .i64 0)))])
   (.keep [4, 5] (.ret)))
   (.seq (.ops [.op (some 15) (.fadr (.t 3) 0),
     .op (some 16) (.load1 (.t 15)),
     .op (some 17) (.bin .eql (.t 16) (.k (.int .i64 2))),
     .op (some 14) (.mov (.t 17))])
   (.keep [0, 3, 4, 14] (.cond (.t 14)
    (.seq (.ops [.op (some 18) (.build [.int .i64 0, .int .i64 0, .str []] []),
      .op none (.store 3 (.t 4) (.t 18)),
      .op (some 5) (.mov (.k (.int .i64 10)))])
    (.keep [4, 5] (.ret)))
    (.seq (.ops [.op (some 20) (.fadr (.t 3) 0),
      .op (some 21) (.load1 (.t 20)),
      .op (some 22) (.bin .eql (.t 21) (.k (.int .i64 0))),
      .op (some 19) (.mov (.t 22))])
    (.keep [0, 3, 4, 19] (.cond (.t 19)
     (.seq (.ops [.op (some 23) (.loadN 3 (.t 3)),
       .op none (.store 3 (.t 4) (.t 23)),
       .op (some 5) (.mov (.k (.int .i64 0)))])
     (.keep [4, 5] (.ret)))
     (.seq (.ops [.op (some 25) (.mov (.t 0)),
       .op (some 26) (.bin .eql (.t 25) (.k (.int .i64 3))),
       .op (some 24) (.mov (.t 26))])
     (.keep [3, 4, 24] (.cond (.t 24)
      (.seq (.ops [.op (some 27) (.fadr (.t 3) 1),
        .op (some 28) (.load1 (.t 27)),
        .op (some 29) (.bin .eql (.t 28) (.k (.int .i64 0))),
        .call (some 30) 80 [.t 29],
        .call (some 31) 86 [.t 30],
        .op none (.store 3 (.t 4) (.t 31)),
        .op (some 5) (.mov (.k (.int .i64 0)))])
      (.keep [4, 5] (.ret)))
      (.skip))))))))))))))
 (.keep [3, 4] (.seq (.ops [.op (some 32) (.fadr (.t 3) 1),
   .op (some 33) (.load1 (.t 32)),
   .op (some 34) (.neg (.t 33)),
   .call (some 35) 86 [.t 34],
   .op none (.store 3 (.t 4) (.t 35)),
   .op (some 5) (.mov (.k (.int .i64 0)))])
 (.keep [4, 5] (.ret))))))
theorem k_c_sUnary_fits : fitsF Try.prog 85 ⟨36, k_c_sUnary, [.cN 4 3, .t 5]⟩ = true := by kernel_rfl
theorem c_sUnary {op : Int} {a : GValue} (ha : RV a) : Con Try.prog noMv 85 [int op, a.av] [] (fun r h => r = .tup [(unF op a).1.av, int (unF op a).2] ∧ h = []) := by
 refine con_of2 k_c_sUnary_fits rfl fun C hP hmv => ?_
 unfold k_c_sUnary
 have hn := ha.n
 refine cx_seq ?_
 refine cx_ops ?_
 refine ax_e (e_box rfl rfl (by decide) rfl rfl rfl) ?_
 refine ax_e (e_alloc (by decide) rfl rfl) ?_
 refine ax_q (q_mov rfl) ?_
 refine ax_nil ?_
 refine cx_keep rfl rfl ?_
 refine cx_seq ?_
 refine cx_block ?_
 refine cx_seq ?_
 refine cx_ops ?_
 refine ax_q (q_mov rfl) ?_
 refine ax_q (q_ibin rfl rfl rfl) ?_
 refine ax_q (q_mov rfl) ?_
 refine ax_nil ?_
 refine cx_keep rfl rfl ?_
 refine cx_cond rfl (fun h0 => ?_) (fun h0 => ?_)
 ·
  have h0 := dT h0
  refine cx_seq ?_
  refine cx_ops ?_
  refine ax_q (q_fadr_ptr rfl) ?_
  refine ax_q (q_load1_ptr rfl rfl rfl) ?_
  refine ax_q (q_ibin rfl rfl rfl) ?_
  first | refine ax_call rfl (vc_pure0 (c_l01Bit  ) hP rfl rfl ?_) | refine ax_call rfl (vc_lend0 (c_l01Bit  ) hP (by repeat (first | exact lal_id _ rfl | exact LAL.nil | refine LAL.cons ?_ ?_ | exact la_id _ rfl | exact LA.lend (lend_whole rfl (by first | (simp; done) | (rw [List.length_map]; rfl))) | refine LA.agg ?_ | refine LA.fn ?_ | refine LA.lend ?_ | exact Lend.d _ | exact Lend.zs _ | exact lend_whole rfl (by first | (simp; done) | (rw [List.length_map]; rfl)) | refine Lend.ptr rfl ?_ | refine Lend.fn ?_ | exact LendL.nil | refine LendL.cons ?_ ?_)) rfl rfl ?_)
  first | refine ax_call rfl (vc_pure0 (c_sInt  ) hP rfl rfl ?_) | refine ax_call rfl (vc_lend0 (c_sInt  ) hP (by repeat (first | exact lal_id _ rfl | exact LAL.nil | refine LAL.cons ?_ ?_ | exact la_id _ rfl | exact LA.lend (lend_whole rfl (by first | (simp; done) | (rw [List.length_map]; rfl))) | refine LA.agg ?_ | refine LA.fn ?_ | refine LA.lend ?_ | exact Lend.d _ | exact Lend.zs _ | exact lend_whole rfl (by first | (simp; done) | (rw [List.length_map]; rfl)) | refine Lend.ptr rfl ?_ | refine Lend.fn ?_ | exact LendL.nil | refine LendL.cons ?_ ?_)) rfl rfl ?_)
  refine ax_e (e_st rfl rfl rfl rfl rfl rfl rfl) ?_
  refine ax_q (q_mov rfl) ?_
  refine ax_nil ?_
  refine cx_keep rfl rfl ?_
  refine cx_ret (ret0 rfl rfl ?_)
  have e : unF op a = (vB (decide (a.Kind = 0)), 0) := by unfold unF; rw [if_pos (by omega)]
  exact ⟨by rw [e]; rfl, rfl⟩
 ·
  have h0 := dF h0
  refine cx_seq ?_
  refine cx_ops ?_
  refine ax_q (q_fadr_ptr rfl) ?_
  refine ax_q (q_load1_ptr rfl rfl rfl) ?_
  refine ax_q (q_ibin rfl rfl rfl) ?_
  refine ax_q (q_mov rfl) ?_
  refine ax_nil ?_
  refine cx_keep rfl rfl ?_
  refine cx_cond rfl (fun h1 => ?_) (fun h1 => ?_)
  ·
   have h1 := dT h1
   refine cx_seq ?_
   refine cx_ops ?_
   refine ax_q (q_build rfl) ?_
   refine ax_e (e_st rfl rfl rfl rfl rfl rfl rfl) ?_
   refine ax_q (q_mov rfl) ?_
   refine ax_nil ?_
   refine cx_keep rfl rfl ?_
   refine cx_ret (ret0 rfl rfl ?_)
   have e : unF op a = (.zero, 10) := by unfold unF; rw [if_neg (by omega), if_pos (by omega)]
   exact ⟨by rw [e]; rfl, rfl⟩
  ·
   have h1 := dF h1
   refine cx_seq ?_
   refine cx_ops ?_
   refine ax_q (q_fadr_ptr rfl) ?_
   refine ax_q (q_load1_ptr rfl rfl rfl) ?_
   refine ax_q (q_ibin rfl rfl rfl) ?_
   refine ax_q (q_mov rfl) ?_
   refine ax_nil ?_
   refine cx_keep rfl rfl ?_
   refine cx_cond rfl (fun h2 => ?_) (fun h2 => ?_)
   ·
    have h2 := dT h2
    refine cx_seq ?_
    refine cx_ops ?_
    refine ax_q (q_ldN rfl rfl rfl) ?_
    refine ax_e (e_st rfl rfl rfl rfl rfl rfl rfl) ?_
    refine ax_q (q_mov rfl) ?_
    refine ax_nil ?_
    refine cx_keep rfl rfl ?_
    refine cx_ret (ret0 rfl rfl ?_)
    have e : unF op a = (.zero, 0) := by unfold unF; rw [if_neg (by omega), if_neg (by omega), if_pos (by omega)]
    exact ⟨by rw [e, ha.z h2]; rfl, rfl⟩
   ·
    have h2 := dF h2
    refine cx_seq ?_
    refine cx_ops ?_
    refine ax_q (q_mov rfl) ?_
    refine ax_q (q_ibin rfl rfl rfl) ?_
    refine ax_q (q_mov rfl) ?_
    refine ax_nil ?_
    refine cx_keep rfl rfl ?_
    refine cx_cond rfl (fun h3 => ?_) (fun h3 => ?_)
    ·
     have h3 := dT h3
     refine cx_seq ?_
     refine cx_ops ?_
     refine ax_q (q_fadr_ptr rfl) ?_
     refine ax_q (q_load1_ptr rfl rfl rfl) ?_
     refine ax_q (q_ibin rfl rfl rfl) ?_
     first | refine ax_call rfl (vc_pure0 (c_l01Bit  ) hP rfl rfl ?_) | refine ax_call rfl (vc_lend0 (c_l01Bit  ) hP (by repeat (first | exact lal_id _ rfl | exact LAL.nil | refine LAL.cons ?_ ?_ | exact la_id _ rfl | exact LA.lend (lend_whole rfl (by first | (simp; done) | (rw [List.length_map]; rfl))) | refine LA.agg ?_ | refine LA.fn ?_ | refine LA.lend ?_ | exact Lend.d _ | exact Lend.zs _ | exact lend_whole rfl (by first | (simp; done) | (rw [List.length_map]; rfl)) | refine Lend.ptr rfl ?_ | refine Lend.fn ?_ | exact LendL.nil | refine LendL.cons ?_ ?_)) rfl rfl ?_)
     first | refine ax_call rfl (vc_pure0 (c_sInt  ) hP rfl rfl ?_) | refine ax_call rfl (vc_lend0 (c_sInt  ) hP (by repeat (first | exact lal_id _ rfl | exact LAL.nil | refine LAL.cons ?_ ?_ | exact la_id _ rfl | exact LA.lend (lend_whole rfl (by first | (simp; done) | (rw [List.length_map]; rfl))) | refine LA.agg ?_ | refine LA.fn ?_ | refine LA.lend ?_ | exact Lend.d _ | exact Lend.zs _ | exact lend_whole rfl (by first | (simp; done) | (rw [List.length_map]; rfl)) | refine Lend.ptr rfl ?_ | refine Lend.fn ?_ | exact LendL.nil | refine LendL.cons ?_ ?_)) rfl rfl ?_)
     refine ax_e (e_st rfl rfl rfl rfl rfl rfl rfl) ?_
     refine ax_q (q_mov rfl) ?_
     refine ax_nil ?_
     refine cx_keep rfl rfl ?_
     refine cx_ret (ret0 rfl rfl ?_)
     have e : unF op a = (vB (decide (a.N = 0)), 0) := by unfold unF; rw [if_neg (by omega), if_neg (by omega), if_neg (by omega), if_pos (by omega)]
     exact ⟨by rw [e]; rfl, rfl⟩
    ·
     have h3 := dF h3
     refine cx_skip ?_
     refine cx_keep rfl rfl ?_
     refine cx_seq ?_
     refine cx_ops ?_
     refine ax_q (q_fadr_ptr rfl) ?_
     refine ax_q (q_load1_ptr rfl rfl rfl) ?_
     first | refine ax_q (q_negI rfl (by omega)) ?_ | refine ax_q (q_neg rfl) ?_
     first | refine ax_call rfl (vc_pure0 (c_sInt  ) hP rfl rfl ?_) | refine ax_call rfl (vc_lend0 (c_sInt  ) hP (by repeat (first | exact lal_id _ rfl | exact LAL.nil | refine LAL.cons ?_ ?_ | exact la_id _ rfl | exact LA.lend (lend_whole rfl (by first | (simp; done) | (rw [List.length_map]; rfl))) | refine LA.agg ?_ | refine LA.fn ?_ | refine LA.lend ?_ | exact Lend.d _ | exact Lend.zs _ | exact lend_whole rfl (by first | (simp; done) | (rw [List.length_map]; rfl)) | refine Lend.ptr rfl ?_ | refine Lend.fn ?_ | exact LendL.nil | refine LendL.cons ?_ ?_)) rfl rfl ?_)
     refine ax_e (e_st rfl rfl rfl rfl rfl rfl rfl) ?_
     refine ax_q (q_mov rfl) ?_
     refine ax_nil ?_
     refine cx_keep rfl rfl ?_
     refine cx_ret (ret0 rfl rfl ?_)
     have e : unF op a = (vI (-a.N), 0) := by unfold unF; rw [if_neg (by omega), if_neg (by omega), if_neg (by omega), if_neg (by omega)]
     exact ⟨by rw [e]; rfl, rfl⟩


/- loop.example/g00332/spec.l01Compare -/
def k_c_l01Compare : XCode :=
 .seq (.ops [.op (some 2) (.box (.t 0)),
   .op (some 3) (.box (.t 1)),
   .op (some 4) (.mov (.k (.int .i64 0)))])
 (.keep [2, 3] (.seq (.block 0 (.seq (.ops [.op (some 6) (.fadr (.t 2) 0),
    .op (some 7) (.load1 (.t 6)),
    .op (some 8) (.fadr (.t 3) 0),
    .op (some 9) (.load1 (.t 8)),
    .op (some 10) (.bin .neq (.t 7) (.t 9)),
    .op (some 5) (.mov (.t 10))])
  (.keep [2, 3, 5] (.cond (.t 5)
   (.seq (.ops [.op (some 11) (.fadr (.t 2) 0),
     .op (some 12) (.load1 (.t 11)),
     .op (some 13) (.fadr (.t 3) 0),
     .op (some 14) (.load1 (.t 13)),
     .op (some 15) (.bin .gtr (.t 12) (.t 14)),
     .call (some 16) 80 [.t 15],
     .op (some 17) (.bin .mul (.k (.int .i64 2)) (.t 16)),
     .op (some 18) (.bin .sub (.t 17) (.k (.int .i64 1))),
     .op (some 4) (.mov (.t 18))])
   (.keep [4] (.ret)))
   (.seq (.ops [.op (some 20) (.fadr (.t 2) 1),
     .op (some 21) (.load1 (.t 20)),
     .op (some 22) (.fadr (.t 3) 1),
     .op (some 23) (.load1 (.t 22)),
     .op (some 24) (.bin .neq (.t 21) (.t 23)),
     .op (some 19) (.mov (.t 24))])
   (.keep [2, 3, 19] (.cond (.t 19)
    (.seq (.ops [.op (some 25) (.fadr (.t 2) 1),
      .op (some 26) (.load1 (.t 25)),
      .op (some 27) (.fadr (.t 3) 1),
      .op (some 28) (.load1 (.t 27)),
      .op (some 29) (.bin .gtr (.t 26) (.t 28)),
      .call (some 30) 80 [.t 29],
      .op (some 31) (.bin .mul (.k (.int .i64 2)) (.t 30)),
      .op (some 32) (.bin .sub (.t 31) (.k (.int .i64 1))),
      .op (some 4) (.mov (.t 32))])
    (.keep [4] (.ret)))
    (.seq (.ops [.op (some 34) (.fadr (.t 2) 2),
      .op (some 35) (.load1 (.t 34)),
      .op (some 36) (.fadr (.t 3) 2),
      .op (some 37) (.load1 (.t 36)),
      .op (some 38) (.bin .neq (.t 35) (.t 37)),
      .op (some 33) (.mov (.t 38))])
    (.keep [2, 3, 33] (.cond (.t 33)
     (.seq (.ops [.op (some 39) (.fadr (.t 2) 2),
       .op (some 40) (.load1 (.t 39)),
       .op (some 41) (.fadr (.t 3) 2),
       .op (some 42) (.load1 (.t 41)),
       .op (some 43) (.bin .gtr (.t 40) (.t 42)),
       .call (some 44) 80 [.t 43],
       .op (some 45) (.bin .mul (.k (.int .i64 2)) (.t 44)),
       .op (some 46) (.bin .sub (.t 45) (.k (.int .i64 1))),
       .op (some 4) (.mov (.t 46))])
     (.keep [4] (.ret)))
     (.skip)))))))))))
 (.keep [] (.seq (.ops [.op (some 4) (.mov (.k (.int .i64 0)))])
 (.keep [4] (.ret))))))
theorem k_c_l01Compare_fits : fitsF Try.prog 104 ⟨47, k_c_l01Compare, [.t 4]⟩ = true := by kernel_rfl
theorem c_l01Compare {a b : GValue} : Con Try.prog noMv 104 [a.av, b.av] [] (fun r h => r = int (cmpV a b) ∧ h = []) := by
 refine con_of2 k_c_l01Compare_fits rfl fun C hP hmv => ?_
 unfold k_c_l01Compare
 refine cx_seq ?_
 refine cx_ops ?_
 refine ax_e (e_box rfl rfl (by decide) rfl rfl rfl) ?_
 refine ax_e (e_box rfl rfl (by decide) rfl rfl rfl) ?_
 refine ax_q (q_mov rfl) ?_
 refine ax_nil ?_
 refine cx_keep rfl rfl ?_
 refine cx_seq ?_
 refine cx_block ?_
 refine cx_seq ?_
 refine cx_ops ?_
 refine ax_q (q_fadr_ptr rfl) ?_
 refine ax_q (q_load1_ptr rfl rfl rfl) ?_
 refine ax_q (q_fadr_ptr rfl) ?_
 refine ax_q (q_load1_ptr rfl rfl rfl) ?_
 refine ax_q (q_ibin rfl rfl rfl) ?_
 refine ax_q (q_mov rfl) ?_
 refine ax_nil ?_
 refine cx_keep rfl rfl ?_
 refine cx_cond rfl (fun h0 => ?_) (fun h0 => ?_)
 ·
  have h0 := nT h0
  refine cx_seq ?_
  refine cx_ops ?_
  refine ax_q (q_fadr_ptr rfl) ?_
  refine ax_q (q_load1_ptr rfl rfl rfl) ?_
  refine ax_q (q_fadr_ptr rfl) ?_
  refine ax_q (q_load1_ptr rfl rfl rfl) ?_
  refine ax_q (q_ibin rfl rfl rfl) ?_
  first | refine ax_call rfl (vc_pure0 (c_l01Bit  ) hP rfl rfl ?_) | refine ax_call rfl (vc_lend0 (c_l01Bit  ) hP (by repeat (first | exact lal_id _ rfl | exact LAL.nil | refine LAL.cons ?_ ?_ | exact la_id _ rfl | exact LA.lend (lend_whole rfl (by first | (simp; done) | (rw [List.length_map]; rfl))) | refine LA.agg ?_ | refine LA.fn ?_ | refine LA.lend ?_ | exact Lend.d _ | exact Lend.zs _ | exact lend_whole rfl (by first | (simp; done) | (rw [List.length_map]; rfl)) | refine Lend.ptr rfl ?_ | refine Lend.fn ?_ | exact LendL.nil | refine LendL.cons ?_ ?_)) rfl rfl ?_)
  have hbb := @bitI_b (decide (b.Kind < a.Kind))
  refine ax_q (q_mul rfl rfl (by omega)) ?_
  refine ax_q (q_sub rfl rfl (by omega)) ?_
  refine ax_q (q_mov rfl) ?_
  refine ax_nil ?_
  refine cx_keep rfl rfl ?_
  refine cx_ret (ret0 rfl rfl ?_)
  exact ⟨by rw [show cmpV a b = cmpI a.Kind b.Kind from by unfold cmpV; rw [if_pos h0], cmpI_ne h0]; rfl, rfl⟩
 ·
  have h0 := nF h0
  refine cx_seq ?_
  refine cx_ops ?_
  refine ax_q (q_fadr_ptr rfl) ?_
  refine ax_q (q_load1_ptr rfl rfl rfl) ?_
  refine ax_q (q_fadr_ptr rfl) ?_
  refine ax_q (q_load1_ptr rfl rfl rfl) ?_
  refine ax_q (q_ibin rfl rfl rfl) ?_
  refine ax_q (q_mov rfl) ?_
  refine ax_nil ?_
  refine cx_keep rfl rfl ?_
  refine cx_cond rfl (fun h1 => ?_) (fun h1 => ?_)
  ·
   have h1 := nT h1
   refine cx_seq ?_
   refine cx_ops ?_
   refine ax_q (q_fadr_ptr rfl) ?_
   refine ax_q (q_load1_ptr rfl rfl rfl) ?_
   refine ax_q (q_fadr_ptr rfl) ?_
   refine ax_q (q_load1_ptr rfl rfl rfl) ?_
   refine ax_q (q_ibin rfl rfl rfl) ?_
   first | refine ax_call rfl (vc_pure0 (c_l01Bit  ) hP rfl rfl ?_) | refine ax_call rfl (vc_lend0 (c_l01Bit  ) hP (by repeat (first | exact lal_id _ rfl | exact LAL.nil | refine LAL.cons ?_ ?_ | exact la_id _ rfl | exact LA.lend (lend_whole rfl (by first | (simp; done) | (rw [List.length_map]; rfl))) | refine LA.agg ?_ | refine LA.fn ?_ | refine LA.lend ?_ | exact Lend.d _ | exact Lend.zs _ | exact lend_whole rfl (by first | (simp; done) | (rw [List.length_map]; rfl)) | refine Lend.ptr rfl ?_ | refine Lend.fn ?_ | exact LendL.nil | refine LendL.cons ?_ ?_)) rfl rfl ?_)
   have hbb := @bitI_b (decide (b.N < a.N))
   refine ax_q (q_mul rfl rfl (by omega)) ?_
   refine ax_q (q_sub rfl rfl (by omega)) ?_
   refine ax_q (q_mov rfl) ?_
   refine ax_nil ?_
   refine cx_keep rfl rfl ?_
   refine cx_ret (ret0 rfl rfl ?_)
   exact ⟨by rw [show cmpV a b = cmpI a.N b.N from by unfold cmpV; rw [if_neg (by omega), if_pos h1], cmpI_ne h1]; rfl, rfl⟩
  ·
   have h1 := nF h1
   refine cx_seq ?_
   refine cx_ops ?_
   refine ax_q (q_fadr_ptr rfl) ?_
   refine ax_q (q_load1_ptr rfl rfl rfl) ?_
   refine ax_q (q_fadr_ptr rfl) ?_
   refine ax_q (q_load1_ptr rfl rfl rfl) ?_
   refine ax_q (q_sbin rfl rfl rfl) ?_
   refine ax_q (q_mov rfl) ?_
   refine ax_nil ?_
   refine cx_keep rfl rfl ?_
   refine cx_cond rfl (fun h2 => ?_) (fun h2 => ?_)
   ·
    have h2 := nT h2
    refine cx_seq ?_
    refine cx_ops ?_
    refine ax_q (q_fadr_ptr rfl) ?_
    refine ax_q (q_load1_ptr rfl rfl rfl) ?_
    refine ax_q (q_fadr_ptr rfl) ?_
    refine ax_q (q_load1_ptr rfl rfl rfl) ?_
    refine ax_q (q_sbin rfl rfl rfl) ?_
    first | refine ax_call rfl (vc_pure0 (c_l01Bit  ) hP rfl rfl ?_) | refine ax_call rfl (vc_lend0 (c_l01Bit  ) hP (by repeat (first | exact lal_id _ rfl | exact LAL.nil | refine LAL.cons ?_ ?_ | exact la_id _ rfl | exact LA.lend (lend_whole rfl (by first | (simp; done) | (rw [List.length_map]; rfl))) | refine LA.agg ?_ | refine LA.fn ?_ | refine LA.lend ?_ | exact Lend.d _ | exact Lend.zs _ | exact lend_whole rfl (by first | (simp; done) | (rw [List.length_map]; rfl)) | refine Lend.ptr rfl ?_ | refine Lend.fn ?_ | exact LendL.nil | refine LendL.cons ?_ ?_)) rfl rfl ?_)
    have hbb := @bitI_b (!(Op.bytesLess a.T b.T || decide (a.T = b.T)))
    refine ax_q (q_mul rfl rfl (by omega)) ?_
    refine ax_q (q_sub rfl rfl (by omega)) ?_
    refine ax_q (q_mov rfl) ?_
    refine ax_nil ?_
    refine cx_keep rfl rfl ?_
    refine cx_ret (ret0 rfl rfl ?_)
    exact ⟨by rw [show cmpV a b = cmpS a.T b.T from by unfold cmpV; rw [if_neg (by omega), if_neg (by omega)], cmpS_ne h2]; rfl, rfl⟩
   ·
    have h2 := nF h2
    refine cx_skip ?_
    refine cx_keep rfl rfl ?_
    refine cx_seq ?_
    refine cx_ops ?_
    refine ax_q (q_mov rfl) ?_
    refine ax_nil ?_
    refine cx_keep rfl rfl ?_
    refine cx_ret (ret0 rfl rfl ?_)
    exact ⟨by rw [show cmpV a b = cmpS a.T b.T from by unfold cmpV; rw [if_neg (by omega), if_neg (by omega)], show cmpS a.T b.T = 0 from by unfold cmpS; rw [if_pos h2]]; rfl, rfl⟩


/- loop.example/g00332/spec.l10Bounded -/
def k_c_l10Bounded : XCode :=
 .seq (.ops [.op (some 2) (.alloc [.int .i64 0, .int .i64 0, .str []]),
   .op (some 3) (.mov (.k (.int .i64 0)))])
 (.keep [0, 2] (.seq (.seq (.ops [.op (some 4) (.mov (.t 0)),
   .call (some 5) 45 [.t 4, .k (.int .i64 (-1000000000)), .k (.int .i64 1000000000)],
   .op (some 6) (.not (.t 5))])
  (.keep [0, 2, 6] (.cond (.t 6)
  (.seq (.ops [.op (some 7) (.build [.int .i64 0, .int .i64 0, .str []] []),
    .op none (.store 3 (.t 2) (.t 7)),
    .op (some 3) (.mov (.k (.int .i64 12)))])
   (.keep [2, 3] (.ret)))
  (.skip))))
 (.keep [0, 2] (.seq (.ops [.op (some 8) (.mov (.t 0)),
   .call (some 9) 86 [.t 8],
   .op none (.store 3 (.t 2) (.t 9)),
   .op (some 3) (.mov (.k (.int .i64 0)))])
 (.keep [2, 3] (.ret))))))
theorem k_c_l10Bounded_fits : fitsF Try.prog 105 ⟨10, k_c_l10Bounded, [.cN 2 3, .t 3]⟩ = true := by kernel_rfl
theorem c_l10Bounded {n : Int} : Con Try.prog noMv 105 [int n] [] (fun r h => r = .tup [(bndF n).1.av, int (bndF n).2] ∧ h = []) := by
 refine con_of2 k_c_l10Bounded_fits rfl fun C hP hmv => ?_
 unfold k_c_l10Bounded
 refine cx_seq ?_
 refine cx_ops ?_
 refine ax_e (e_alloc (by decide) rfl rfl) ?_
 refine ax_q (q_mov rfl) ?_
 refine ax_nil ?_
 refine cx_keep rfl rfl ?_
 refine cx_seq ?_
 refine cx_seq ?_
 refine cx_ops ?_
 refine ax_q (q_mov rfl) ?_
 first | refine ax_call rfl (vc_pure0 (c_l01In  ) hP rfl rfl ?_) | refine ax_call rfl (vc_lend0 (c_l01In  ) hP (by repeat (first | exact lal_id _ rfl | exact LAL.nil | refine LAL.cons ?_ ?_ | exact la_id _ rfl | exact LA.lend (lend_whole rfl (by first | (simp; done) | (rw [List.length_map]; rfl))) | refine LA.agg ?_ | refine LA.fn ?_ | refine LA.lend ?_ | exact Lend.d _ | exact Lend.zs _ | exact lend_whole rfl (by first | (simp; done) | (rw [List.length_map]; rfl)) | refine Lend.ptr rfl ?_ | refine Lend.fn ?_ | exact LendL.nil | refine LendL.cons ?_ ?_)) rfl rfl ?_)
 refine ax_q (q_not rfl) ?_
 refine ax_nil ?_
 refine cx_keep rfl rfl ?_
 refine cx_cond rfl (fun h0 => ?_) (fun h0 => ?_)
 ·
  have h0 := bT h0
  refine cx_seq ?_
  refine cx_ops ?_
  refine ax_q (q_build rfl) ?_
  refine ax_e (e_st rfl rfl rfl rfl rfl rfl rfl) ?_
  refine ax_q (q_mov rfl) ?_
  refine ax_nil ?_
  refine cx_keep rfl rfl ?_
  refine cx_ret (ret0 rfl rfl ?_)
  exact ⟨by rw [bnd_no h0]; rfl, rfl⟩
 ·
  have h0 := bF h0
  refine cx_skip ?_
  refine cx_keep rfl rfl ?_
  refine cx_seq ?_
  refine cx_ops ?_
  refine ax_q (q_mov rfl) ?_
  first | refine ax_call rfl (vc_pure0 (c_sInt  ) hP rfl rfl ?_) | refine ax_call rfl (vc_lend0 (c_sInt  ) hP (by repeat (first | exact lal_id _ rfl | exact LAL.nil | refine LAL.cons ?_ ?_ | exact la_id _ rfl | exact LA.lend (lend_whole rfl (by first | (simp; done) | (rw [List.length_map]; rfl))) | refine LA.agg ?_ | refine LA.fn ?_ | refine LA.lend ?_ | exact Lend.d _ | exact Lend.zs _ | exact lend_whole rfl (by first | (simp; done) | (rw [List.length_map]; rfl)) | refine Lend.ptr rfl ?_ | refine Lend.fn ?_ | exact LendL.nil | refine LendL.cons ?_ ?_)) rfl rfl ?_)
  refine ax_e (e_st rfl rfl rfl rfl rfl rfl rfl) ?_
  refine ax_q (q_mov rfl) ?_
  refine ax_nil ?_
  refine cx_keep rfl rfl ?_
  refine cx_ret (ret0 rfl rfl ?_)
  exact ⟨by rw [bnd_yes h0]; rfl, rfl⟩


/- loop.example/g00332/spec.l10Binary -/
def k_c_sBinary : XCode :=
 .seq (.ops [.op (some 4) (.box (.t 1)),
   .op (some 5) (.box (.t 2)),
   .op (some 6) (.alloc [.int .i64 0, .int .i64 0, .str []]),
   .op (some 7) (.mov (.k (.int .i64 0)))])
 (.keep [0, 4, 5, 6] (.seq (.seq (.ops [.op (some 12) (.mov (.t 0)),
   .op (some 13) (.bin .eql (.t 12) (.k (.int .i64 12))),
   .op (some 14) (.mov (.t 13)),
   .andor 17 false 2 14 [.op (some 15) (.mov (.t 0)), .op (some 16) (.bin .eql (.t 15) (.k (.int .i64 13)))] (.t 16)])
  (.keep [0, 4, 5, 6, 17] (.cond (.t 17)
  (.seq (.seq (.ops [.op (some 18) (.fadr (.t 4) 0),
     .op (some 19) (.load1 (.t 18)),
     .op (some 20) (.bin .eql (.t 19) (.k (.int .i64 2))),
     .op (some 21) (.mov (.t 20)),
     .andor 25 false 3 21 [.op (some 22) (.fadr (.t 5) 0), .op (some 23) (.load1 (.t 22)), .op (some 24) (.bin .eql (.t 23) (.k (.int .i64 2)))] (.t 24)])
   (.keep [0, 4, 5, 6, 25] (.cond (.t 25)
    (.seq (.ops [.op (some 26) (.build [.int .i64 0, .int .i64 0, .str []] []),
      .op none (.store 3 (.t 6) (.t 26)),
      .op (some 7) (.mov (.k (.int .i64 10)))])
    (.keep [6, 7] (.ret)))
    (.skip))))
   (.keep [0, 4, 5, 6] (.seq (.ops [.op (some 27) (.fadr (.t 4) 0),
    .op (some 28) (.load1 (.t 27)),
    .op (some 29) (.bin .eql (.t 28) (.k (.int .i64 1))),
    .op (some 30) (.mov (.t 29)),
    .andor 34 true 3 30 [.op (some 31) (.fadr (.t 4) 1), .op (some 32) (.load1 (.t 31)), .op (some 33) (.bin .eql (.t 32) (.k (.int .i64 0)))] (.t 33),
    .op (some 35) (.mov (.t 34)),
    .andor 44 false 8 35 [.op (some 36) (.fadr (.t 5) 0), .op (some 37) (.load1 (.t 36)), .op (some 38) (.bin .eql (.t 37) (.k (.int .i64 1))), .op (some 39) (.mov (.t 38)), .andor 43 true 12 39 [.op (some 40) (.fadr (.t 5) 1), .op (some 41) (.load1 (.t 40)), .op (some 42) (.bin .eql (.t 41) (.k (.int .i64 0)))] (.t 42)] (.t 43),
    .op (some 8) (.mov (.t 44))])
   (.keep [0, 4, 5, 6, 8] (.seq (.ops [.op (some 45) (.fadr (.t 4) 0),
    .op (some 46) (.load1 (.t 45)),
    .op (some 47) (.bin .eql (.t 46) (.k (.int .i64 1))),
    .op (some 48) (.mov (.t 47)),
    .andor 52 true 3 48 [.op (some 49) (.fadr (.t 4) 1), .op (some 50) (.load1 (.t 49)), .op (some 51) (.bin .neq (.t 50) (.k (.int .i64 0)))] (.t 51),
    .op (some 53) (.mov (.t 52)),
    .andor 62 false 8 53 [.op (some 54) (.fadr (.t 5) 0), .op (some 55) (.load1 (.t 54)), .op (some 56) (.bin .eql (.t 55) (.k (.int .i64 1))), .op (some 57) (.mov (.t 56)), .andor 61 true 12 57 [.op (some 58) (.fadr (.t 5) 1), .op (some 59) (.load1 (.t 58)), .op (some 60) (.bin .neq (.t 59) (.k (.int .i64 0)))] (.t 60)] (.t 61),
    .op (some 9) (.mov (.t 62))])
   (.keep [0, 4, 5, 6, 8, 9] (.seq (.ops [.op (some 63) (.fadr (.t 4) 0),
    .op (some 64) (.load1 (.t 63)),
    .op (some 65) (.bin .eql (.t 64) (.k (.int .i64 0))),
    .op (some 66) (.mov (.t 65)),
    .andor 70 false 3 66 [.op (some 67) (.fadr (.t 5) 0), .op (some 68) (.load1 (.t 67)), .op (some 69) (.bin .eql (.t 68) (.k (.int .i64 0)))] (.t 69),
    .op (some 10) (.mov (.t 70))])
   (.keep [0, 6, 8, 9, 10] (.seq (.block 0 (.seq (.ops [.op (some 72) (.mov (.t 0)),
     .op (some 73) (.bin .eql (.t 72) (.k (.int .i64 12))),
     .op (some 74) (.mov (.t 73)),
     .andor 76 true 2 74 [.op (some 75) (.mov (.t 8))] (.t 75),
     .op (some 71) (.mov (.t 76))])
    (.keep [0, 6, 9, 10, 71] (.cond (.t 71)
    (.seq (.ops [.call (some 77) 86 [.k (.int .i64 0)],
      .op none (.store 3 (.t 6) (.t 77)),
      .op (some 7) (.mov (.k (.int .i64 0)))])
     (.keep [6, 7] (.ret)))
    (.seq (.ops [.op (some 79) (.mov (.t 0)),
      .op (some 80) (.bin .eql (.t 79) (.k (.int .i64 13))),
      .op (some 81) (.mov (.t 80)),
      .andor 83 true 2 81 [.op (some 82) (.mov (.t 9))] (.t 82),
      .op (some 78) (.mov (.t 83))])
     (.keep [0, 6, 10, 78] (.cond (.t 78)
     (.seq (.ops [.call (some 84) 86 [.k (.int .i64 1)],
       .op none (.store 3 (.t 6) (.t 84)),
       .op (some 7) (.mov (.k (.int .i64 0)))])
      (.keep [6, 7] (.ret)))
     (.seq (.ops [.op (some 86) (.mov (.t 10)),
       .op (some 85) (.mov (.t 86))])
      (.keep [0, 6, 85] (.cond (.t 85)
      (.seq (.ops [.op (some 87) (.build [.int .i64 0, .int .i64 0, .str []] []),
        .op none (.store 3 (.t 6) (.t 87)),
        .op (some 7) (.mov (.k (.int .i64 0)))])
       (.keep [6, 7] (.ret)))
      (.skip)))))))))))
   (.keep [0, 6] (.seq (.ops [.op (some 88) (.mov (.t 0)),
    .op (some 89) (.bin .eql (.t 88) (.k (.int .i64 12))),
    .call (some 90) 80 [.t 89],
    .call (some 91) 86 [.t 90],
    .op none (.store 3 (.t 6) (.t 91)),
    .op (some 7) (.mov (.k (.int .i64 0)))])
   (.keep [6, 7] (.ret)))))))))))))
  (.skip))))
 (.keep [0, 4, 5, 6] (.seq (.ops [.op (some 92) (.mov (.t 0)),
   .op (some 93) (.bin .eql (.t 92) (.k (.int .i64 10))),
   .op (some 94) (.mov (.t 93)),
   .andor 97 false 2 94 [.op (some 95) (.mov (.t 0)), .op (some 96) (.bin .eql (.t 95) (.k (.int .i64 11)))] (.t 96),
   .op (some 11) (.mov (.t 97))])
 (.keep [0, 4, 5, 6, 11] (.seq (.seq (.ops [.op (some 98) (.mov (.t 11)),
   .op (some 99) (.not (.t 98)),
   .op (some 100) (.mov (.t 99)),
   .andor 109 true 2 100 [.op (some 101) (.fadr (.t 4) 0), .op (some 102) (.load1 (.t 101)), .op (some 103) (.bin .eql (.t 102) (.k (.int .i64 2))), .op (some 104) (.mov (.t 103)), .andor 108 false 6 104 [.op (some 105) (.fadr (.t 5) 0), .op (some 106) (.load1 (.t 105)), .op (some 107) (.bin .eql (.t 106) (.k (.int .i64 2)))] (.t 107)] (.t 108)])
  (.keep [0, 4, 5, 6, 109] (.cond (.t 109)
  (.seq (.ops [.op (some 110) (.build [.int .i64 0, .int .i64 0, .str []] []),
    .op none (.store 3 (.t 6) (.t 110)),
    .op (some 7) (.mov (.k (.int .i64 10)))])
   (.keep [6, 7] (.ret)))
  (.skip))))
 (.keep [0, 4, 5, 6] (.seq (.seq (.ops [.op (some 111) (.fadr (.t 4) 0),
   .op (some 112) (.load1 (.t 111)),
   .op (some 113) (.bin .eql (.t 112) (.k (.int .i64 0))),
   .op (some 114) (.mov (.t 113)),
   .andor 118 false 3 114 [.op (some 115) (.fadr (.t 5) 0), .op (some 116) (.load1 (.t 115)), .op (some 117) (.bin .eql (.t 116) (.k (.int .i64 0)))] (.t 117)])
  (.keep [0, 4, 5, 6, 118] (.cond (.t 118)
  (.seq (.ops [.op (some 119) (.build [.int .i64 0, .int .i64 0, .str []] []),
    .op none (.store 3 (.t 6) (.t 119)),
    .op (some 7) (.mov (.k (.int .i64 0)))])
   (.keep [6, 7] (.ret)))
  (.skip))))
 (.keep [0, 4, 5, 6] (.seq (.seq (.ops [.op (some 120) (.fadr (.t 4) 0),
   .op (some 121) (.load1 (.t 120)),
   .op (some 122) (.fadr (.t 5) 0),
   .op (some 123) (.load1 (.t 122)),
   .op (some 124) (.bin .neq (.t 121) (.t 123))])
  (.keep [0, 4, 5, 6, 124] (.cond (.t 124)
  (.seq (.ops [.op (some 125) (.build [.int .i64 0, .int .i64 0, .str []] []),
    .op none (.store 3 (.t 6) (.t 125)),
    .op (some 7) (.mov (.k (.int .i64 10)))])
   (.keep [6, 7] (.ret)))
  (.skip))))
 (.keep [0, 4, 5, 6] (.seq (.seq (.ops [.op (some 126) (.mov (.t 0))])
  (.keep [4, 5, 6, 126] (.block 1 (.seq (.ops [.op (some 128) (.bin .eql (.t 126) (.k (.int .i64 10))),
    .op (some 127) (.mov (.t 128))])
  (.keep [4, 5, 6, 126, 127] (.cond (.t 127)
   (.seq (.ops [.op (some 129) (.loadN 3 (.t 4)),
     .op (some 130) (.loadN 3 (.t 5)),
     .op (some 131) (.eqs false [0, 0, 2] (.t 129) (.t 130)),
     .call (some 132) 80 [.t 131],
     .call (some 133) 86 [.t 132],
     .op none (.store 3 (.t 6) (.t 133)),
     .op (some 7) (.mov (.k (.int .i64 0)))])
   (.keep [6, 7] (.ret)))
   (.seq (.ops [.op (some 135) (.bin .eql (.t 126) (.k (.int .i64 11))),
     .op (some 134) (.mov (.t 135))])
   (.keep [4, 5, 6, 126, 134] (.cond (.t 134)
    (.seq (.ops [.op (some 136) (.loadN 3 (.t 4)),
      .op (some 137) (.loadN 3 (.t 5)),
      .call (some 138) 104 [.t 136, .t 137],
      .op (some 139) (.bin .lss (.t 138) (.k (.int .i64 0))),
      .call (some 140) 80 [.t 139],
      .call (some 141) 86 [.t 140],
      .op none (.store 3 (.t 6) (.t 141)),
      .op (some 7) (.mov (.k (.int .i64 0)))])
    (.keep [6, 7] (.ret)))
    (.seq (.ops [.op (some 143) (.bin .eql (.t 126) (.k (.int .i64 6))),
      .op (some 142) (.mov (.t 143))])
    (.keep [4, 5, 6, 126, 142] (.cond (.t 142)
     (.seq (.ops [.op (some 144) (.fadr (.t 4) 1),
       .op (some 145) (.load1 (.t 144)),
       .op (some 146) (.fadr (.t 5) 1),
       .op (some 147) (.load1 (.t 146)),
       .op (some 148) (.bin .add (.t 145) (.t 147)),
       .call (some 149) 105 [.t 148],
       .op (some 150) (.ext (.t 149) 0),
       .op (some 151) (.ext (.t 149) 1),
       .op none (.store 3 (.t 6) (.t 150)),
       .op (some 7) (.mov (.t 151))])
     (.keep [6, 7] (.ret)))
     (.seq (.ops [.op (some 153) (.bin .eql (.t 126) (.k (.int .i64 7))),
       .op (some 152) (.mov (.t 153))])
     (.keep [4, 5, 6, 126, 152] (.cond (.t 152)
      (.seq (.ops [.op (some 154) (.fadr (.t 4) 1),
        .op (some 155) (.load1 (.t 154)),
        .op (some 156) (.fadr (.t 5) 1),
        .op (some 157) (.load1 (.t 156)),
        .op (some 158) (.bin .sub (.t 155) (.t 157)),
        .call (some 159) 105 [.t 158],
        .op (some 160) (.ext (.t 159) 0),
        .op (some 161) (.ext (.t 159) 1),
        .op none (.store 3 (.t 6) (.t 160)),
        .op (some 7) (.mov (.t 161))])
      (.keep [6, 7] (.ret)))
      (.seq (.ops [.op (some 163) (.bin .eql (.t 126) (.k (.int .i64 8))),
        .op (some 162) (.mov (.t 163))])
      (.keep [4, 5, 6, 162] (.cond (.t 162)
       (.seq (.ops [.op (some 164) (.fadr (.t 4) 1),
         .op (some 165) (.load1 (.t 164)),
         .op (some 166) (.fadr (.t 5) 1),
         .op (some 167) (.load1 (.t 166)),
         .op (some 168) (.bin .mul (.t 165) (.t 167)),
         .call (some 169) 105 [.t 168],
         .op (some 170) (.ext (.t 169) 0),
         .op (some 171) (.ext (.t 169) 1),
         .op none (.store 3 (.t 6) (.t 170)),
         .op (some 7) (.mov (.t 171))])
       (.keep [6, 7] (.ret)))
       (.skip)))))))))))))))))))
 (.keep [4, 5, 6] (.seq (.seq (.ops [.op (some 172) (.fadr (.t 5) 1),
   .op (some 173) (.load1 (.t 172)),
   .op (some 174) (.bin .eql (.t 173) (.k (.int .i64 0)))])
  (.keep [4, 5, 6, 174] (.cond (.t 174)
  (.seq (.ops [.op (some 175) (.build [.int .i64 0, .int .i64 0, .str []] []),
    .op none (.store 3 (.t 6) (.t 175)),
    .op (some 7) (.mov (.k (.int .i64 11)))])
   (.keep [6, 7] (.ret)))
  (.skip))))
 (.keep [4, 5, 6] (.seq (.ops [.op (some 176) (.fadr (.t 4) 1),
   .op (some 177) (.load1 (.t 176)),
   .op (some 178) (.fadr (.t 5) 1),
   .op (some 179) (.load1 (.t 178)),
   .op (some 180) (.bin .quo (.t 177) (.t 179)),
   .call (some 181) 105 [.t 180],
   .op (some 182) (.ext (.t 181) 0),
   .op (some 183) (.ext (.t 181) 1),
   .op none (.store 3 (.t 6) (.t 182)),
   .op (some 7) (.mov (.t 183))])
 (.keep [6, 7] (.ret))))))))))))))))))
theorem k_c_sBinary_fits : fitsF Try.prog 87 ⟨184, k_c_sBinary, [.cN 6 3, .t 7]⟩ = true := by kernel_rfl
set_option maxHeartbeats 4000000 in
theorem c_sBinary {op : Int} {a b : GValue} (ha : RV a) (hb : RV b) : Con Try.prog noMv 87 [int op, a.av, b.av] [] (fun r h => r = .tup [(binF op a b).1.av, int (binF op a b).2] ∧ h = []) := by
 refine con_of2 k_c_sBinary_fits rfl fun C hP hmv => ?_
 unfold k_c_sBinary
 have hn := ha.n; have hm := hb.n; have hmul := mulB hn hm; have hka := ha.k; have hkb := hb.k
 refine cx_seq ?_
 refine cx_ops ?_
 refine ax_e (e_box rfl rfl (by decide) rfl rfl rfl) ?_
 refine ax_e (e_box rfl rfl (by decide) rfl rfl rfl) ?_
 refine ax_e (e_alloc (by decide) rfl rfl) ?_
 refine ax_q (q_mov rfl) ?_
 refine ax_nil ?_
 refine cx_keep rfl rfl ?_
 refine cx_seq ?_
 refine cx_seq ?_
 refine cx_ops ?_
 refine ax_q (q_mov rfl) ?_
 refine ax_q (q_ibin rfl rfl rfl) ?_
 refine ax_q (q_mov rfl) ?_
 apply ax_or rfl rfl
 ·
  intro g
  have g := dF g
  refine ax_q (q_mov rfl) ?_
  refine ax_q (q_ibin rfl rfl rfl) ?_
  exact ax_nil ⟨rfl, by repeat (first | exact trivial | refine ⟨rfl, ?_⟩ | refine ⟨?_, ?_⟩)⟩
 refine ax_nil ?_
 refine cx_keep rfl rfl ?_
 refine cx_cond rfl (fun h0 => ?_) (fun h0 => ?_)
 ·
  have h0 := (fun h => (or_T h).imp dT dT) h0
  refine cx_seq ?_
  refine cx_seq ?_
  refine cx_ops ?_
  refine ax_q (q_fadr_ptr rfl) ?_
  refine ax_q (q_load1_ptr rfl rfl rfl) ?_
  refine ax_q (q_ibin rfl rfl rfl) ?_
  refine ax_q (q_mov rfl) ?_
  apply ax_or rfl rfl
  ·
   intro g
   have g := dF g
   refine ax_q (q_fadr_ptr rfl) ?_
   refine ax_q (q_load1_ptr rfl rfl rfl) ?_
   refine ax_q (q_ibin rfl rfl rfl) ?_
   exact ax_nil ⟨rfl, by repeat (first | exact trivial | refine ⟨rfl, ?_⟩ | refine ⟨?_, ?_⟩)⟩
  refine ax_nil ?_
  refine cx_keep rfl rfl ?_
  refine cx_cond rfl (fun h1 => ?_) (fun h1 => ?_)
  ·
   have h1 := (fun h => (or_T h).imp dT dT) h1
   refine cx_seq ?_
   refine cx_ops ?_
   refine ax_q (q_build rfl) ?_
   refine ax_e (e_st rfl rfl rfl rfl rfl rfl rfl) ?_
   refine ax_q (q_mov rfl) ?_
   refine ax_nil ?_
   refine cx_keep rfl rfl ?_
   refine cx_ret (ret0 rfl rfl ?_)
   have e : binF op a b = (.zero, 10) := by unfold binF; rw [if_pos (by omega)]; unfold conF; rw [if_pos h1]
   exact ⟨by rw [e]; rfl, rfl⟩
  ·
   have h1 := (fun h => And.intro (dF (or_F h).1) (dF (or_F h).2)) h1
   refine cx_skip ?_
   refine cx_keep rfl rfl ?_
   refine cx_seq ?_
   refine cx_ops ?_
   refine ax_q (q_fadr_ptr rfl) ?_
   refine ax_q (q_load1_ptr rfl rfl rfl) ?_
   refine ax_q (q_ibin rfl rfl rfl) ?_
   refine ax_q (q_mov rfl) ?_
   apply ax_and rfl rfl
   ·
    intro g
    have g := dT g
    refine ax_q (q_fadr_ptr rfl) ?_
    refine ax_q (q_load1_ptr rfl rfl rfl) ?_
    refine ax_q (q_ibin rfl rfl rfl) ?_
    exact ax_nil ⟨rfl, by repeat (first | exact trivial | refine ⟨rfl, ?_⟩ | refine ⟨?_, ?_⟩)⟩
   refine ax_q (q_mov rfl) ?_
   apply ax_or rfl rfl
   ·
    intro g
    have g := (fun h => (and_F h).imp dF dF) g
    refine ax_q (q_fadr_ptr rfl) ?_
    refine ax_q (q_load1_ptr rfl rfl rfl) ?_
    refine ax_q (q_ibin rfl rfl rfl) ?_
    refine ax_q (q_mov rfl) ?_
    apply ax_and rfl rfl
    ·
     intro g
     have g := dT g
     refine ax_q (q_fadr_ptr rfl) ?_
     refine ax_q (q_load1_ptr rfl rfl rfl) ?_
     refine ax_q (q_ibin rfl rfl rfl) ?_
     exact ax_nil ⟨rfl, by repeat (first | exact trivial | refine ⟨rfl, ?_⟩ | refine ⟨?_, ?_⟩)⟩
    exact ax_nil ⟨rfl, by repeat (first | exact trivial | refine ⟨rfl, ?_⟩ | refine ⟨?_, ?_⟩)⟩
   refine ax_q (q_mov rfl) ?_
   refine ax_nil ?_
   refine cx_keep rfl rfl ?_
   refine cx_seq ?_
   refine cx_ops ?_
   refine ax_q (q_fadr_ptr rfl) ?_
   refine ax_q (q_load1_ptr rfl rfl rfl) ?_
   refine ax_q (q_ibin rfl rfl rfl) ?_
   refine ax_q (q_mov rfl) ?_
   apply ax_and rfl rfl
   ·
    intro g
    have g := dT g
    refine ax_q (q_fadr_ptr rfl) ?_
    refine ax_q (q_load1_ptr rfl rfl rfl) ?_
    refine ax_q (q_ibin rfl rfl rfl) ?_
    exact ax_nil ⟨rfl, by repeat (first | exact trivial | refine ⟨rfl, ?_⟩ | refine ⟨?_, ?_⟩)⟩
   refine ax_q (q_mov rfl) ?_
   apply ax_or rfl rfl
   ·
    intro g
    have g := (fun h => (and_F h).imp dF nF) g
    refine ax_q (q_fadr_ptr rfl) ?_
    refine ax_q (q_load1_ptr rfl rfl rfl) ?_
    refine ax_q (q_ibin rfl rfl rfl) ?_
    refine ax_q (q_mov rfl) ?_
    apply ax_and rfl rfl
    ·
     intro g
     have g := dT g
     refine ax_q (q_fadr_ptr rfl) ?_
     refine ax_q (q_load1_ptr rfl rfl rfl) ?_
     refine ax_q (q_ibin rfl rfl rfl) ?_
     exact ax_nil ⟨rfl, by repeat (first | exact trivial | refine ⟨rfl, ?_⟩ | refine ⟨?_, ?_⟩)⟩
    exact ax_nil ⟨rfl, by repeat (first | exact trivial | refine ⟨rfl, ?_⟩ | refine ⟨?_, ?_⟩)⟩
   refine ax_q (q_mov rfl) ?_
   refine ax_nil ?_
   refine cx_keep rfl rfl ?_
   refine cx_seq ?_
   refine cx_ops ?_
   refine ax_q (q_fadr_ptr rfl) ?_
   refine ax_q (q_load1_ptr rfl rfl rfl) ?_
   refine ax_q (q_ibin rfl rfl rfl) ?_
   refine ax_q (q_mov rfl) ?_
   apply ax_or rfl rfl
   ·
    intro g
    have g := dF g
    refine ax_q (q_fadr_ptr rfl) ?_
    refine ax_q (q_load1_ptr rfl rfl rfl) ?_
    refine ax_q (q_ibin rfl rfl rfl) ?_
    exact ax_nil ⟨rfl, by repeat (first | exact trivial | refine ⟨rfl, ?_⟩ | refine ⟨?_, ?_⟩)⟩
   refine ax_q (q_mov rfl) ?_
   refine ax_nil ?_
   refine cx_keep rfl rfl ?_
   refine cx_seq ?_
   refine cx_block ?_
   refine cx_seq ?_
   refine cx_ops ?_
   refine ax_q (q_mov rfl) ?_
   refine ax_q (q_ibin rfl rfl rfl) ?_
   refine ax_q (q_mov rfl) ?_
   apply ax_and rfl rfl
   ·
    intro g
    have g := dT g
    refine ax_q (q_mov rfl) ?_
    exact ax_nil ⟨rfl, by repeat (first | exact trivial | refine ⟨rfl, ?_⟩ | refine ⟨?_, ?_⟩)⟩
   refine ax_q (q_mov rfl) ?_
   refine ax_nil ?_
   refine cx_keep rfl rfl ?_
   refine cx_cond rfl (fun h2 => ?_) (fun h2 => ?_)
   ·
    have h2 := (fun h => And.intro (dT (and_T h).1) ((fun h => (or_T h).imp (fun h => And.intro (dT (and_T h).1) (dT (and_T h).2)) (fun h => And.intro (dT (and_T h).1) (dT (and_T h).2))) (and_T h).2)) h2
    refine cx_seq ?_
    refine cx_ops ?_
    first | refine ax_call rfl (vc_pure0 (c_sInt  ) hP rfl rfl ?_) | refine ax_call rfl (vc_lend0 (c_sInt  ) hP (by repeat (first | exact lal_id _ rfl | exact LAL.nil | refine LAL.cons ?_ ?_ | exact la_id _ rfl | exact LA.lend (lend_whole rfl (by first | (simp; done) | (rw [List.length_map]; rfl))) | refine LA.agg ?_ | refine LA.fn ?_ | refine LA.lend ?_ | exact Lend.d _ | exact Lend.zs _ | exact lend_whole rfl (by first | (simp; done) | (rw [List.length_map]; rfl)) | refine Lend.ptr rfl ?_ | refine Lend.fn ?_ | exact LendL.nil | refine LendL.cons ?_ ?_)) rfl rfl ?_)
    refine ax_e (e_st rfl rfl rfl rfl rfl rfl rfl) ?_
    refine ax_q (q_mov rfl) ?_
    refine ax_nil ?_
    refine cx_keep rfl rfl ?_
    refine cx_ret (ret0 rfl rfl ?_)
    have e : binF op a b = (vI 0, 0) := by unfold binF; rw [if_pos (by omega)]; unfold conF; rw [if_neg (by omega), if_pos (by simp only [isZ_iff, isO_iff]; omega)]
    exact ⟨by rw [e]; rfl, rfl⟩
   ·
    have h2 := (fun h => (and_F h).imp dF (fun h => And.intro ((fun h => (and_F h).imp dF dF) (or_F h).1) ((fun h => (and_F h).imp dF dF) (or_F h).2))) h2
    refine cx_seq ?_
    refine cx_ops ?_
    refine ax_q (q_mov rfl) ?_
    refine ax_q (q_ibin rfl rfl rfl) ?_
    refine ax_q (q_mov rfl) ?_
    apply ax_and rfl rfl
    ·
     intro g
     have g := dT g
     refine ax_q (q_mov rfl) ?_
     exact ax_nil ⟨rfl, by repeat (first | exact trivial | refine ⟨rfl, ?_⟩ | refine ⟨?_, ?_⟩)⟩
    refine ax_q (q_mov rfl) ?_
    refine ax_nil ?_
    refine cx_keep rfl rfl ?_
    refine cx_cond rfl (fun h3 => ?_) (fun h3 => ?_)
    ·
     have h3 := (fun h => And.intro (dT (and_T h).1) ((fun h => (or_T h).imp (fun h => And.intro (dT (and_T h).1) (nT (and_T h).2)) (fun h => And.intro (dT (and_T h).1) (nT (and_T h).2))) (and_T h).2)) h3
     refine cx_seq ?_
     refine cx_ops ?_
     first | refine ax_call rfl (vc_pure0 (c_sInt  ) hP rfl rfl ?_) | refine ax_call rfl (vc_lend0 (c_sInt  ) hP (by repeat (first | exact lal_id _ rfl | exact LAL.nil | refine LAL.cons ?_ ?_ | exact la_id _ rfl | exact LA.lend (lend_whole rfl (by first | (simp; done) | (rw [List.length_map]; rfl))) | refine LA.agg ?_ | refine LA.fn ?_ | refine LA.lend ?_ | exact Lend.d _ | exact Lend.zs _ | exact lend_whole rfl (by first | (simp; done) | (rw [List.length_map]; rfl)) | refine Lend.ptr rfl ?_ | refine Lend.fn ?_ | exact LendL.nil | refine LendL.cons ?_ ?_)) rfl rfl ?_)
     refine ax_e (e_st rfl rfl rfl rfl rfl rfl rfl) ?_
     refine ax_q (q_mov rfl) ?_
     refine ax_nil ?_
     refine cx_keep rfl rfl ?_
     refine cx_ret (ret0 rfl rfl ?_)
     have e : binF op a b = (vI 1, 0) := by unfold binF; rw [if_pos (by omega)]; unfold conF; rw [if_neg (by omega), if_neg (by simp only [isZ_iff, isO_iff]; omega), if_pos (by simp only [isZ_iff, isO_iff]; omega)]
     exact ⟨by rw [e]; rfl, rfl⟩
    ·
     have h3 := (fun h => (and_F h).imp dF (fun h => And.intro ((fun h => (and_F h).imp dF nF) (or_F h).1) ((fun h => (and_F h).imp dF nF) (or_F h).2))) h3
     refine cx_seq ?_
     refine cx_ops ?_
     refine ax_q (q_mov rfl) ?_
     refine ax_q (q_mov rfl) ?_
     refine ax_nil ?_
     refine cx_keep rfl rfl ?_
     refine cx_cond rfl (fun h4 => ?_) (fun h4 => ?_)
     ·
      have h4 := (fun h => (or_T h).imp dT dT) h4
      refine cx_seq ?_
      refine cx_ops ?_
      refine ax_q (q_build rfl) ?_
      refine ax_e (e_st rfl rfl rfl rfl rfl rfl rfl) ?_
      refine ax_q (q_mov rfl) ?_
      refine ax_nil ?_
      refine cx_keep rfl rfl ?_
      refine cx_ret (ret0 rfl rfl ?_)
      have e : binF op a b = (.zero, 0) := by unfold binF; rw [if_pos (by omega)]; unfold conF; rw [if_neg (by omega), if_neg (by simp only [isZ_iff, isO_iff]; omega), if_neg (by simp only [isZ_iff, isO_iff]; omega), if_pos (by omega)]
      exact ⟨by rw [e]; rfl, rfl⟩
     ·
      have h4 := (fun h => And.intro (dF (or_F h).1) (dF (or_F h).2)) h4
      refine cx_skip ?_
      refine cx_keep rfl rfl ?_
      refine cx_seq ?_
      refine cx_ops ?_
      refine ax_q (q_mov rfl) ?_
      refine ax_q (q_ibin rfl rfl rfl) ?_
      first | refine ax_call rfl (vc_pure0 (c_l01Bit  ) hP rfl rfl ?_) | refine ax_call rfl (vc_lend0 (c_l01Bit  ) hP (by repeat (first | exact lal_id _ rfl | exact LAL.nil | refine LAL.cons ?_ ?_ | exact la_id _ rfl | exact LA.lend (lend_whole rfl (by first | (simp; done) | (rw [List.length_map]; rfl))) | refine LA.agg ?_ | refine LA.fn ?_ | refine LA.lend ?_ | exact Lend.d _ | exact Lend.zs _ | exact lend_whole rfl (by first | (simp; done) | (rw [List.length_map]; rfl)) | refine Lend.ptr rfl ?_ | refine Lend.fn ?_ | exact LendL.nil | refine LendL.cons ?_ ?_)) rfl rfl ?_)
      first | refine ax_call rfl (vc_pure0 (c_sInt  ) hP rfl rfl ?_) | refine ax_call rfl (vc_lend0 (c_sInt  ) hP (by repeat (first | exact lal_id _ rfl | exact LAL.nil | refine LAL.cons ?_ ?_ | exact la_id _ rfl | exact LA.lend (lend_whole rfl (by first | (simp; done) | (rw [List.length_map]; rfl))) | refine LA.agg ?_ | refine LA.fn ?_ | refine LA.lend ?_ | exact Lend.d _ | exact Lend.zs _ | exact lend_whole rfl (by first | (simp; done) | (rw [List.length_map]; rfl)) | refine Lend.ptr rfl ?_ | refine Lend.fn ?_ | exact LendL.nil | refine LendL.cons ?_ ?_)) rfl rfl ?_)
      refine ax_e (e_st rfl rfl rfl rfl rfl rfl rfl) ?_
      refine ax_q (q_mov rfl) ?_
      refine ax_nil ?_
      refine cx_keep rfl rfl ?_
      refine cx_ret (ret0 rfl rfl ?_)
      have e : binF op a b = (vB (decide (op = 12)), 0) := by unfold binF; rw [if_pos (by omega)]; unfold conF; rw [if_neg (by omega), if_neg (by simp only [isZ_iff, isO_iff]; omega), if_neg (by simp only [isZ_iff, isO_iff]; omega), if_neg (by omega)]
      exact ⟨by rw [e]; rfl, rfl⟩
 ·
  have h0 := (fun h => And.intro (dF (or_F h).1) (dF (or_F h).2)) h0
  refine cx_skip ?_
  refine cx_keep rfl rfl ?_
  refine cx_seq ?_
  refine cx_ops ?_
  refine ax_q (q_mov rfl) ?_
  refine ax_q (q_ibin rfl rfl rfl) ?_
  refine ax_q (q_mov rfl) ?_
  apply ax_or rfl rfl
  ·
   intro g
   have g := dF g
   refine ax_q (q_mov rfl) ?_
   refine ax_q (q_ibin rfl rfl rfl) ?_
   exact ax_nil ⟨rfl, by repeat (first | exact trivial | refine ⟨rfl, ?_⟩ | refine ⟨?_, ?_⟩)⟩
  refine ax_q (q_mov rfl) ?_
  refine ax_nil ?_
  refine cx_keep rfl rfl ?_
  refine cx_seq ?_
  refine cx_seq ?_
  refine cx_ops ?_
  refine ax_q (q_mov rfl) ?_
  refine ax_q (q_not rfl) ?_
  refine ax_q (q_mov rfl) ?_
  apply ax_and rfl rfl
  ·
   intro g
   have g := (fun h => (fun h => And.intro (dF (or_F h).1) (dF (or_F h).2)) (bT h)) g
   refine ax_q (q_fadr_ptr rfl) ?_
   refine ax_q (q_load1_ptr rfl rfl rfl) ?_
   refine ax_q (q_ibin rfl rfl rfl) ?_
   refine ax_q (q_mov rfl) ?_
   apply ax_or rfl rfl
   ·
    intro g
    have g := dF g
    refine ax_q (q_fadr_ptr rfl) ?_
    refine ax_q (q_load1_ptr rfl rfl rfl) ?_
    refine ax_q (q_ibin rfl rfl rfl) ?_
    exact ax_nil ⟨rfl, by repeat (first | exact trivial | refine ⟨rfl, ?_⟩ | refine ⟨?_, ?_⟩)⟩
   exact ax_nil ⟨rfl, by repeat (first | exact trivial | refine ⟨rfl, ?_⟩ | refine ⟨?_, ?_⟩)⟩
  refine ax_nil ?_
  refine cx_keep rfl rfl ?_
  refine cx_cond rfl (fun h5 => ?_) (fun h5 => ?_)
  ·
   have h5 := (fun h => And.intro ((fun h => (fun h => And.intro (dF (or_F h).1) (dF (or_F h).2)) (bT h)) (and_T h).1) ((fun h => (or_T h).imp dT dT) (and_T h).2)) h5
   refine cx_seq ?_
   refine cx_ops ?_
   refine ax_q (q_build rfl) ?_
   refine ax_e (e_st rfl rfl rfl rfl rfl rfl rfl) ?_
   refine ax_q (q_mov rfl) ?_
   refine ax_nil ?_
   refine cx_keep rfl rfl ?_
   refine cx_ret (ret0 rfl rfl ?_)
   have e : binF op a b = (.zero, 10) := by unfold binF; rw [if_neg (by omega), if_pos (by omega)]
   exact ⟨by rw [e]; rfl, rfl⟩
  ·
   have h5 := (fun h => (and_F h).imp (fun h => (fun h => (or_T h).imp dT dT) (bF h)) (fun h => And.intro (dF (or_F h).1) (dF (or_F h).2))) h5
   refine cx_skip ?_
   refine cx_keep rfl rfl ?_
   refine cx_seq ?_
   refine cx_seq ?_
   refine cx_ops ?_
   refine ax_q (q_fadr_ptr rfl) ?_
   refine ax_q (q_load1_ptr rfl rfl rfl) ?_
   refine ax_q (q_ibin rfl rfl rfl) ?_
   refine ax_q (q_mov rfl) ?_
   apply ax_or rfl rfl
   ·
    intro g
    have g := dF g
    refine ax_q (q_fadr_ptr rfl) ?_
    refine ax_q (q_load1_ptr rfl rfl rfl) ?_
    refine ax_q (q_ibin rfl rfl rfl) ?_
    exact ax_nil ⟨rfl, by repeat (first | exact trivial | refine ⟨rfl, ?_⟩ | refine ⟨?_, ?_⟩)⟩
   refine ax_nil ?_
   refine cx_keep rfl rfl ?_
   refine cx_cond rfl (fun h6 => ?_) (fun h6 => ?_)
   ·
    have h6 := (fun h => (or_T h).imp dT dT) h6
    refine cx_seq ?_
    refine cx_ops ?_
    refine ax_q (q_build rfl) ?_
    refine ax_e (e_st rfl rfl rfl rfl rfl rfl rfl) ?_
    refine ax_q (q_mov rfl) ?_
    refine ax_nil ?_
    refine cx_keep rfl rfl ?_
    refine cx_ret (ret0 rfl rfl ?_)
    have e : binF op a b = (.zero, 0) := by unfold binF; rw [if_neg (by omega), if_neg (by omega), if_pos (by omega)]
    exact ⟨by rw [e]; rfl, rfl⟩
   ·
    have h6 := (fun h => And.intro (dF (or_F h).1) (dF (or_F h).2)) h6
    refine cx_skip ?_
    refine cx_keep rfl rfl ?_
    refine cx_seq ?_
    refine cx_seq ?_
    refine cx_ops ?_
    refine ax_q (q_fadr_ptr rfl) ?_
    refine ax_q (q_load1_ptr rfl rfl rfl) ?_
    refine ax_q (q_fadr_ptr rfl) ?_
    refine ax_q (q_load1_ptr rfl rfl rfl) ?_
    refine ax_q (q_ibin rfl rfl rfl) ?_
    refine ax_nil ?_
    refine cx_keep rfl rfl ?_
    refine cx_cond rfl (fun h7 => ?_) (fun h7 => ?_)
    ·
     have h7 := nT h7
     refine cx_seq ?_
     refine cx_ops ?_
     refine ax_q (q_build rfl) ?_
     refine ax_e (e_st rfl rfl rfl rfl rfl rfl rfl) ?_
     refine ax_q (q_mov rfl) ?_
     refine ax_nil ?_
     refine cx_keep rfl rfl ?_
     refine cx_ret (ret0 rfl rfl ?_)
     have e : binF op a b = (.zero, 10) := by unfold binF; rw [if_neg (by omega), if_neg (by omega), if_neg (by omega), if_pos (by omega)]
     exact ⟨by rw [e]; rfl, rfl⟩
    ·
     have h7 := nF h7
     refine cx_skip ?_
     refine cx_keep rfl rfl ?_
     refine cx_seq ?_
     refine cx_seq ?_
     refine cx_ops ?_
     refine ax_q (q_mov rfl) ?_
     refine ax_nil ?_
     refine cx_keep rfl rfl ?_
     refine cx_block ?_
     refine cx_seq ?_
     refine cx_ops ?_
     refine ax_q (q_ibin rfl rfl rfl) ?_
     refine ax_q (q_mov rfl) ?_
     refine ax_nil ?_
     refine cx_keep rfl rfl ?_
     refine cx_cond rfl (fun h8 => ?_) (fun h8 => ?_)
     ·
      have h8 := dT h8
      refine cx_seq ?_
      refine cx_ops ?_
      refine ax_q (q_ldN rfl rfl rfl) ?_
      refine ax_q (q_ldN rfl rfl rfl) ?_
      refine ax_qe (r' := bool (eqV a b)) (q_eqs rfl rfl rfl) (rfl) ?_
      first | refine ax_call rfl (vc_pure0 (c_l01Bit  ) hP rfl rfl ?_) | refine ax_call rfl (vc_lend0 (c_l01Bit  ) hP (by repeat (first | exact lal_id _ rfl | exact LAL.nil | refine LAL.cons ?_ ?_ | exact la_id _ rfl | exact LA.lend (lend_whole rfl (by first | (simp; done) | (rw [List.length_map]; rfl))) | refine LA.agg ?_ | refine LA.fn ?_ | refine LA.lend ?_ | exact Lend.d _ | exact Lend.zs _ | exact lend_whole rfl (by first | (simp; done) | (rw [List.length_map]; rfl)) | refine Lend.ptr rfl ?_ | refine Lend.fn ?_ | exact LendL.nil | refine LendL.cons ?_ ?_)) rfl rfl ?_)
      first | refine ax_call rfl (vc_pure0 (c_sInt  ) hP rfl rfl ?_) | refine ax_call rfl (vc_lend0 (c_sInt  ) hP (by repeat (first | exact lal_id _ rfl | exact LAL.nil | refine LAL.cons ?_ ?_ | exact la_id _ rfl | exact LA.lend (lend_whole rfl (by first | (simp; done) | (rw [List.length_map]; rfl))) | refine LA.agg ?_ | refine LA.fn ?_ | refine LA.lend ?_ | exact Lend.d _ | exact Lend.zs _ | exact lend_whole rfl (by first | (simp; done) | (rw [List.length_map]; rfl)) | refine Lend.ptr rfl ?_ | refine Lend.fn ?_ | exact LendL.nil | refine LendL.cons ?_ ?_)) rfl rfl ?_)
      refine ax_e (e_st rfl rfl rfl rfl rfl rfl rfl) ?_
      refine ax_q (q_mov rfl) ?_
      refine ax_nil ?_
      refine cx_keep rfl rfl ?_
      refine cx_ret (ret0 rfl rfl ?_)
      have e : binF op a b = (vB (eqV a b), 0) := by unfold binF; rw [if_neg (by omega), if_neg (by omega), if_neg (by omega), if_neg (by omega), if_pos (by omega)]
      exact ⟨by rw [e]; rfl, rfl⟩
     ·
      have h8 := dF h8
      refine cx_seq ?_
      refine cx_ops ?_
      refine ax_q (q_ibin rfl rfl rfl) ?_
      refine ax_q (q_mov rfl) ?_
      refine ax_nil ?_
      refine cx_keep rfl rfl ?_
      refine cx_cond rfl (fun h9 => ?_) (fun h9 => ?_)
      ·
       have h9 := dT h9
       refine cx_seq ?_
       refine cx_ops ?_
       refine ax_q (q_ldN rfl rfl rfl) ?_
       refine ax_q (q_ldN rfl rfl rfl) ?_
       first | refine ax_call rfl (vc_pure0 (c_l01Compare (a := a) (b := b) ) hP rfl rfl ?_) | refine ax_call rfl (vc_lend0 (c_l01Compare (a := a) (b := b) ) hP (by repeat (first | exact lal_id _ rfl | exact LAL.nil | refine LAL.cons ?_ ?_ | exact la_id _ rfl | exact LA.lend (lend_whole rfl (by first | (simp; done) | (rw [List.length_map]; rfl))) | refine LA.agg ?_ | refine LA.fn ?_ | refine LA.lend ?_ | exact Lend.d _ | exact Lend.zs _ | exact lend_whole rfl (by first | (simp; done) | (rw [List.length_map]; rfl)) | refine Lend.ptr rfl ?_ | refine Lend.fn ?_ | exact LendL.nil | refine LendL.cons ?_ ?_)) rfl rfl ?_)
       refine ax_q (q_ibin rfl rfl rfl) ?_
       first | refine ax_call rfl (vc_pure0 (c_l01Bit  ) hP rfl rfl ?_) | refine ax_call rfl (vc_lend0 (c_l01Bit  ) hP (by repeat (first | exact lal_id _ rfl | exact LAL.nil | refine LAL.cons ?_ ?_ | exact la_id _ rfl | exact LA.lend (lend_whole rfl (by first | (simp; done) | (rw [List.length_map]; rfl))) | refine LA.agg ?_ | refine LA.fn ?_ | refine LA.lend ?_ | exact Lend.d _ | exact Lend.zs _ | exact lend_whole rfl (by first | (simp; done) | (rw [List.length_map]; rfl)) | refine Lend.ptr rfl ?_ | refine Lend.fn ?_ | exact LendL.nil | refine LendL.cons ?_ ?_)) rfl rfl ?_)
       first | refine ax_call rfl (vc_pure0 (c_sInt  ) hP rfl rfl ?_) | refine ax_call rfl (vc_lend0 (c_sInt  ) hP (by repeat (first | exact lal_id _ rfl | exact LAL.nil | refine LAL.cons ?_ ?_ | exact la_id _ rfl | exact LA.lend (lend_whole rfl (by first | (simp; done) | (rw [List.length_map]; rfl))) | refine LA.agg ?_ | refine LA.fn ?_ | refine LA.lend ?_ | exact Lend.d _ | exact Lend.zs _ | exact lend_whole rfl (by first | (simp; done) | (rw [List.length_map]; rfl)) | refine Lend.ptr rfl ?_ | refine Lend.fn ?_ | exact LendL.nil | refine LendL.cons ?_ ?_)) rfl rfl ?_)
       refine ax_e (e_st rfl rfl rfl rfl rfl rfl rfl) ?_
       refine ax_q (q_mov rfl) ?_
       refine ax_nil ?_
       refine cx_keep rfl rfl ?_
       refine cx_ret (ret0 rfl rfl ?_)
       have e : binF op a b = (vB (decide (cmpV a b < 0)), 0) := by unfold binF; rw [if_neg (by omega), if_neg (by omega), if_neg (by omega), if_neg (by omega), if_neg (by omega), if_pos (by omega)]
       exact ⟨by rw [e]; rfl, rfl⟩
      ·
       have h9 := dF h9
       refine cx_seq ?_
       refine cx_ops ?_
       refine ax_q (q_ibin rfl rfl rfl) ?_
       refine ax_q (q_mov rfl) ?_
       refine ax_nil ?_
       refine cx_keep rfl rfl ?_
       refine cx_cond rfl (fun h10 => ?_) (fun h10 => ?_)
       ·
        have h10 := dT h10
        refine cx_seq ?_
        refine cx_ops ?_
        refine ax_q (q_fadr_ptr rfl) ?_
        refine ax_q (q_load1_ptr rfl rfl rfl) ?_
        refine ax_q (q_fadr_ptr rfl) ?_
        refine ax_q (q_load1_ptr rfl rfl rfl) ?_
        refine ax_q (q_add rfl rfl (by omega)) ?_
        first | refine ax_call rfl (vc_pure0 (c_l10Bounded  ) hP rfl rfl ?_) | refine ax_call rfl (vc_lend0 (c_l10Bounded  ) hP (by repeat (first | exact lal_id _ rfl | exact LAL.nil | refine LAL.cons ?_ ?_ | exact la_id _ rfl | exact LA.lend (lend_whole rfl (by first | (simp; done) | (rw [List.length_map]; rfl))) | refine LA.agg ?_ | refine LA.fn ?_ | refine LA.lend ?_ | exact Lend.d _ | exact Lend.zs _ | exact lend_whole rfl (by first | (simp; done) | (rw [List.length_map]; rfl)) | refine Lend.ptr rfl ?_ | refine Lend.fn ?_ | exact LendL.nil | refine LendL.cons ?_ ?_)) rfl rfl ?_)
        refine ax_q (q_ext rfl rfl) ?_
        refine ax_q (q_ext rfl rfl) ?_
        refine ax_e (e_st rfl rfl rfl rfl rfl rfl rfl) ?_
        refine ax_q (q_mov rfl) ?_
        refine ax_nil ?_
        refine cx_keep rfl rfl ?_
        refine cx_ret (ret0 rfl rfl ?_)
        have e : binF op a b = bndF (a.N + b.N) := by unfold binF; rw [if_neg (by omega), if_neg (by omega), if_neg (by omega), if_neg (by omega), if_neg (by omega), if_neg (by omega), ari_6 h10]
        exact ⟨by rw [e]; rfl, rfl⟩
       ·
        have h10 := dF h10
        refine cx_seq ?_
        refine cx_ops ?_
        refine ax_q (q_ibin rfl rfl rfl) ?_
        refine ax_q (q_mov rfl) ?_
        refine ax_nil ?_
        refine cx_keep rfl rfl ?_
        refine cx_cond rfl (fun h11 => ?_) (fun h11 => ?_)
        ·
         have h11 := dT h11
         refine cx_seq ?_
         refine cx_ops ?_
         refine ax_q (q_fadr_ptr rfl) ?_
         refine ax_q (q_load1_ptr rfl rfl rfl) ?_
         refine ax_q (q_fadr_ptr rfl) ?_
         refine ax_q (q_load1_ptr rfl rfl rfl) ?_
         refine ax_q (q_sub rfl rfl (by omega)) ?_
         first | refine ax_call rfl (vc_pure0 (c_l10Bounded  ) hP rfl rfl ?_) | refine ax_call rfl (vc_lend0 (c_l10Bounded  ) hP (by repeat (first | exact lal_id _ rfl | exact LAL.nil | refine LAL.cons ?_ ?_ | exact la_id _ rfl | exact LA.lend (lend_whole rfl (by first | (simp; done) | (rw [List.length_map]; rfl))) | refine LA.agg ?_ | refine LA.fn ?_ | refine LA.lend ?_ | exact Lend.d _ | exact Lend.zs _ | exact lend_whole rfl (by first | (simp; done) | (rw [List.length_map]; rfl)) | refine Lend.ptr rfl ?_ | refine Lend.fn ?_ | exact LendL.nil | refine LendL.cons ?_ ?_)) rfl rfl ?_)
         refine ax_q (q_ext rfl rfl) ?_
         refine ax_q (q_ext rfl rfl) ?_
         refine ax_e (e_st rfl rfl rfl rfl rfl rfl rfl) ?_
         refine ax_q (q_mov rfl) ?_
         refine ax_nil ?_
         refine cx_keep rfl rfl ?_
         refine cx_ret (ret0 rfl rfl ?_)
         have e : binF op a b = bndF (a.N - b.N) := by unfold binF; rw [if_neg (by omega), if_neg (by omega), if_neg (by omega), if_neg (by omega), if_neg (by omega), if_neg (by omega), ari_7 h11]
         exact ⟨by rw [e]; rfl, rfl⟩
        ·
         have h11 := dF h11
         refine cx_seq ?_
         refine cx_ops ?_
         refine ax_q (q_ibin rfl rfl rfl) ?_
         refine ax_q (q_mov rfl) ?_
         refine ax_nil ?_
         refine cx_keep rfl rfl ?_
         refine cx_cond rfl (fun h12 => ?_) (fun h12 => ?_)
         ·
          have h12 := dT h12
          refine cx_seq ?_
          refine cx_ops ?_
          refine ax_q (q_fadr_ptr rfl) ?_
          refine ax_q (q_load1_ptr rfl rfl rfl) ?_
          refine ax_q (q_fadr_ptr rfl) ?_
          refine ax_q (q_load1_ptr rfl rfl rfl) ?_
          refine ax_q (q_mul rfl rfl (by omega)) ?_
          first | refine ax_call rfl (vc_pure0 (c_l10Bounded  ) hP rfl rfl ?_) | refine ax_call rfl (vc_lend0 (c_l10Bounded  ) hP (by repeat (first | exact lal_id _ rfl | exact LAL.nil | refine LAL.cons ?_ ?_ | exact la_id _ rfl | exact LA.lend (lend_whole rfl (by first | (simp; done) | (rw [List.length_map]; rfl))) | refine LA.agg ?_ | refine LA.fn ?_ | refine LA.lend ?_ | exact Lend.d _ | exact Lend.zs _ | exact lend_whole rfl (by first | (simp; done) | (rw [List.length_map]; rfl)) | refine Lend.ptr rfl ?_ | refine Lend.fn ?_ | exact LendL.nil | refine LendL.cons ?_ ?_)) rfl rfl ?_)
          refine ax_q (q_ext rfl rfl) ?_
          refine ax_q (q_ext rfl rfl) ?_
          refine ax_e (e_st rfl rfl rfl rfl rfl rfl rfl) ?_
          refine ax_q (q_mov rfl) ?_
          refine ax_nil ?_
          refine cx_keep rfl rfl ?_
          refine cx_ret (ret0 rfl rfl ?_)
          have e : binF op a b = bndF (a.N * b.N) := by unfold binF; rw [if_neg (by omega), if_neg (by omega), if_neg (by omega), if_neg (by omega), if_neg (by omega), if_neg (by omega), ari_8 h12]
          exact ⟨by rw [e]; rfl, rfl⟩
         ·
          have h12 := dF h12
          refine cx_skip ?_
          refine cx_keep rfl rfl ?_
          refine cx_seq ?_
          refine cx_seq ?_
          refine cx_ops ?_
          refine ax_q (q_fadr_ptr rfl) ?_
          refine ax_q (q_load1_ptr rfl rfl rfl) ?_
          refine ax_q (q_ibin rfl rfl rfl) ?_
          refine ax_nil ?_
          refine cx_keep rfl rfl ?_
          refine cx_cond rfl (fun h13 => ?_) (fun h13 => ?_)
          ·
           have h13 := dT h13
           refine cx_seq ?_
           refine cx_ops ?_
           refine ax_q (q_build rfl) ?_
           refine ax_e (e_st rfl rfl rfl rfl rfl rfl rfl) ?_
           refine ax_q (q_mov rfl) ?_
           refine ax_nil ?_
           refine cx_keep rfl rfl ?_
           refine cx_ret (ret0 rfl rfl ?_)
           have e : binF op a b = (.zero, 11) := by unfold binF; rw [if_neg (by omega), if_neg (by omega), if_neg (by omega), if_neg (by omega), if_neg (by omega), if_neg (by omega), ari_0 h10 h11 h12 h13]
           exact ⟨by rw [e]; rfl, rfl⟩
          ·
           have h13 := dF h13
           refine cx_skip ?_
           refine cx_keep rfl rfl ?_
           refine cx_seq ?_
           refine cx_ops ?_
           refine ax_q (q_fadr_ptr rfl) ?_
           refine ax_q (q_load1_ptr rfl rfl rfl) ?_
           refine ax_q (q_fadr_ptr rfl) ?_
           refine ax_q (q_load1_ptr rfl rfl rfl) ?_
           refine ax_qe (r' := int (a.N.tdiv b.N)) (q_idiv rfl rfl rfl (by omega)) (by have := tdivB (a := a.N) (b := b.N) hn; rw [wi (by omega) (by omega)]) ?_
           first | refine ax_call rfl (vc_pure0 (c_l10Bounded  ) hP rfl rfl ?_) | refine ax_call rfl (vc_lend0 (c_l10Bounded  ) hP (by repeat (first | exact lal_id _ rfl | exact LAL.nil | refine LAL.cons ?_ ?_ | exact la_id _ rfl | exact LA.lend (lend_whole rfl (by first | (simp; done) | (rw [List.length_map]; rfl))) | refine LA.agg ?_ | refine LA.fn ?_ | refine LA.lend ?_ | exact Lend.d _ | exact Lend.zs _ | exact lend_whole rfl (by first | (simp; done) | (rw [List.length_map]; rfl)) | refine Lend.ptr rfl ?_ | refine Lend.fn ?_ | exact LendL.nil | refine LendL.cons ?_ ?_)) rfl rfl ?_)
           refine ax_q (q_ext rfl rfl) ?_
           refine ax_q (q_ext rfl rfl) ?_
           refine ax_e (e_st rfl rfl rfl rfl rfl rfl rfl) ?_
           refine ax_q (q_mov rfl) ?_
           refine ax_nil ?_
           refine cx_keep rfl rfl ?_
           refine cx_ret (ret0 rfl rfl ?_)
           have e : binF op a b = bndF (a.N.tdiv b.N) := by unfold binF; rw [if_neg (by omega), if_neg (by omega), if_neg (by omega), if_neg (by omega), if_neg (by omega), if_neg (by omega), ari_d h10 h11 h12 h13]
           exact ⟨by rw [e]; rfl, rfl⟩


/- loop.example/g00332/spec.l10Eval -/
def k_c_l10Eval : XCode :=
 .seq (.ops [.op (some 3) (.box (.t 0)),
   .op (some 5) (.box (.t 2)),
   .op (some 6) (.alloc [.int .i64 0, .int .i64 0, .str []]),
   .op (some 7) (.mov (.k (.int .i64 0)))])
 (.keep [1, 3, 5, 6] (.seq (.ops [.op (some 12) (.fadr (.t 3) 0),
   .op (some 13) (.load1 (.t 12)),
   .op (some 14) (.mov (.t 1)),
   .op (some 15) (.iadr 7 (.t 13) (.t 14)),
   .op (some 16) (.loadN 7 (.t 15)),
   .op (some 8) (.alloc [.int .i64 0, .int .i64 0, .int .i64 0, .int .i64 0, .int .i64 0, .int .i64 0, .str []]),
   .op none (.store 7 (.t 8) (.t 16))])
 (.keep [3, 5, 6, 8] (.seq (.block 0 (.seq (.ops [.op (some 18) (.fadr (.t 8) 0),
    .op (some 19) (.load1 (.t 18)),
    .op (some 20) (.bin .eql (.t 19) (.k (.int .i64 1))),
    .op (some 17) (.mov (.t 20))])
  (.keep [3, 5, 6, 8, 17] (.cond (.t 17)
   (.seq (.ops [.op (some 21) (.fadr (.t 8) 4),
     .op (some 22) (.loadN 3 (.t 21)),
     .op none (.store 3 (.t 6) (.t 22)),
     .op (some 7) (.mov (.k (.int .i64 0)))])
   (.keep [6, 7] (.ret)))
   (.seq (.ops [.op (some 24) (.fadr (.t 8) 0),
     .op (some 25) (.load1 (.t 24)),
     .op (some 26) (.bin .eql (.t 25) (.k (.int .i64 2))),
     .op (some 23) (.mov (.t 26))])
   (.keep [3, 5, 6, 8, 23] (.cond (.t 23)
    (.seq (.ops [.op (some 27) (.loadN 7 (.t 5)),
      .op (some 28) (.fadr (.t 8) 3),
      .op (some 29) (.load1 (.t 28)),
      .call (some 30) 84 [.t 27, .t 29],
      .op none (.store 3 (.t 6) (.t 30)),
      .op (some 7) (.mov (.k (.int .i64 0)))])
    (.keep [6, 7] (.ret)))
    (.skip))))))))
 (.keep [3, 5, 6, 8] (.seq (.ops [.op (some 32) (.loadN 1 (.t 3)),
   .op (some 33) (.fadr (.t 8) 1),
   .op (some 34) (.load1 (.t 33)),
   .op (some 35) (.loadN 7 (.t 5)),
   .call (some 36) 64 [.t 32, .t 34, .t 35],
   .op (some 31) (.mov (.t 36)),
   .op (some 37) (.ext (.t 31) 0),
   .op (some 38) (.ext (.t 31) 1),
   .op (some 9) (.alloc [.int .i64 0, .int .i64 0, .str []]),
   .op none (.store 3 (.t 9) (.t 37)),
   .op (some 10) (.mov (.t 38))])
 (.keep [3, 5, 6, 8, 9, 10] (.seq (.seq (.ops [.op (some 39) (.mov (.t 10)),
   .op (some 40) (.bin .neq (.t 39) (.k (.int .i64 0)))])
  (.keep [3, 5, 6, 8, 9, 10, 40] (.cond (.t 40)
  (.seq (.ops [.op (some 41) (.build [.int .i64 0, .int .i64 0, .str []] []),
    .op (some 42) (.mov (.t 10)),
    .op none (.store 3 (.t 6) (.t 41)),
    .op (some 7) (.mov (.t 42))])
   (.keep [6, 7] (.ret)))
  (.skip))))
 (.keep [3, 5, 6, 8, 9] (.seq (.seq (.ops [.op (some 43) (.fadr (.t 8) 0),
   .op (some 44) (.load1 (.t 43)),
   .op (some 45) (.bin .leq (.t 44) (.k (.int .i64 5)))])
  (.keep [3, 5, 6, 8, 9, 45] (.cond (.t 45)
  (.seq (.ops [.op (some 46) (.fadr (.t 8) 0),
    .op (some 47) (.load1 (.t 46)),
    .op (some 48) (.loadN 3 (.t 9)),
    .call (some 49) 85 [.t 47, .t 48],
    .op (some 50) (.ext (.t 49) 0),
    .op (some 51) (.ext (.t 49) 1),
    .op none (.store 3 (.t 6) (.t 50)),
    .op (some 7) (.mov (.t 51))])
   (.keep [6, 7] (.ret)))
  (.skip))))
 (.keep [3, 5, 6, 8, 9] (.seq (.seq (.ops [.op (some 52) (.fadr (.t 8) 0),
   .op (some 53) (.load1 (.t 52)),
   .op (some 54) (.bin .eql (.t 53) (.k (.int .i64 12))),
   .op (some 55) (.mov (.t 54)),
   .andor 59 true 3 55 [.op (some 56) (.fadr (.t 9) 0), .op (some 57) (.load1 (.t 56)), .op (some 58) (.bin .eql (.t 57) (.k (.int .i64 1)))] (.t 58),
   .op (some 60) (.mov (.t 59)),
   .andor 64 true 8 60 [.op (some 61) (.fadr (.t 9) 1), .op (some 62) (.load1 (.t 61)), .op (some 63) (.bin .eql (.t 62) (.k (.int .i64 0)))] (.t 63)])
  (.keep [3, 5, 6, 8, 9, 64] (.cond (.t 64)
  (.seq (.ops [.call (some 65) 86 [.k (.int .i64 0)],
    .op none (.store 3 (.t 6) (.t 65)),
    .op (some 7) (.mov (.k (.int .i64 0)))])
   (.keep [6, 7] (.ret)))
  (.skip))))
 (.keep [3, 5, 6, 8, 9] (.seq (.seq (.ops [.op (some 66) (.fadr (.t 8) 0),
   .op (some 67) (.load1 (.t 66)),
   .op (some 68) (.bin .eql (.t 67) (.k (.int .i64 13))),
   .op (some 69) (.mov (.t 68)),
   .andor 73 true 3 69 [.op (some 70) (.fadr (.t 9) 0), .op (some 71) (.load1 (.t 70)), .op (some 72) (.bin .eql (.t 71) (.k (.int .i64 1)))] (.t 72),
   .op (some 74) (.mov (.t 73)),
   .andor 78 true 8 74 [.op (some 75) (.fadr (.t 9) 1), .op (some 76) (.load1 (.t 75)), .op (some 77) (.bin .neq (.t 76) (.k (.int .i64 0)))] (.t 77)])
  (.keep [3, 5, 6, 8, 9, 78] (.cond (.t 78)
  (.seq (.ops [.call (some 79) 86 [.k (.int .i64 1)],
    .op none (.store 3 (.t 6) (.t 79)),
    .op (some 7) (.mov (.k (.int .i64 0)))])
   (.keep [6, 7] (.ret)))
  (.skip))))
 (.keep [3, 5, 6, 8, 9] (.seq (.ops [.op (some 81) (.loadN 1 (.t 3)),
   .op (some 82) (.fadr (.t 8) 2),
   .op (some 83) (.load1 (.t 82)),
   .op (some 84) (.loadN 7 (.t 5)),
   .call (some 85) 64 [.t 81, .t 83, .t 84],
   .op (some 80) (.mov (.t 85)),
   .op (some 86) (.ext (.t 80) 0),
   .op (some 87) (.ext (.t 80) 1),
   .op (some 11) (.alloc [.int .i64 0, .int .i64 0, .str []]),
   .op none (.store 3 (.t 11) (.t 86)),
   .op (some 10) (.mov (.t 87))])
 (.keep [6, 8, 9, 10, 11] (.seq (.seq (.ops [.op (some 88) (.mov (.t 10)),
   .op (some 89) (.bin .neq (.t 88) (.k (.int .i64 0)))])
  (.keep [6, 8, 9, 10, 11, 89] (.cond (.t 89)
  (.seq (.ops [.op (some 90) (.build [.int .i64 0, .int .i64 0, .str []] []),
    .op (some 91) (.mov (.t 10)),
    .op none (.store 3 (.t 6) (.t 90)),
    .op (some 7) (.mov (.t 91))])
   (.keep [6, 7] (.ret)))
  (.skip))))
 (.keep [6, 8, 9, 11] (.seq (.ops [.op (some 92) (.fadr (.t 8) 0),
   .op (some 93) (.load1 (.t 92)),
   .op (some 94) (.loadN 3 (.t 9)),
   .op (some 95) (.loadN 3 (.t 11)),
   .call (some 96) 87 [.t 93, .t 94, .t 95],
   .op (some 97) (.ext (.t 96) 0),
   .op (some 98) (.ext (.t 96) 1),
   .op none (.store 3 (.t 6) (.t 97)),
   .op (some 7) (.mov (.t 98))])
 (.keep [6, 7] (.ret))))))))))))))))))))))
theorem k_c_l10Eval_fits : fitsF Try.prog 64 ⟨99, k_c_l10Eval, [.cN 6 3, .t 7]⟩ = true := by kernel_rfl
set_option maxHeartbeats 4000000 in
theorem c_l10Eval {e : GExpr} {w : GRow} {f : Nat} {i : Int} (hi : 0 ≤ i) (hf : i < f) (hl : i < e.Nodes.length) (ht : (T e.Nodes i).2.2 = true) (hr : RR w) (hw : e.Nodes.length ≤ 1048576) : Con Try.prog noMv 64 [e.av, int i, w.av] [] (fun r h => r = .tup [(evalF e.Nodes w f i).1.av, int (evalF e.Nodes w f i).2] ∧ h = []) := by
 induction f generalizing i with
 | zero => exact absurd hf (by omega)
 | succ f ih =>
  refine con_of2 k_c_l10Eval_fits rfl fun C hP hmv => ?_
  unfold k_c_l10Eval
  obtain ⟨j, rfl⟩ : ∃ j : Nat, i = (j : Int) := ⟨i.toNat, by omega⟩
  have hj : j < e.Nodes.length := by omega
  have hTV := T_V hj ht
  refine cx_seq ?_
  refine cx_ops ?_
  refine ax_e (e_box rfl rfl (by decide) rfl rfl rfl) ?_
  refine ax_e (e_box rfl rfl (by decide) rfl rfl rfl) ?_
  refine ax_e (e_alloc (by decide) rfl rfl) ?_
  refine ax_q (q_mov rfl) ?_
  refine ax_nil ?_
  refine cx_keep rfl rfl ?_
  refine cx_seq ?_
  refine cx_ops ?_
  refine ax_q (q_fadr_ptr rfl) ?_
  refine ax_q (q_load1_ptr rfl rfl rfl) ?_
  refine ax_q (q_mov rfl) ?_
  refine ax_q (q_ix rfl rfl (mapAt hj)) ?_
  first | refine ax_q (q_ldN rfl rfl rfl) ?_ | refine ax_q (q_loadN_ip rfl (Nat.le_refl _)) ?_ | refine ax_q (q_loadN_ip rfl (by decide)) ?_ | refine ax_q (q_loadN_rptr rfl rfl (by assumption) (by decide)) ?_ | refine ax_q (q_loadN_rptr rfl rfl (mapAt (by first | assumption | omega)) (by decide)) ?_
  refine ax_e (e_alloc (by decide) rfl rfl) ?_
  refine ax_e (e_st rfl rfl rfl rfl rfl rfl rfl) ?_
  refine ax_nil ?_
  refine cx_keep rfl rfl ?_
  refine cx_seq ?_
  refine cx_block ?_
  refine cx_seq ?_
  refine cx_ops ?_
  refine ax_q (q_fadr_ptr rfl) ?_
  refine ax_q (q_load1_ptr rfl rfl rfl) ?_
  refine ax_q (q_ibin rfl rfl rfl) ?_
  refine ax_q (q_mov rfl) ?_
  refine ax_nil ?_
  refine cx_keep rfl rfl ?_
  refine cx_cond rfl (fun h0 => ?_) (fun h0 => ?_)
  ·
   have h0 := dT h0
   refine cx_seq ?_
   refine cx_ops ?_
   refine ax_q (q_fadr_ptr rfl) ?_
   refine ax_q (q_ldN rfl rfl rfl) ?_
   refine ax_e (e_st rfl rfl rfl rfl rfl rfl rfl) ?_
   refine ax_q (q_mov rfl) ?_
   refine ax_nil ?_
   refine cx_keep rfl rfl ?_
   refine cx_ret (ret0 rfl rfl ?_)
   exact ⟨by rw [evalF_1 hj h0]; rfl, rfl⟩
  ·
   have h0 := dF h0
   refine cx_seq ?_
   refine cx_ops ?_
   refine ax_q (q_fadr_ptr rfl) ?_
   refine ax_q (q_load1_ptr rfl rfl rfl) ?_
   refine ax_q (q_ibin rfl rfl rfl) ?_
   refine ax_q (q_mov rfl) ?_
   refine ax_nil ?_
   refine cx_keep rfl rfl ?_
   refine cx_cond rfl (fun h1 => ?_) (fun h1 => ?_)
   ·
    have h1 := dT h1
    have hc := hTV.2 h1
    refine cx_seq ?_
    refine cx_ops ?_
    refine ax_q (q_ldN rfl rfl rfl) ?_
    refine ax_q (q_fadr_ptr rfl) ?_
    refine ax_q (q_load1_ptr rfl rfl rfl) ?_
    first | refine ax_call rfl (vc_pure0 (c_sColumn  ) hP rfl rfl ?_) | refine ax_call rfl (vc_lend0 (c_sColumn  ) hP (by repeat (first | exact lal_id _ rfl | exact LAL.nil | refine LAL.cons ?_ ?_ | exact la_id _ rfl | exact LA.lend (lend_whole rfl (by first | (simp; done) | (rw [List.length_map]; rfl))) | refine LA.agg ?_ | refine LA.fn ?_ | refine LA.lend ?_ | exact Lend.d _ | exact Lend.zs _ | exact lend_whole rfl (by first | (simp; done) | (rw [List.length_map]; rfl)) | refine Lend.ptr rfl ?_ | refine Lend.fn ?_ | exact LendL.nil | refine LendL.cons ?_ ?_)) rfl rfl ?_)
    refine ax_e (e_st rfl rfl rfl rfl rfl rfl rfl) ?_
    refine ax_q (q_mov rfl) ?_
    refine ax_nil ?_
    refine cx_keep rfl rfl ?_
    refine cx_ret (ret0 rfl rfl ?_)
    exact ⟨by rw [evalF_2 hj h0 h1]; rfl, rfl⟩
   ·
    have h1 := dF h1
    refine cx_skip ?_
    refine cx_keep rfl rfl ?_
    refine cx_seq ?_
    refine cx_ops ?_
    refine ax_q (q_ldN rfl rfl rfl) ?_
    refine ax_q (q_fadr_ptr rfl) ?_
    refine ax_q (q_load1_ptr rfl rfl rfl) ?_
    refine ax_q (q_ldN rfl rfl rfl) ?_
    obtain ⟨⟨hA0, hA1, hAt, hAs⟩, hB⟩ := T_kids hj ht h0 h1
    have hva := evalF_rv (r := w) hr (f := f) hA0 (by omega) (by omega) hAt
    first | refine ax_call rfl (vc_pure0 (ih (i := e.Nodes[j].A) ?_ ?_ ?_ ?_) hP rfl rfl ?_) | refine ax_call rfl (vc_lend0 (ih (i := e.Nodes[j].A) ?_ ?_ ?_ ?_) hP (by repeat (first | exact lal_id _ rfl | exact LAL.nil | refine LAL.cons ?_ ?_ | exact la_id _ rfl | exact LA.lend (lend_whole rfl (by first | (simp; done) | (rw [List.length_map]; rfl))) | refine LA.agg ?_ | refine LA.fn ?_ | refine LA.lend ?_ | exact Lend.d _ | exact Lend.zs _ | exact lend_whole rfl (by first | (simp; done) | (rw [List.length_map]; rfl)) | refine Lend.ptr rfl ?_ | refine Lend.fn ?_ | exact LendL.nil | refine LendL.cons ?_ ?_)) rfl rfl ?_)
    ·
     first | assumption | omega | (simp; done) | (simp; omega)
    ·
     first | assumption | omega | (simp; done) | (simp; omega)
    ·
     first | assumption | omega | (simp; done) | (simp; omega)
    ·
     first | assumption | omega | (simp; done) | (simp; omega)
    refine ax_q (q_mov rfl) ?_
    refine ax_q (q_ext rfl rfl) ?_
    refine ax_q (q_ext rfl rfl) ?_
    refine ax_e (e_alloc (by decide) rfl rfl) ?_
    refine ax_e (e_st rfl rfl rfl rfl rfl rfl rfl) ?_
    refine ax_q (q_mov rfl) ?_
    refine ax_nil ?_
    refine cx_keep rfl rfl ?_
    refine cx_seq ?_
    refine cx_seq ?_
    refine cx_ops ?_
    refine ax_q (q_mov rfl) ?_
    refine ax_q (q_ibin rfl rfl rfl) ?_
    refine ax_nil ?_
    refine cx_keep rfl rfl ?_
    refine cx_cond rfl (fun h2 => ?_) (fun h2 => ?_)
    ·
     have h2 := nT h2
     refine cx_seq ?_
     refine cx_ops ?_
     refine ax_q (q_build rfl) ?_
     refine ax_q (q_mov rfl) ?_
     refine ax_e (e_st rfl rfl rfl rfl rfl rfl rfl) ?_
     refine ax_q (q_mov rfl) ?_
     refine ax_nil ?_
     refine cx_keep rfl rfl ?_
     refine cx_ret (ret0 rfl rfl ?_)
     exact ⟨by rw [evalF_3 hj h0 h1 h2]; rfl, rfl⟩
    ·
     have h2 := nF h2
     refine cx_skip ?_
     refine cx_keep rfl rfl ?_
     refine cx_seq ?_
     refine cx_seq ?_
     refine cx_ops ?_
     refine ax_q (q_fadr_ptr rfl) ?_
     refine ax_q (q_load1_ptr rfl rfl rfl) ?_
     refine ax_q (q_ibin rfl rfl rfl) ?_
     refine ax_nil ?_
     refine cx_keep rfl rfl ?_
     refine cx_cond rfl (fun h3 => ?_) (fun h3 => ?_)
     ·
      have h3 := dT h3
      refine cx_seq ?_
      refine cx_ops ?_
      refine ax_q (q_fadr_ptr rfl) ?_
      refine ax_q (q_load1_ptr rfl rfl rfl) ?_
      refine ax_q (q_ldN rfl rfl rfl) ?_
      first | refine ax_call rfl (vc_pure0 (c_sUnary (a := (evalF e.Nodes w f e.Nodes[j].A).1) ?_) hP rfl rfl ?_) | refine ax_call rfl (vc_lend0 (c_sUnary (a := (evalF e.Nodes w f e.Nodes[j].A).1) ?_) hP (by repeat (first | exact lal_id _ rfl | exact LAL.nil | refine LAL.cons ?_ ?_ | exact la_id _ rfl | exact LA.lend (lend_whole rfl (by first | (simp; done) | (rw [List.length_map]; rfl))) | refine LA.agg ?_ | refine LA.fn ?_ | refine LA.lend ?_ | exact Lend.d _ | exact Lend.zs _ | exact lend_whole rfl (by first | (simp; done) | (rw [List.length_map]; rfl)) | refine Lend.ptr rfl ?_ | refine Lend.fn ?_ | exact LendL.nil | refine LendL.cons ?_ ?_)) rfl rfl ?_)
      ·
       first | assumption | omega | (simp; done) | (simp; omega)
      refine ax_q (q_ext rfl rfl) ?_
      refine ax_q (q_ext rfl rfl) ?_
      refine ax_e (e_st rfl rfl rfl rfl rfl rfl rfl) ?_
      refine ax_q (q_mov rfl) ?_
      refine ax_nil ?_
      refine cx_keep rfl rfl ?_
      refine cx_ret (ret0 rfl rfl ?_)
      exact ⟨by rw [evalF_4 hj h0 h1 h2 h3]; rfl, rfl⟩
     ·
      have h3 := dF h3
      refine cx_skip ?_
      refine cx_keep rfl rfl ?_
      refine cx_seq ?_
      refine cx_seq ?_
      refine cx_ops ?_
      refine ax_q (q_fadr_ptr rfl) ?_
      refine ax_q (q_load1_ptr rfl rfl rfl) ?_
      refine ax_q (q_ibin rfl rfl rfl) ?_
      refine ax_q (q_mov rfl) ?_
      apply ax_and rfl rfl
      ·
       intro g
       have g := dT g
       refine ax_q (q_fadr_ptr rfl) ?_
       refine ax_q (q_load1_ptr rfl rfl rfl) ?_
       refine ax_q (q_ibin rfl rfl rfl) ?_
       exact ax_nil ⟨rfl, by repeat (first | exact trivial | refine ⟨rfl, ?_⟩ | refine ⟨?_, ?_⟩)⟩
      refine ax_q (q_mov rfl) ?_
      apply ax_and rfl rfl
      ·
       intro g
       have g := (fun h => And.intro (dT (and_T h).1) (dT (and_T h).2)) g
       refine ax_q (q_fadr_ptr rfl) ?_
       refine ax_q (q_load1_ptr rfl rfl rfl) ?_
       refine ax_q (q_ibin rfl rfl rfl) ?_
       exact ax_nil ⟨rfl, by repeat (first | exact trivial | refine ⟨rfl, ?_⟩ | refine ⟨?_, ?_⟩)⟩
      refine ax_nil ?_
      refine cx_keep rfl rfl ?_
      refine cx_cond rfl (fun h4 => ?_) (fun h4 => ?_)
      ·
       have h4 := (fun h => And.intro ((fun h => And.intro (dT (and_T h).1) (dT (and_T h).2)) (and_T h).1) (dT (and_T h).2)) h4
       refine cx_seq ?_
       refine cx_ops ?_
       first | refine ax_call rfl (vc_pure0 (c_sInt  ) hP rfl rfl ?_) | refine ax_call rfl (vc_lend0 (c_sInt  ) hP (by repeat (first | exact lal_id _ rfl | exact LAL.nil | refine LAL.cons ?_ ?_ | exact la_id _ rfl | exact LA.lend (lend_whole rfl (by first | (simp; done) | (rw [List.length_map]; rfl))) | refine LA.agg ?_ | refine LA.fn ?_ | refine LA.lend ?_ | exact Lend.d _ | exact Lend.zs _ | exact lend_whole rfl (by first | (simp; done) | (rw [List.length_map]; rfl)) | refine Lend.ptr rfl ?_ | refine Lend.fn ?_ | exact LendL.nil | refine LendL.cons ?_ ?_)) rfl rfl ?_)
       refine ax_e (e_st rfl rfl rfl rfl rfl rfl rfl) ?_
       refine ax_q (q_mov rfl) ?_
       refine ax_nil ?_
       refine cx_keep rfl rfl ?_
       refine cx_ret (ret0 rfl rfl ?_)
       exact ⟨by rw [evalF_r hj h0 h1 h2 h3, if_pos (by simp only [isZ_iff, isO_iff]; omega)]; rfl, rfl⟩
      ·
       have h4 := (fun h => (and_F h).imp (fun h => (and_F h).imp dF dF) dF) h4
       refine cx_skip ?_
       refine cx_keep rfl rfl ?_
       refine cx_seq ?_
       refine cx_seq ?_
       refine cx_ops ?_
       refine ax_q (q_fadr_ptr rfl) ?_
       refine ax_q (q_load1_ptr rfl rfl rfl) ?_
       refine ax_q (q_ibin rfl rfl rfl) ?_
       refine ax_q (q_mov rfl) ?_
       apply ax_and rfl rfl
       ·
        intro g
        have g := dT g
        refine ax_q (q_fadr_ptr rfl) ?_
        refine ax_q (q_load1_ptr rfl rfl rfl) ?_
        refine ax_q (q_ibin rfl rfl rfl) ?_
        exact ax_nil ⟨rfl, by repeat (first | exact trivial | refine ⟨rfl, ?_⟩ | refine ⟨?_, ?_⟩)⟩
       refine ax_q (q_mov rfl) ?_
       apply ax_and rfl rfl
       ·
        intro g
        have g := (fun h => And.intro (dT (and_T h).1) (dT (and_T h).2)) g
        refine ax_q (q_fadr_ptr rfl) ?_
        refine ax_q (q_load1_ptr rfl rfl rfl) ?_
        refine ax_q (q_ibin rfl rfl rfl) ?_
        exact ax_nil ⟨rfl, by repeat (first | exact trivial | refine ⟨rfl, ?_⟩ | refine ⟨?_, ?_⟩)⟩
       refine ax_nil ?_
       refine cx_keep rfl rfl ?_
       refine cx_cond rfl (fun h5 => ?_) (fun h5 => ?_)
       ·
        have h5 := (fun h => And.intro ((fun h => And.intro (dT (and_T h).1) (dT (and_T h).2)) (and_T h).1) (nT (and_T h).2)) h5
        refine cx_seq ?_
        refine cx_ops ?_
        first | refine ax_call rfl (vc_pure0 (c_sInt  ) hP rfl rfl ?_) | refine ax_call rfl (vc_lend0 (c_sInt  ) hP (by repeat (first | exact lal_id _ rfl | exact LAL.nil | refine LAL.cons ?_ ?_ | exact la_id _ rfl | exact LA.lend (lend_whole rfl (by first | (simp; done) | (rw [List.length_map]; rfl))) | refine LA.agg ?_ | refine LA.fn ?_ | refine LA.lend ?_ | exact Lend.d _ | exact Lend.zs _ | exact lend_whole rfl (by first | (simp; done) | (rw [List.length_map]; rfl)) | refine Lend.ptr rfl ?_ | refine Lend.fn ?_ | exact LendL.nil | refine LendL.cons ?_ ?_)) rfl rfl ?_)
        refine ax_e (e_st rfl rfl rfl rfl rfl rfl rfl) ?_
        refine ax_q (q_mov rfl) ?_
        refine ax_nil ?_
        refine cx_keep rfl rfl ?_
        refine cx_ret (ret0 rfl rfl ?_)
        exact ⟨by rw [evalF_r hj h0 h1 h2 h3, if_neg (by simp only [isZ_iff, isO_iff]; omega), if_pos (by simp only [isZ_iff, isO_iff]; omega)]; rfl, rfl⟩
       ·
        have h5 := (fun h => (and_F h).imp (fun h => (and_F h).imp dF dF) nF) h5
        refine cx_skip ?_
        refine cx_keep rfl rfl ?_
        refine cx_seq ?_
        refine cx_ops ?_
        refine ax_q (q_ldN rfl rfl rfl) ?_
        refine ax_q (q_fadr_ptr rfl) ?_
        refine ax_q (q_load1_ptr rfl rfl rfl) ?_
        refine ax_q (q_ldN rfl rfl rfl) ?_
        obtain ⟨hB0, hB1, hBt, hBs⟩ := hB h3
        have hvb := evalF_rv (r := w) hr (f := f) hB0 (by omega) (by omega) hBt
        first | refine ax_call rfl (vc_pure0 (ih (i := e.Nodes[j].B) ?_ ?_ ?_ ?_) hP rfl rfl ?_) | refine ax_call rfl (vc_lend0 (ih (i := e.Nodes[j].B) ?_ ?_ ?_ ?_) hP (by repeat (first | exact lal_id _ rfl | exact LAL.nil | refine LAL.cons ?_ ?_ | exact la_id _ rfl | exact LA.lend (lend_whole rfl (by first | (simp; done) | (rw [List.length_map]; rfl))) | refine LA.agg ?_ | refine LA.fn ?_ | refine LA.lend ?_ | exact Lend.d _ | exact Lend.zs _ | exact lend_whole rfl (by first | (simp; done) | (rw [List.length_map]; rfl)) | refine Lend.ptr rfl ?_ | refine Lend.fn ?_ | exact LendL.nil | refine LendL.cons ?_ ?_)) rfl rfl ?_)
        ·
         first | assumption | omega | (simp; done) | (simp; omega)
        ·
         first | assumption | omega | (simp; done) | (simp; omega)
        ·
         first | assumption | omega | (simp; done) | (simp; omega)
        ·
         first | assumption | omega | (simp; done) | (simp; omega)
        refine ax_q (q_mov rfl) ?_
        refine ax_q (q_ext rfl rfl) ?_
        refine ax_q (q_ext rfl rfl) ?_
        refine ax_e (e_alloc (by decide) rfl rfl) ?_
        refine ax_e (e_st rfl rfl rfl rfl rfl rfl rfl) ?_
        refine ax_q (q_mov rfl) ?_
        refine ax_nil ?_
        refine cx_keep rfl rfl ?_
        refine cx_seq ?_
        refine cx_seq ?_
        refine cx_ops ?_
        refine ax_q (q_mov rfl) ?_
        refine ax_q (q_ibin rfl rfl rfl) ?_
        refine ax_nil ?_
        refine cx_keep rfl rfl ?_
        refine cx_cond rfl (fun h6 => ?_) (fun h6 => ?_)
        ·
         have h6 := nT h6
         refine cx_seq ?_
         refine cx_ops ?_
         refine ax_q (q_build rfl) ?_
         refine ax_q (q_mov rfl) ?_
         refine ax_e (e_st rfl rfl rfl rfl rfl rfl rfl) ?_
         refine ax_q (q_mov rfl) ?_
         refine ax_nil ?_
         refine cx_keep rfl rfl ?_
         refine cx_ret (ret0 rfl rfl ?_)
         exact ⟨by rw [evalF_r hj h0 h1 h2 h3, if_neg (by simp only [isZ_iff, isO_iff]; omega), if_neg (by simp only [isZ_iff, isO_iff]; omega), if_pos h6]; rfl, rfl⟩
        ·
         have h6 := nF h6
         refine cx_skip ?_
         refine cx_keep rfl rfl ?_
         refine cx_seq ?_
         refine cx_ops ?_
         refine ax_q (q_fadr_ptr rfl) ?_
         refine ax_q (q_load1_ptr rfl rfl rfl) ?_
         refine ax_q (q_ldN rfl rfl rfl) ?_
         refine ax_q (q_ldN rfl rfl rfl) ?_
         first | refine ax_call rfl (vc_pure0 (c_sBinary (a := (evalF e.Nodes w f e.Nodes[j].A).1) (b := (evalF e.Nodes w f e.Nodes[j].B).1) ?_ ?_) hP rfl rfl ?_) | refine ax_call rfl (vc_lend0 (c_sBinary (a := (evalF e.Nodes w f e.Nodes[j].A).1) (b := (evalF e.Nodes w f e.Nodes[j].B).1) ?_ ?_) hP (by repeat (first | exact lal_id _ rfl | exact LAL.nil | refine LAL.cons ?_ ?_ | exact la_id _ rfl | exact LA.lend (lend_whole rfl (by first | (simp; done) | (rw [List.length_map]; rfl))) | refine LA.agg ?_ | refine LA.fn ?_ | refine LA.lend ?_ | exact Lend.d _ | exact Lend.zs _ | exact lend_whole rfl (by first | (simp; done) | (rw [List.length_map]; rfl)) | refine Lend.ptr rfl ?_ | refine Lend.fn ?_ | exact LendL.nil | refine LendL.cons ?_ ?_)) rfl rfl ?_)
         ·
          first | assumption | omega | (simp; done) | (simp; omega)
         ·
          first | assumption | omega | (simp; done) | (simp; omega)
         refine ax_q (q_ext rfl rfl) ?_
         refine ax_q (q_ext rfl rfl) ?_
         refine ax_e (e_st rfl rfl rfl rfl rfl rfl rfl) ?_
         refine ax_q (q_mov rfl) ?_
         refine ax_nil ?_
         refine cx_keep rfl rfl ?_
         refine cx_ret (ret0 rfl rfl ?_)
         exact ⟨by rw [evalF_r hj h0 h1 h2 h3, if_neg (by simp only [isZ_iff, isO_iff]; omega), if_neg (by simp only [isZ_iff, isO_iff]; omega), if_neg (by omega)]; rfl, rfl⟩


/- loop.example/g00332/spec.EvalExpr -/
def k_c_sEvalExpr : XCode :=
 .seq (.ops [.op (some 2) (.box (.t 0)),
   .op (some 3) (.box (.t 1)),
   .op (some 4) (.alloc [.int .i64 0, .int .i64 0, .str []]),
   .op (some 5) (.mov (.k (.int .i64 0)))])
 (.keep [2, 3, 4] (.seq (.seq (.ops [.op (some 6) (.loadN 1 (.t 2)),
   .call (some 7) 47 [.t 6],
   .op (some 8) (.not (.t 7)),
   .op (some 9) (.mov (.t 8)),
   .andor 13 false 3 9 [.op (some 10) (.loadN 7 (.t 3)), .call (some 11) 48 [.t 10], .op (some 12) (.not (.t 11))] (.t 12)])
  (.keep [2, 3, 4, 13] (.cond (.t 13)
  (.seq (.ops [.op (some 14) (.build [.int .i64 0, .int .i64 0, .str []] []),
    .op none (.store 3 (.t 4) (.t 14)),
    .op (some 5) (.mov (.k (.int .i64 1)))])
   (.keep [4, 5] (.ret)))
  (.skip))))
 (.keep [2, 3, 4] (.seq (.ops [.op (some 15) (.loadN 1 (.t 2)),
   .op (some 16) (.fadr (.t 2) 0),
   .op (some 17) (.load1 (.t 16)),
   .op (some 18) (.lenS (.t 17)),
   .op (some 19) (.bin .sub (.t 18) (.k (.int .i64 1))),
   .op (some 20) (.loadN 7 (.t 3)),
   .call (some 21) 64 [.t 15, .t 19, .t 20],
   .op (some 22) (.ext (.t 21) 0),
   .op (some 23) (.ext (.t 21) 1),
   .op none (.store 3 (.t 4) (.t 22)),
   .op (some 5) (.mov (.t 23))])
 (.keep [4, 5] (.ret))))))
theorem k_c_sEvalExpr_fits : fitsF Try.prog 31 ⟨24, k_c_sEvalExpr, [.cN 4 3, .t 5]⟩ = true := by kernel_rfl
theorem c_sEvalExpr {e : GExpr} {w : GRow} (hw : e.Nodes.length ≤ 1048576) (hv : ∀ x ∈ e.Nodes, x.V.T.length ≤ 1048576) (hr1 : w.N.T.length ≤ 1048576) (hr2 : w.Name.T.length ≤ 1048576) : Con Try.prog noMv 31 [e.av, w.av] [] (fun r h => r = .tup [(evF e w).1.av, int (evF e w).2] ∧ h = []) := by
 refine con_of2 k_c_sEvalExpr_fits rfl fun C hP hmv => ?_
 unfold k_c_sEvalExpr
 refine cx_seq ?_
 refine cx_ops ?_
 refine ax_e (e_box rfl rfl (by decide) rfl rfl rfl) ?_
 refine ax_e (e_box rfl rfl (by decide) rfl rfl rfl) ?_
 refine ax_e (e_alloc (by decide) rfl rfl) ?_
 refine ax_q (q_mov rfl) ?_
 refine ax_nil ?_
 refine cx_keep rfl rfl ?_
 refine cx_seq ?_
 refine cx_seq ?_
 refine cx_ops ?_
 refine ax_q (q_ldN rfl rfl rfl) ?_
 first | refine ax_call rfl (vc_pure0 (c_sExprOK (e := e) ?_ ?_) hP rfl rfl ?_) | refine ax_call rfl (vc_lend0 (c_sExprOK (e := e) ?_ ?_) hP (by repeat (first | exact lal_id _ rfl | exact LAL.nil | refine LAL.cons ?_ ?_ | exact la_id _ rfl | exact LA.lend (lend_whole rfl (by first | (simp; done) | (rw [List.length_map]; rfl))) | refine LA.agg ?_ | refine LA.fn ?_ | refine LA.lend ?_ | exact Lend.d _ | exact Lend.zs _ | exact lend_whole rfl (by first | (simp; done) | (rw [List.length_map]; rfl)) | refine Lend.ptr rfl ?_ | refine Lend.fn ?_ | exact LendL.nil | refine LendL.cons ?_ ?_)) rfl rfl ?_)
 ·
  first | assumption | omega | (simp; done) | (simp; omega)
 ·
  first | assumption | omega | (simp; done) | (simp; omega)
 refine ax_q (q_not rfl) ?_
 refine ax_q (q_mov rfl) ?_
 apply ax_or rfl rfl
 ·
  intro g
  have g := bF g
  refine ax_q (q_ldN rfl rfl rfl) ?_
  first | refine ax_call rfl (vc_pure0 (c_l07Row (a := w) ?_ ?_) hP rfl rfl ?_) | refine ax_call rfl (vc_lend0 (c_l07Row (a := w) ?_ ?_) hP (by repeat (first | exact lal_id _ rfl | exact LAL.nil | refine LAL.cons ?_ ?_ | exact la_id _ rfl | exact LA.lend (lend_whole rfl (by first | (simp; done) | (rw [List.length_map]; rfl))) | refine LA.agg ?_ | refine LA.fn ?_ | refine LA.lend ?_ | exact Lend.d _ | exact Lend.zs _ | exact lend_whole rfl (by first | (simp; done) | (rw [List.length_map]; rfl)) | refine Lend.ptr rfl ?_ | refine Lend.fn ?_ | exact LendL.nil | refine LendL.cons ?_ ?_)) rfl rfl ?_)
  ·
   first | assumption | omega | (simp; done) | (simp; omega)
  ·
   first | assumption | omega | (simp; done) | (simp; omega)
  refine ax_q (q_not rfl) ?_
  exact ax_nil ⟨rfl, by repeat (first | exact trivial | refine ⟨rfl, ?_⟩ | refine ⟨?_, ?_⟩)⟩
 refine ax_nil ?_
 refine cx_keep rfl rfl ?_
 refine cx_cond rfl (fun h0 => ?_) (fun h0 => ?_)
 ·
  have h0 := (fun h => (or_T h).imp bT bT) h0
  refine cx_seq ?_
  refine cx_ops ?_
  refine ax_q (q_build rfl) ?_
  refine ax_e (e_st rfl rfl rfl rfl rfl rfl rfl) ?_
  refine ax_q (q_mov rfl) ?_
  refine ax_nil ?_
  refine cx_keep rfl rfl ?_
  refine cx_ret (ret0 rfl rfl ?_)
  exact ⟨by rw [evF_0 h0]; rfl, rfl⟩
 ·
  have h0 := (fun h => And.intro (bF (or_F h).1) (bF (or_F h).2)) h0
  have hrr := RR.of h0.2
  obtain ⟨hz0, hz1, hz2, hz3, _⟩ := comp_hyps h0.1
  refine cx_skip ?_
  refine cx_keep rfl rfl ?_
  refine cx_seq ?_
  refine cx_ops ?_
  refine ax_q (q_ldN rfl rfl rfl) ?_
  refine ax_q (q_fadr_ptr rfl) ?_
  refine ax_q (q_load1_ptr rfl rfl rfl) ?_
  first | refine ax_q (q_lenS_map rfl) ?_ | refine ax_q (q_lenS_osl rfl) ?_ | refine ax_q (q_lenS_zs rfl) ?_ | refine ax_q (q_lenS rfl) ?_
  refine ax_q (q_sub rfl rfl (by omega)) ?_
  refine ax_q (q_ldN rfl rfl rfl) ?_
  first | refine ax_call rfl (vc_pure0 (c_l10Eval (e := e) (w := w) (f := e.Nodes.length + 1) ?_ ?_ ?_ ?_ ?_ ?_) hP rfl rfl ?_) | refine ax_call rfl (vc_lend0 (c_l10Eval (e := e) (w := w) (f := e.Nodes.length + 1) ?_ ?_ ?_ ?_ ?_ ?_) hP (by repeat (first | exact lal_id _ rfl | exact LAL.nil | refine LAL.cons ?_ ?_ | exact la_id _ rfl | exact LA.lend (lend_whole rfl (by first | (simp; done) | (rw [List.length_map]; rfl))) | refine LA.agg ?_ | refine LA.fn ?_ | refine LA.lend ?_ | exact Lend.d _ | exact Lend.zs _ | exact lend_whole rfl (by first | (simp; done) | (rw [List.length_map]; rfl)) | refine Lend.ptr rfl ?_ | refine Lend.fn ?_ | exact LendL.nil | refine LendL.cons ?_ ?_)) rfl rfl ?_)
  ·
   first | assumption | omega | (simp; done) | (simp; omega)
  ·
   first | assumption | omega | (simp; done) | (simp; omega)
  ·
   first | assumption | omega | (simp; done) | (simp; omega)
  ·
   first | assumption | omega | (simp; done) | (simp; omega)
  ·
   first | assumption | omega | (simp; done) | (simp; omega)
  ·
   first | assumption | omega | (simp; done) | (simp; omega)
  refine ax_q (q_ext rfl rfl) ?_
  refine ax_q (q_ext rfl rfl) ?_
  refine ax_e (e_st rfl rfl rfl rfl rfl rfl rfl) ?_
  refine ax_q (q_mov rfl) ?_
  refine ax_nil ?_
  refine cx_keep rfl rfl ?_
  refine cx_ret (ret0 rfl rfl ?_)
  exact ⟨by rw [evF_1 h0.1 h0.2]; rfl, rfl⟩


/- loop.example/g00332/impl.isId -/
def k_c_isId : XCode :=
 .seq (.ops [.op (some 2) (.mov (.k (.bool false)))])
 (.keep [0] (.seq (.ops [.op (some 3) (.mov (.t 0)),
   .call (some 4) 54 [.t 3, .k (.int .i64 0), .k (.int .i64 1000)],
   .op (some 2) (.mov (.t 4))])
 (.keep [2] (.ret))))
theorem k_c_isId_fits : fitsF Try.prog 77 ⟨5, k_c_isId, [.t 2]⟩ = true := by kernel_rfl
theorem c_isId {n : Int} : Con Try.prog noMv 77 [int n] [] (fun r h => r = bool (inR n 0 1000) ∧ h = []) := by
 refine con_of2 k_c_isId_fits rfl fun C hP hmv => ?_
 unfold k_c_isId
 refine cx_seq ?_
 refine cx_ops ?_
 refine ax_q (q_mov rfl) ?_
 refine ax_nil ?_
 refine cx_keep rfl rfl ?_
 refine cx_seq ?_
 refine cx_ops ?_
 refine ax_q (q_mov rfl) ?_
 first | refine ax_call rfl (vc_pure0 (c_inRange  ) hP rfl rfl ?_) | refine ax_call rfl (vc_lend0 (c_inRange  ) hP (by repeat (first | exact lal_id _ rfl | exact LAL.nil | refine LAL.cons ?_ ?_ | exact la_id _ rfl | exact LA.lend (lend_whole rfl (by first | (simp; done) | (rw [List.length_map]; rfl))) | refine LA.agg ?_ | refine LA.fn ?_ | refine LA.lend ?_ | exact Lend.d _ | exact Lend.zs _ | exact lend_whole rfl (by first | (simp; done) | (rw [List.length_map]; rfl)) | refine Lend.ptr rfl ?_ | refine Lend.fn ?_ | exact LendL.nil | refine LendL.cons ?_ ?_)) rfl rfl ?_)
 refine ax_q (q_mov rfl) ?_
 refine ax_nil ?_
 refine cx_keep rfl rfl ?_
 refine cx_ret (ret0 rfl rfl ?_)
 exact ⟨rfl, rfl⟩


/- loop.example/g00332/impl.rowOK -/
def k_c_rowOK : XCode :=
 .seq (.ops [.op (some 1) (.box (.t 0)),
   .op (some 2) (.mov (.k (.bool false)))])
 (.keep [1] (.seq (.ops [.op (some 3) (.fadr (.t 1) 0),
   .op (some 4) (.load1 (.t 3)),
   .call (some 5) 77 [.t 4],
   .op (some 6) (.mov (.t 5)),
   .andor 10 true 3 6 [.op (some 7) (.fadr (.t 1) 1), .op (some 8) (.loadN 3 (.t 7)), .call (some 9) 78 [.t 8]] (.t 9),
   .op (some 11) (.mov (.t 10)),
   .andor 16 true 8 11 [.op (some 12) (.fadr (.t 1) 1), .op (some 13) (.fadr (.t 12) 0), .op (some 14) (.load1 (.t 13)), .op (some 15) (.bin .neq (.t 14) (.k (.int .i64 2)))] (.t 15),
   .op (some 17) (.mov (.t 16)),
   .andor 21 true 14 17 [.op (some 18) (.fadr (.t 1) 4), .op (some 19) (.loadN 3 (.t 18)), .call (some 20) 78 [.t 19]] (.t 20),
   .op (some 22) (.mov (.t 21)),
   .andor 27 true 19 22 [.op (some 23) (.fadr (.t 1) 4), .op (some 24) (.fadr (.t 23) 0), .op (some 25) (.load1 (.t 24)), .op (some 26) (.bin .neq (.t 25) (.k (.int .i64 1)))] (.t 26),
   .op (some 2) (.mov (.t 27))])
 (.keep [2] (.ret))))
theorem k_c_rowOK_fits : fitsF Try.prog 53 ⟨28, k_c_rowOK, [.t 2]⟩ = true := by kernel_rfl
theorem c_rowOK {a : GRow} (hv : a.N.T.length ≤ 1048576) (hw : a.Name.T.length ≤ 1048576) : Con Try.prog noMv 53 [a.av] [] (fun r h => r = bool (rowOK a) ∧ h = []) := by
 refine con_of2 k_c_rowOK_fits rfl fun C hP hmv => ?_
 unfold k_c_rowOK
 refine cx_seq ?_
 refine cx_ops ?_
 refine ax_e (e_box rfl rfl (by decide) rfl rfl rfl) ?_
 refine ax_q (q_mov rfl) ?_
 refine ax_nil ?_
 refine cx_keep rfl rfl ?_
 refine cx_seq ?_
 refine cx_ops ?_
 refine ax_q (q_fadr_ptr rfl) ?_
 refine ax_q (q_load1_ptr rfl rfl rfl) ?_
 first | refine ax_call rfl (vc_pure0 (c_isId  ) hP rfl rfl ?_) | refine ax_call rfl (vc_lend0 (c_isId  ) hP (by repeat (first | exact lal_id _ rfl | exact LAL.nil | refine LAL.cons ?_ ?_ | exact la_id _ rfl | exact LA.lend (lend_whole rfl (by first | (simp; done) | (rw [List.length_map]; rfl))) | refine LA.agg ?_ | refine LA.fn ?_ | refine LA.lend ?_ | exact Lend.d _ | exact Lend.zs _ | exact lend_whole rfl (by first | (simp; done) | (rw [List.length_map]; rfl)) | refine Lend.ptr rfl ?_ | refine Lend.fn ?_ | exact LendL.nil | refine LendL.cons ?_ ?_)) rfl rfl ?_)
 refine ax_q (q_mov rfl) ?_
 apply ax_and rfl rfl
 ·
  intro g
  refine ax_q (q_fadr_ptr rfl) ?_
  refine ax_q (q_ldN rfl rfl rfl) ?_
  first | refine ax_call rfl (vc_pure0 (c_ValueOK (v := a.N) ?_) hP rfl rfl ?_) | refine ax_call rfl (vc_lend0 (c_ValueOK (v := a.N) ?_) hP (by repeat (first | exact lal_id _ rfl | exact LAL.nil | refine LAL.cons ?_ ?_ | exact la_id _ rfl | exact LA.lend (lend_whole rfl (by first | (simp; done) | (rw [List.length_map]; rfl))) | refine LA.agg ?_ | refine LA.fn ?_ | refine LA.lend ?_ | exact Lend.d _ | exact Lend.zs _ | exact lend_whole rfl (by first | (simp; done) | (rw [List.length_map]; rfl)) | refine Lend.ptr rfl ?_ | refine Lend.fn ?_ | exact LendL.nil | refine LendL.cons ?_ ?_)) rfl rfl ?_)
  ·
   first | assumption | omega | (simp; done) | (simp; omega)
  exact ax_nil ⟨rfl, by repeat (first | exact trivial | refine ⟨rfl, ?_⟩ | refine ⟨?_, ?_⟩)⟩
 refine ax_q (q_mov rfl) ?_
 apply ax_and rfl rfl
 ·
  intro g
  have g := (fun h => And.intro (id (and_T h).1) (id (and_T h).2)) g
  refine ax_q (q_fadr_ptr rfl) ?_
  refine ax_q (q_fadr_ptr rfl) ?_
  refine ax_q (q_load1_ptr rfl rfl rfl) ?_
  refine ax_q (q_ibin rfl rfl rfl) ?_
  exact ax_nil ⟨rfl, by repeat (first | exact trivial | refine ⟨rfl, ?_⟩ | refine ⟨?_, ?_⟩)⟩
 refine ax_q (q_mov rfl) ?_
 apply ax_and rfl rfl
 ·
  intro g
  have g := (fun h => And.intro ((fun h => And.intro (id (and_T h).1) (id (and_T h).2)) (and_T h).1) (nT (and_T h).2)) g
  refine ax_q (q_fadr_ptr rfl) ?_
  refine ax_q (q_ldN rfl rfl rfl) ?_
  first | refine ax_call rfl (vc_pure0 (c_ValueOK (v := a.Name) ?_) hP rfl rfl ?_) | refine ax_call rfl (vc_lend0 (c_ValueOK (v := a.Name) ?_) hP (by repeat (first | exact lal_id _ rfl | exact LAL.nil | refine LAL.cons ?_ ?_ | exact la_id _ rfl | exact LA.lend (lend_whole rfl (by first | (simp; done) | (rw [List.length_map]; rfl))) | refine LA.agg ?_ | refine LA.fn ?_ | refine LA.lend ?_ | exact Lend.d _ | exact Lend.zs _ | exact lend_whole rfl (by first | (simp; done) | (rw [List.length_map]; rfl)) | refine Lend.ptr rfl ?_ | refine Lend.fn ?_ | exact LendL.nil | refine LendL.cons ?_ ?_)) rfl rfl ?_)
  ·
   first | assumption | omega | (simp; done) | (simp; omega)
  exact ax_nil ⟨rfl, by repeat (first | exact trivial | refine ⟨rfl, ?_⟩ | refine ⟨?_, ?_⟩)⟩
 refine ax_q (q_mov rfl) ?_
 apply ax_and rfl rfl
 ·
  intro g
  have g := (fun h => And.intro ((fun h => And.intro ((fun h => And.intro (id (and_T h).1) (id (and_T h).2)) (and_T h).1) (nT (and_T h).2)) (and_T h).1) (id (and_T h).2)) g
  refine ax_q (q_fadr_ptr rfl) ?_
  refine ax_q (q_fadr_ptr rfl) ?_
  refine ax_q (q_load1_ptr rfl rfl rfl) ?_
  refine ax_q (q_ibin rfl rfl rfl) ?_
  exact ax_nil ⟨rfl, by repeat (first | exact trivial | refine ⟨rfl, ?_⟩ | refine ⟨?_, ?_⟩)⟩
 refine ax_q (q_mov rfl) ?_
 refine ax_nil ?_
 refine cx_keep rfl rfl ?_
 refine cx_ret (ret0 rfl rfl ?_)
 exact ⟨by rw [← rowOK_i] <;> rfl, rfl⟩


/- loop.example/g00332/impl.numberValue -/
def k_c_numberValue : XCode :=
 .seq (.ops [.op (some 2) (.alloc [.int .i64 0, .int .i64 0, .str []])])
 (.keep [0, 2] (.seq (.ops [.op (some 3) (.mov (.t 0)),
   .op (some 4) (.build [.int .i64 0, .int .i64 0, .str []] [(0, 1, .k (.int .i64 1)), (1, 1, .t 3)]),
   .op none (.store 3 (.t 2) (.t 4))])
 (.keep [2] (.ret))))
theorem k_c_numberValue_fits : fitsF Try.prog 106 ⟨5, k_c_numberValue, [.cN 2 3]⟩ = true := by kernel_rfl
theorem c_numberValue {n : Int} : Con Try.prog noMv 106 [int n] [] (fun r h => r = (vI n).av ∧ h = []) := by
 refine con_of2 k_c_numberValue_fits rfl fun C hP hmv => ?_
 unfold k_c_numberValue
 refine cx_seq ?_
 refine cx_ops ?_
 refine ax_e (e_alloc (by decide) rfl rfl) ?_
 refine ax_nil ?_
 refine cx_keep rfl rfl ?_
 refine cx_seq ?_
 refine cx_ops ?_
 refine ax_q (q_mov rfl) ?_
 refine ax_q (q_build rfl) ?_
 refine ax_e (e_st rfl rfl rfl rfl rfl rfl rfl) ?_
 refine ax_nil ?_
 refine cx_keep rfl rfl ?_
 refine cx_ret (ret0 rfl rfl ?_)
 exact ⟨rfl, rfl⟩


/- loop.example/g00332/impl.columnOf -/
def k_c_columnOf : XCode :=
 .seq (.ops [.op (some 2) (.box (.t 0)),
   .op (some 4) (.alloc [.int .i64 0, .int .i64 0, .str []])])
 (.keep [1, 2, 4] (.seq (.drawE [[], [0], [0, 1], [], [3], [], [5], [0, 1, 2, 3, 4, 5, 6], [], [0, 1, 2, 3, 4, 5, 6, 7, 8], [0, 1, 2, 3, 4, 5, 6, 7, 8, 9]] [.op (some 5) (.fadr (.t 2) 0),
   .op (some 6) (.load1 (.t 5)),
   .call (some 7) 106 [.t 6],
   .op (some 8) (.fadr (.t 2) 1),
   .op (some 9) (.loadN 3 (.t 8)),
   .op (some 10) (.fadr (.t 2) 4),
   .op (some 11) (.loadN 3 (.t 10)),
   .op (some 12) (.build [.int .i64 0, .int .i64 0, .str [], .int .i64 0, .int .i64 0, .str [], .int .i64 0, .int .i64 0, .str []] [(0, 3, .t 7), (3, 3, .t 9), (6, 3, .t 11)]),
   .op (some 13) (.mov (.t 1))]
  [.op (some 14) (.idxA 3 3 (.t 12) (.t 13)),
   .op none (.store 3 (.t 4) (.t 14))])
 (.keep [4] (.ret))))
theorem k_c_columnOf_fits : fitsF Try.prog 89 ⟨15, k_c_columnOf, [.cN 4 3]⟩ = true := by kernel_rfl
theorem c_columnOf {w : GRow} {k : Int} (hk : 0 ≤ k ∧ k ≤ 2) : Con Try.prog noMv 89 [w.av, int k] [] (fun r h => r = (colF w k).av ∧ h = []) := by
 refine con_of2 k_c_columnOf_fits rfl fun C hP hmv => ?_
 unfold k_c_columnOf
 refine cx_seq ?_
 refine cx_ops ?_
 refine ax_e (e_box rfl rfl (by decide) rfl rfl rfl) ?_
 refine ax_e (e_alloc (by decide) rfl rfl) ?_
 refine ax_nil ?_
 refine cx_keep rfl rfl ?_
 refine cx_seq ?_
 refine cx_drawL 0 5 (fun _ => false) (fun _ => true) [] ([]) [[2], [5], [6], [2], [8], [2], [10], [7, 9, 11], [1]] [[], [], [], [], [], [], [], [], []] rfl ?_
 first | refine ⟨⟨5, _, []⟩, .inl ⟨rfl, rfl, rfl, locl_of (loc_q (q_fadr_ptr rfl))⟩, ?_⟩
 first | refine ⟨_, .inr ⟨rfl, _, rfl, .inr ⟨rfl, rfl, .inl rfl, rfl, rfl⟩, loc_q (q_load1_ptr rfl rfl rfl)⟩, ?_⟩
 first | refine ⟨_, .inr ⟨rfl, _, rfl, .inr ⟨rfl, rfl, .inl rfl, rfl, rfl⟩, loc_call (fun i => 7 + 200 * i) false rfl (c_numberValue  ) hP (.inr ⟨rfl, rfl, rfl⟩) rfl rfl (fun h => by cases h)⟩, ?_⟩ | refine ⟨_, .inr ⟨rfl, _, rfl, .inr ⟨rfl, rfl, .inl rfl, rfl, rfl⟩, loc_call (fun i => 7 + 200 * i) true rfl (c_numberValue  ) hP (.inl ⟨rfl, (by repeat (first | exact lal_id _ rfl | exact LAL.nil | refine LAL.cons ?_ ?_ | exact la_id _ rfl | exact LA.lend (lend_whole rfl (by first | (simp; done) | (rw [List.length_map]; rfl))) | refine LA.agg ?_ | refine LA.fn ?_ | refine LA.lend ?_ | exact Lend.d _ | exact Lend.zs _ | exact lend_whole rfl (by first | (simp; done) | (rw [List.length_map]; rfl)) | refine Lend.ptr rfl ?_ | refine Lend.fn ?_ | exact LendL.nil | refine LendL.cons ?_ ?_))⟩) rfl rfl (fun _ => ⟨rfl, noisl_of (by repeat (first | exact trivial | refine ⟨noisl_map (fun _ => rfl), ?_⟩ | refine ⟨?_, ?_⟩))⟩)⟩, ?_⟩
 first | refine ⟨_, .inr ⟨rfl, _, rfl, .inr ⟨rfl, rfl, .inr rfl, rfl, rfl⟩, loc_q (q_fadr_ptr rfl)⟩, ?_⟩
 first | refine ⟨_, .inr ⟨rfl, _, rfl, .inr ⟨rfl, rfl, .inr rfl, rfl, rfl⟩, loc_q (q_ldN rfl rfl rfl)⟩, ?_⟩
 first | refine ⟨_, .inr ⟨rfl, _, rfl, .inr ⟨rfl, rfl, .inr rfl, rfl, rfl⟩, loc_q (q_fadr_ptr rfl)⟩, ?_⟩
 first | refine ⟨_, .inr ⟨rfl, _, rfl, .inr ⟨rfl, rfl, .inr rfl, rfl, rfl⟩, loc_q (q_ldN rfl rfl rfl)⟩, ?_⟩
 first | refine ⟨_, .inr ⟨rfl, _, rfl, .inr ⟨rfl, rfl, .inl rfl, rfl, rfl⟩, loc_q (q_build rfl)⟩, ?_⟩
 first | refine ⟨_, .inr ⟨rfl, _, rfl, .inr ⟨rfl, rfl, .inr rfl, rfl, rfl⟩, loc_q (q_mov rfl)⟩, ?_⟩
 refine ⟨rfl, ?_⟩
 refine ax_qe (r' := (colF w k).av) (q_idxA rfl rfl (by omega)) (colF_at hk) ?_
 refine ax_e (e_st rfl rfl rfl rfl rfl rfl rfl) ?_
 refine ax_nil ?_
 refine cx_keep rfl rfl ?_
 refine cx_ret (ret0 rfl rfl ?_)
 exact ⟨rfl, rfl⟩


/- loop.example/g00332/impl.truth -/
def k_c_truth : XCode :=
 .seq (.ops [.op (some 2) (.alloc [.int .i64 0, .int .i64 0, .str []])])
 (.keep [0, 2] (.seq (.seq (.ops [.op (some 3) (.mov (.t 0))])
  (.keep [2, 3] (.cond (.t 3)
  (.seq (.ops [.call (some 4) 106 [.k (.int .i64 1)],
    .op none (.store 3 (.t 2) (.t 4))])
   (.keep [2] (.ret)))
  (.skip))))
 (.keep [2] (.seq (.ops [.call (some 5) 106 [.k (.int .i64 0)],
   .op none (.store 3 (.t 2) (.t 5))])
 (.keep [2] (.ret))))))
theorem k_c_truth_fits : fitsF Try.prog 94 ⟨6, k_c_truth, [.cN 2 3]⟩ = true := by kernel_rfl
theorem c_truth {b : Bool} : Con Try.prog noMv 94 [bool b] [] (fun r h => r = (vB b).av ∧ h = []) := by
 refine con_of2 k_c_truth_fits rfl fun C hP hmv => ?_
 unfold k_c_truth
 refine cx_seq ?_
 refine cx_ops ?_
 refine ax_e (e_alloc (by decide) rfl rfl) ?_
 refine ax_nil ?_
 refine cx_keep rfl rfl ?_
 refine cx_seq ?_
 refine cx_seq ?_
 refine cx_ops ?_
 refine ax_q (q_mov rfl) ?_
 refine ax_nil ?_
 refine cx_keep rfl rfl ?_
 refine cx_cond rfl (fun h0 => ?_) (fun h0 => ?_)
 ·
  skip
  refine cx_seq ?_
  refine cx_ops ?_
  first | refine ax_call rfl (vc_pure0 (c_numberValue  ) hP rfl rfl ?_) | refine ax_call rfl (vc_lend0 (c_numberValue  ) hP (by repeat (first | exact lal_id _ rfl | exact LAL.nil | refine LAL.cons ?_ ?_ | exact la_id _ rfl | exact LA.lend (lend_whole rfl (by first | (simp; done) | (rw [List.length_map]; rfl))) | refine LA.agg ?_ | refine LA.fn ?_ | refine LA.lend ?_ | exact Lend.d _ | exact Lend.zs _ | exact lend_whole rfl (by first | (simp; done) | (rw [List.length_map]; rfl)) | refine Lend.ptr rfl ?_ | refine Lend.fn ?_ | exact LendL.nil | refine LendL.cons ?_ ?_)) rfl rfl ?_)
  refine ax_e (e_st rfl rfl rfl rfl rfl rfl rfl) ?_
  refine ax_nil ?_
  refine cx_keep rfl rfl ?_
  refine cx_ret (ret0 rfl rfl ?_)
  exact ⟨by rw [h0]; rfl, rfl⟩
 ·
  skip
  refine cx_skip ?_
  refine cx_keep rfl rfl ?_
  refine cx_seq ?_
  refine cx_ops ?_
  first | refine ax_call rfl (vc_pure0 (c_numberValue  ) hP rfl rfl ?_) | refine ax_call rfl (vc_lend0 (c_numberValue  ) hP (by repeat (first | exact lal_id _ rfl | exact LAL.nil | refine LAL.cons ?_ ?_ | exact la_id _ rfl | exact LA.lend (lend_whole rfl (by first | (simp; done) | (rw [List.length_map]; rfl))) | refine LA.agg ?_ | refine LA.fn ?_ | refine LA.lend ?_ | exact Lend.d _ | exact Lend.zs _ | exact lend_whole rfl (by first | (simp; done) | (rw [List.length_map]; rfl)) | refine Lend.ptr rfl ?_ | refine Lend.fn ?_ | exact LendL.nil | refine LendL.cons ?_ ?_)) rfl rfl ?_)
  refine ax_e (e_st rfl rfl rfl rfl rfl rfl rfl) ?_
  refine ax_nil ?_
  refine cx_keep rfl rfl ?_
  refine cx_ret (ret0 rfl rfl ?_)
  exact ⟨by rw [h0]; rfl, rfl⟩


/- loop.example/g00332/impl.unary -/
def k_c_unary : XCode :=
 .seq (.ops [.op (some 3) (.box (.t 1)),
   .op (some 4) (.alloc [.int .i64 0, .int .i64 0, .str []]),
   .op (some 5) (.mov (.k (.int .i64 0)))])
 (.keep [0, 3, 4] (.seq (.block 0 (.seq (.ops [.op (some 7) (.mov (.t 0)),
    .op (some 8) (.bin .eql (.t 7) (.k (.int .i64 4))),
    .op (some 6) (.mov (.t 8))])
  (.keep [0, 3, 4, 6] (.cond (.t 6)
   (.seq (.ops [.op (some 9) (.fadr (.t 3) 0),
     .op (some 10) (.load1 (.t 9)),
     .op (some 11) (.bin .eql (.t 10) (.k (.int .i64 0))),
     .call (some 12) 94 [.t 11],
     .op none (.store 3 (.t 4) (.t 12)),
     .op (some 5) (.mov (.k (.int .i64 0)))])
   (.keep [4, 5] (.ret)))
   (.seq (.ops [.op (some 14) (.fadr (.t 3) 0),
     .op (some 15) (.load1 (.t 14)),
     .op (some 16) (.bin .eql (.t 15) (.k (.int .i64 2))),
     .op (some 13) (.mov (.t 16))])
   (.keep [0, 3, 4, 13] (.cond (.t 13)
    (.seq (.ops [.op (some 17) (.build [.int .i64 0, .int .i64 0, .str []] []),
      .op none (.store 3 (.t 4) (.t 17)),
      .op (some 5) (.mov (.k (.int .i64 10)))])
    (.keep [4, 5] (.ret)))
    (.seq (.ops [.op (some 19) (.fadr (.t 3) 0),
      .op (some 20) (.load1 (.t 19)),
      .op (some 21) (.bin .eql (.t 20) (.k (.int .i64 0))),
      .op (some 18) (.mov (.t 21))])
    (.keep [0, 3, 4, 18] (.cond (.t 18)
     (.seq (.ops [.op (some 22) (.build [.int .i64 0, .int .i64 0, .str []] []),
       .op none (.store 3 (.t 4) (.t 22)),
       .op (some 5) (.mov (.k (.int .i64 0)))])
     (.keep [4, 5] (.ret)))
     (.seq (.ops [.op (some 24) (.mov (.t 0)),
       .op (some 25) (.bin .eql (.t 24) (.k (.int .i64 3))),
       .op (some 23) (.mov (.t 25))])
     (.keep [3, 4, 23] (.cond (.t 23)
      (.seq (.ops [.op (some 26) (.fadr (.t 3) 1),
        .op (some 27) (.load1 (.t 26)),
        .op (some 28) (.bin .eql (.t 27) (.k (.int .i64 0))),
        .call (some 29) 94 [.t 28],
        .op none (.store 3 (.t 4) (.t 29)),
        .op (some 5) (.mov (.k (.int .i64 0)))])
      (.keep [4, 5] (.ret)))
      (.skip))))))))))))))
 (.keep [3, 4] (.seq (.ops [.op (some 30) (.fadr (.t 3) 1),
   .op (some 31) (.load1 (.t 30)),
   .op (some 32) (.neg (.t 31)),
   .call (some 33) 106 [.t 32],
   .op none (.store 3 (.t 4) (.t 33)),
   .op (some 5) (.mov (.k (.int .i64 0)))])
 (.keep [4, 5] (.ret))))))
theorem k_c_unary_fits : fitsF Try.prog 90 ⟨34, k_c_unary, [.cN 4 3, .t 5]⟩ = true := by kernel_rfl
theorem c_unary {op : Int} {a : GValue} (ha : RV a) : Con Try.prog noMv 90 [int op, a.av] [] (fun r h => r = .tup [(unF op a).1.av, int (unF op a).2] ∧ h = []) := by
 refine con_of2 k_c_unary_fits rfl fun C hP hmv => ?_
 unfold k_c_unary
 have hn := ha.n
 refine cx_seq ?_
 refine cx_ops ?_
 refine ax_e (e_box rfl rfl (by decide) rfl rfl rfl) ?_
 refine ax_e (e_alloc (by decide) rfl rfl) ?_
 refine ax_q (q_mov rfl) ?_
 refine ax_nil ?_
 refine cx_keep rfl rfl ?_
 refine cx_seq ?_
 refine cx_block ?_
 refine cx_seq ?_
 refine cx_ops ?_
 refine ax_q (q_mov rfl) ?_
 refine ax_q (q_ibin rfl rfl rfl) ?_
 refine ax_q (q_mov rfl) ?_
 refine ax_nil ?_
 refine cx_keep rfl rfl ?_
 refine cx_cond rfl (fun h0 => ?_) (fun h0 => ?_)
 ·
  have h0 := dT h0
  refine cx_seq ?_
  refine cx_ops ?_
  refine ax_q (q_fadr_ptr rfl) ?_
  refine ax_q (q_load1_ptr rfl rfl rfl) ?_
  refine ax_q (q_ibin rfl rfl rfl) ?_
  first | refine ax_call rfl (vc_pure0 (c_truth  ) hP rfl rfl ?_) | refine ax_call rfl (vc_lend0 (c_truth  ) hP (by repeat (first | exact lal_id _ rfl | exact LAL.nil | refine LAL.cons ?_ ?_ | exact la_id _ rfl | exact LA.lend (lend_whole rfl (by first | (simp; done) | (rw [List.length_map]; rfl))) | refine LA.agg ?_ | refine LA.fn ?_ | refine LA.lend ?_ | exact Lend.d _ | exact Lend.zs _ | exact lend_whole rfl (by first | (simp; done) | (rw [List.length_map]; rfl)) | refine Lend.ptr rfl ?_ | refine Lend.fn ?_ | exact LendL.nil | refine LendL.cons ?_ ?_)) rfl rfl ?_)
  refine ax_e (e_st rfl rfl rfl rfl rfl rfl rfl) ?_
  refine ax_q (q_mov rfl) ?_
  refine ax_nil ?_
  refine cx_keep rfl rfl ?_
  refine cx_ret (ret0 rfl rfl ?_)
  have e : unF op a = (vB (decide (a.Kind = 0)), 0) := by unfold unF; rw [if_pos (by omega)]
  exact ⟨by rw [e]; rfl, rfl⟩
 ·
  have h0 := dF h0
  refine cx_seq ?_
  refine cx_ops ?_
  refine ax_q (q_fadr_ptr rfl) ?_
  refine ax_q (q_load1_ptr rfl rfl rfl) ?_
  refine ax_q (q_ibin rfl rfl rfl) ?_
  refine ax_q (q_mov rfl) ?_
  refine ax_nil ?_
  refine cx_keep rfl rfl ?_
  refine cx_cond rfl (fun h1 => ?_) (fun h1 => ?_)
  ·
   have h1 := dT h1
   refine cx_seq ?_
   refine cx_ops ?_
   refine ax_q (q_build rfl) ?_
   refine ax_e (e_st rfl rfl rfl rfl rfl rfl rfl) ?_
   refine ax_q (q_mov rfl) ?_
   refine ax_nil ?_
   refine cx_keep rfl rfl ?_
   refine cx_ret (ret0 rfl rfl ?_)
   have e : unF op a = (.zero, 10) := by unfold unF; rw [if_neg (by omega), if_pos (by omega)]
   exact ⟨by rw [e]; rfl, rfl⟩
  ·
   have h1 := dF h1
   refine cx_seq ?_
   refine cx_ops ?_
   refine ax_q (q_fadr_ptr rfl) ?_
   refine ax_q (q_load1_ptr rfl rfl rfl) ?_
   refine ax_q (q_ibin rfl rfl rfl) ?_
   refine ax_q (q_mov rfl) ?_
   refine ax_nil ?_
   refine cx_keep rfl rfl ?_
   refine cx_cond rfl (fun h2 => ?_) (fun h2 => ?_)
   ·
    have h2 := dT h2
    refine cx_seq ?_
    refine cx_ops ?_
    refine ax_q (q_build rfl) ?_
    refine ax_e (e_st rfl rfl rfl rfl rfl rfl rfl) ?_
    refine ax_q (q_mov rfl) ?_
    refine ax_nil ?_
    refine cx_keep rfl rfl ?_
    refine cx_ret (ret0 rfl rfl ?_)
    have e : unF op a = (.zero, 0) := by unfold unF; rw [if_neg (by omega), if_neg (by omega), if_pos (by omega)]
    exact ⟨by rw [e]; rfl, rfl⟩
   ·
    have h2 := dF h2
    refine cx_seq ?_
    refine cx_ops ?_
    refine ax_q (q_mov rfl) ?_
    refine ax_q (q_ibin rfl rfl rfl) ?_
    refine ax_q (q_mov rfl) ?_
    refine ax_nil ?_
    refine cx_keep rfl rfl ?_
    refine cx_cond rfl (fun h3 => ?_) (fun h3 => ?_)
    ·
     have h3 := dT h3
     refine cx_seq ?_
     refine cx_ops ?_
     refine ax_q (q_fadr_ptr rfl) ?_
     refine ax_q (q_load1_ptr rfl rfl rfl) ?_
     refine ax_q (q_ibin rfl rfl rfl) ?_
     first | refine ax_call rfl (vc_pure0 (c_truth  ) hP rfl rfl ?_) | refine ax_call rfl (vc_lend0 (c_truth  ) hP (by repeat (first | exact lal_id _ rfl | exact LAL.nil | refine LAL.cons ?_ ?_ | exact la_id _ rfl | exact LA.lend (lend_whole rfl (by first | (simp; done) | (rw [List.length_map]; rfl))) | refine LA.agg ?_ | refine LA.fn ?_ | refine LA.lend ?_ | exact Lend.d _ | exact Lend.zs _ | exact lend_whole rfl (by first | (simp; done) | (rw [List.length_map]; rfl)) | refine Lend.ptr rfl ?_ | refine Lend.fn ?_ | exact LendL.nil | refine LendL.cons ?_ ?_)) rfl rfl ?_)
     refine ax_e (e_st rfl rfl rfl rfl rfl rfl rfl) ?_
     refine ax_q (q_mov rfl) ?_
     refine ax_nil ?_
     refine cx_keep rfl rfl ?_
     refine cx_ret (ret0 rfl rfl ?_)
     have e : unF op a = (vB (decide (a.N = 0)), 0) := by unfold unF; rw [if_neg (by omega), if_neg (by omega), if_neg (by omega), if_pos (by omega)]
     exact ⟨by rw [e]; rfl, rfl⟩
    ·
     have h3 := dF h3
     refine cx_skip ?_
     refine cx_keep rfl rfl ?_
     refine cx_seq ?_
     refine cx_ops ?_
     refine ax_q (q_fadr_ptr rfl) ?_
     refine ax_q (q_load1_ptr rfl rfl rfl) ?_
     first | refine ax_q (q_negI rfl (by omega)) ?_ | refine ax_q (q_neg rfl) ?_
     first | refine ax_call rfl (vc_pure0 (c_numberValue  ) hP rfl rfl ?_) | refine ax_call rfl (vc_lend0 (c_numberValue  ) hP (by repeat (first | exact lal_id _ rfl | exact LAL.nil | refine LAL.cons ?_ ?_ | exact la_id _ rfl | exact LA.lend (lend_whole rfl (by first | (simp; done) | (rw [List.length_map]; rfl))) | refine LA.agg ?_ | refine LA.fn ?_ | refine LA.lend ?_ | exact Lend.d _ | exact Lend.zs _ | exact lend_whole rfl (by first | (simp; done) | (rw [List.length_map]; rfl)) | refine Lend.ptr rfl ?_ | refine Lend.fn ?_ | exact LendL.nil | refine LendL.cons ?_ ?_)) rfl rfl ?_)
     refine ax_e (e_st rfl rfl rfl rfl rfl rfl rfl) ?_
     refine ax_q (q_mov rfl) ?_
     refine ax_nil ?_
     refine cx_keep rfl rfl ?_
     refine cx_ret (ret0 rfl rfl ?_)
     have e : unF op a = (vI (-a.N), 0) := by unfold unF; rw [if_neg (by omega), if_neg (by omega), if_neg (by omega), if_neg (by omega)]
     exact ⟨by rw [e]; rfl, rfl⟩


/- loop.example/g00332/impl.isZero -/
def k_c_isZero : XCode :=
 .seq (.ops [.op (some 1) (.box (.t 0)),
   .op (some 2) (.mov (.k (.bool false)))])
 (.keep [1] (.seq (.ops [.op (some 3) (.loadN 3 (.t 1)),
   .op (some 4) (.build [.int .i64 0, .int .i64 0, .str []] [(0, 1, .k (.int .i64 1))]),
   .op (some 5) (.eqs false [0, 0, 2] (.t 3) (.t 4)),
   .op (some 2) (.mov (.t 5))])
 (.keep [2] (.ret))))
theorem k_c_isZero_fits : fitsF Try.prog 92 ⟨6, k_c_isZero, [.t 2]⟩ = true := by kernel_rfl
theorem c_isZero {v : GValue} (hv : RV v) : Con Try.prog noMv 92 [v.av] [] (fun r h => r = bool (isZ v) ∧ h = []) := by
 refine con_of2 k_c_isZero_fits rfl fun C hP hmv => ?_
 unfold k_c_isZero
 refine cx_seq ?_
 refine cx_ops ?_
 refine ax_e (e_box rfl rfl (by decide) rfl rfl rfl) ?_
 refine ax_q (q_mov rfl) ?_
 refine ax_nil ?_
 refine cx_keep rfl rfl ?_
 refine cx_seq ?_
 refine cx_ops ?_
 refine ax_q (q_ldN rfl rfl rfl) ?_
 refine ax_q (q_build rfl) ?_
 first | refine ax_q (GValue.q_eqs rfl rfl) ?_ | refine ax_q (q_eqs rfl rfl rfl) ?_
 refine ax_q (q_mov rfl) ?_
 refine ax_nil ?_
 refine cx_keep rfl rfl ?_
 refine cx_ret (ret0 rfl rfl ?_)
 exact ⟨by rw [← RV.eqZ hv, eqV_eq]; rfl, rfl⟩


/- loop.example/g00332/impl.isOther -/
def k_c_isOther : XCode :=
 .seq (.ops [.op (some 1) (.box (.t 0)),
   .op (some 2) (.mov (.k (.bool false)))])
 (.keep [1] (.seq (.ops [.op (some 3) (.fadr (.t 1) 0),
   .op (some 4) (.load1 (.t 3)),
   .op (some 5) (.bin .eql (.t 4) (.k (.int .i64 1))),
   .op (some 6) (.mov (.t 5)),
   .andor 10 true 3 6 [.op (some 7) (.fadr (.t 1) 1), .op (some 8) (.load1 (.t 7)), .op (some 9) (.bin .neq (.t 8) (.k (.int .i64 0)))] (.t 9),
   .op (some 2) (.mov (.t 10))])
 (.keep [2] (.ret))))
theorem k_c_isOther_fits : fitsF Try.prog 93 ⟨11, k_c_isOther, [.t 2]⟩ = true := by kernel_rfl
theorem c_isOther {v : GValue} : Con Try.prog noMv 93 [v.av] [] (fun r h => r = bool (isO v) ∧ h = []) := by
 refine con_of2 k_c_isOther_fits rfl fun C hP hmv => ?_
 unfold k_c_isOther
 refine cx_seq ?_
 refine cx_ops ?_
 refine ax_e (e_box rfl rfl (by decide) rfl rfl rfl) ?_
 refine ax_q (q_mov rfl) ?_
 refine ax_nil ?_
 refine cx_keep rfl rfl ?_
 refine cx_seq ?_
 refine cx_ops ?_
 refine ax_q (q_fadr_ptr rfl) ?_
 refine ax_q (q_load1_ptr rfl rfl rfl) ?_
 refine ax_q (q_ibin rfl rfl rfl) ?_
 refine ax_q (q_mov rfl) ?_
 apply ax_and rfl rfl
 ·
  intro g
  have g := dT g
  refine ax_q (q_fadr_ptr rfl) ?_
  refine ax_q (q_load1_ptr rfl rfl rfl) ?_
  refine ax_q (q_ibin rfl rfl rfl) ?_
  exact ax_nil ⟨rfl, by repeat (first | exact trivial | refine ⟨rfl, ?_⟩ | refine ⟨?_, ?_⟩)⟩
 refine ax_q (q_mov rfl) ?_
 refine ax_nil ?_
 refine cx_keep rfl rfl ?_
 refine cx_ret (ret0 rfl rfl ?_)
 exact ⟨rfl, rfl⟩


/- loop.example/g00332/impl.connect -/
def k_c_connect : XCode :=
 .seq (.ops [.op (some 4) (.box (.t 1)),
   .op (some 5) (.box (.t 2)),
   .op (some 6) (.alloc [.int .i64 0, .int .i64 0, .str []]),
   .op (some 7) (.mov (.k (.int .i64 0)))])
 (.keep [0, 4, 5, 6] (.seq (.block 0 (.seq (.ops [.op (some 9) (.fadr (.t 4) 0),
    .op (some 10) (.load1 (.t 9)),
    .op (some 11) (.bin .eql (.t 10) (.k (.int .i64 2))),
    .op (some 12) (.mov (.t 11)),
    .andor 16 false 3 12 [.op (some 13) (.fadr (.t 5) 0), .op (some 14) (.load1 (.t 13)), .op (some 15) (.bin .eql (.t 14) (.k (.int .i64 2)))] (.t 15),
    .op (some 8) (.mov (.t 16))])
  (.keep [0, 4, 5, 6, 8] (.cond (.t 8)
   (.seq (.ops [.op (some 17) (.build [.int .i64 0, .int .i64 0, .str []] []),
     .op none (.store 3 (.t 6) (.t 17)),
     .op (some 7) (.mov (.k (.int .i64 10)))])
   (.keep [6, 7] (.ret)))
   (.seq (.ops [.op (some 19) (.mov (.t 0)),
     .op (some 20) (.bin .eql (.t 19) (.k (.int .i64 12))),
     .op (some 21) (.mov (.t 20)),
     .andor 28 true 2 21 [.op (some 22) (.loadN 3 (.t 4)), .call (some 23) 92 [.t 22], .op (some 24) (.mov (.t 23)), .andor 27 false 5 24 [.op (some 25) (.loadN 3 (.t 5)), .call (some 26) 92 [.t 25]] (.t 26)] (.t 27),
     .op (some 18) (.mov (.t 28))])
   (.keep [0, 4, 5, 6, 18] (.cond (.t 18)
    (.seq (.ops [.call (some 29) 94 [.k (.bool false)],
      .op none (.store 3 (.t 6) (.t 29)),
      .op (some 7) (.mov (.k (.int .i64 0)))])
    (.keep [6, 7] (.ret)))
    (.seq (.ops [.op (some 31) (.mov (.t 0)),
      .op (some 32) (.bin .eql (.t 31) (.k (.int .i64 13))),
      .op (some 33) (.mov (.t 32)),
      .andor 40 true 2 33 [.op (some 34) (.loadN 3 (.t 4)), .call (some 35) 93 [.t 34], .op (some 36) (.mov (.t 35)), .andor 39 false 5 36 [.op (some 37) (.loadN 3 (.t 5)), .call (some 38) 93 [.t 37]] (.t 38)] (.t 39),
      .op (some 30) (.mov (.t 40))])
    (.keep [0, 4, 5, 6, 30] (.cond (.t 30)
     (.seq (.ops [.call (some 41) 94 [.k (.bool true)],
       .op none (.store 3 (.t 6) (.t 41)),
       .op (some 7) (.mov (.k (.int .i64 0)))])
     (.keep [6, 7] (.ret)))
     (.seq (.ops [.op (some 43) (.fadr (.t 4) 0),
       .op (some 44) (.load1 (.t 43)),
       .op (some 45) (.bin .eql (.t 44) (.k (.int .i64 0))),
       .op (some 46) (.mov (.t 45)),
       .andor 50 false 3 46 [.op (some 47) (.fadr (.t 5) 0), .op (some 48) (.load1 (.t 47)), .op (some 49) (.bin .eql (.t 48) (.k (.int .i64 0)))] (.t 49),
       .op (some 42) (.mov (.t 50))])
     (.keep [0, 6, 42] (.cond (.t 42)
      (.seq (.ops [.op (some 51) (.build [.int .i64 0, .int .i64 0, .str []] []),
        .op none (.store 3 (.t 6) (.t 51)),
        .op (some 7) (.mov (.k (.int .i64 0)))])
      (.keep [6, 7] (.ret)))
      (.skip))))))))))))))
 (.keep [0, 6] (.seq (.ops [.op (some 52) (.mov (.t 0)),
   .op (some 53) (.bin .eql (.t 52) (.k (.int .i64 12))),
   .call (some 54) 94 [.t 53],
   .op none (.store 3 (.t 6) (.t 54)),
   .op (some 7) (.mov (.k (.int .i64 0)))])
 (.keep [6, 7] (.ret))))))
theorem k_c_connect_fits : fitsF Try.prog 107 ⟨55, k_c_connect, [.cN 6 3, .t 7]⟩ = true := by kernel_rfl
theorem c_connect {op : Int} {a b : GValue} (ha : RV a) (hb : RV b) : Con Try.prog noMv 107 [int op, a.av, b.av] [] (fun r h => r = .tup [(conF op a b).1.av, int (conF op a b).2] ∧ h = []) := by
 refine con_of2 k_c_connect_fits rfl fun C hP hmv => ?_
 unfold k_c_connect
 refine cx_seq ?_
 refine cx_ops ?_
 refine ax_e (e_box rfl rfl (by decide) rfl rfl rfl) ?_
 refine ax_e (e_box rfl rfl (by decide) rfl rfl rfl) ?_
 refine ax_e (e_alloc (by decide) rfl rfl) ?_
 refine ax_q (q_mov rfl) ?_
 refine ax_nil ?_
 refine cx_keep rfl rfl ?_
 refine cx_seq ?_
 refine cx_block ?_
 refine cx_seq ?_
 refine cx_ops ?_
 refine ax_q (q_fadr_ptr rfl) ?_
 refine ax_q (q_load1_ptr rfl rfl rfl) ?_
 refine ax_q (q_ibin rfl rfl rfl) ?_
 refine ax_q (q_mov rfl) ?_
 apply ax_or rfl rfl
 ·
  intro g
  have g := dF g
  refine ax_q (q_fadr_ptr rfl) ?_
  refine ax_q (q_load1_ptr rfl rfl rfl) ?_
  refine ax_q (q_ibin rfl rfl rfl) ?_
  exact ax_nil ⟨rfl, by repeat (first | exact trivial | refine ⟨rfl, ?_⟩ | refine ⟨?_, ?_⟩)⟩
 refine ax_q (q_mov rfl) ?_
 refine ax_nil ?_
 refine cx_keep rfl rfl ?_
 refine cx_cond rfl (fun h0 => ?_) (fun h0 => ?_)
 ·
  have h0 := (fun h => (or_T h).imp dT dT) h0
  refine cx_seq ?_
  refine cx_ops ?_
  refine ax_q (q_build rfl) ?_
  refine ax_e (e_st rfl rfl rfl rfl rfl rfl rfl) ?_
  refine ax_q (q_mov rfl) ?_
  refine ax_nil ?_
  refine cx_keep rfl rfl ?_
  refine cx_ret (ret0 rfl rfl ?_)
  have e : conF op a b = (.zero, 10) := by unfold conF; rw [if_pos h0]
  exact ⟨by rw [e]; rfl, rfl⟩
 ·
  have h0 := (fun h => And.intro (dF (or_F h).1) (dF (or_F h).2)) h0
  refine cx_seq ?_
  refine cx_ops ?_
  refine ax_q (q_mov rfl) ?_
  refine ax_q (q_ibin rfl rfl rfl) ?_
  refine ax_q (q_mov rfl) ?_
  apply ax_and rfl rfl
  ·
   intro g
   have g := dT g
   refine ax_q (q_ldN rfl rfl rfl) ?_
   first | refine ax_call rfl (vc_pure0 (c_isZero (v := a) ?_) hP rfl rfl ?_) | refine ax_call rfl (vc_lend0 (c_isZero (v := a) ?_) hP (by repeat (first | exact lal_id _ rfl | exact LAL.nil | refine LAL.cons ?_ ?_ | exact la_id _ rfl | exact LA.lend (lend_whole rfl (by first | (simp; done) | (rw [List.length_map]; rfl))) | refine LA.agg ?_ | refine LA.fn ?_ | refine LA.lend ?_ | exact Lend.d _ | exact Lend.zs _ | exact lend_whole rfl (by first | (simp; done) | (rw [List.length_map]; rfl)) | refine Lend.ptr rfl ?_ | refine Lend.fn ?_ | exact LendL.nil | refine LendL.cons ?_ ?_)) rfl rfl ?_)
   ·
    first | assumption | omega | (simp; done) | (simp; omega)
   refine ax_q (q_mov rfl) ?_
   apply ax_or rfl rfl
   ·
    intro g
    refine ax_q (q_ldN rfl rfl rfl) ?_
    first | refine ax_call rfl (vc_pure0 (c_isZero (v := b) ?_) hP rfl rfl ?_) | refine ax_call rfl (vc_lend0 (c_isZero (v := b) ?_) hP (by repeat (first | exact lal_id _ rfl | exact LAL.nil | refine LAL.cons ?_ ?_ | exact la_id _ rfl | exact LA.lend (lend_whole rfl (by first | (simp; done) | (rw [List.length_map]; rfl))) | refine LA.agg ?_ | refine LA.fn ?_ | refine LA.lend ?_ | exact Lend.d _ | exact Lend.zs _ | exact lend_whole rfl (by first | (simp; done) | (rw [List.length_map]; rfl)) | refine Lend.ptr rfl ?_ | refine Lend.fn ?_ | exact LendL.nil | refine LendL.cons ?_ ?_)) rfl rfl ?_)
    ·
     first | assumption | omega | (simp; done) | (simp; omega)
    exact ax_nil ⟨rfl, by repeat (first | exact trivial | refine ⟨rfl, ?_⟩ | refine ⟨?_, ?_⟩)⟩
   exact ax_nil ⟨rfl, by repeat (first | exact trivial | refine ⟨rfl, ?_⟩ | refine ⟨?_, ?_⟩)⟩
  refine ax_q (q_mov rfl) ?_
  refine ax_nil ?_
  refine cx_keep rfl rfl ?_
  refine cx_cond rfl (fun h1 => ?_) (fun h1 => ?_)
  ·
   have h1 := (fun h => And.intro (dT (and_T h).1) ((fun h => (or_T h).imp id id) (and_T h).2)) h1
   refine cx_seq ?_
   refine cx_ops ?_
   first | refine ax_call rfl (vc_pure0 (c_truth  ) hP rfl rfl ?_) | refine ax_call rfl (vc_lend0 (c_truth  ) hP (by repeat (first | exact lal_id _ rfl | exact LAL.nil | refine LAL.cons ?_ ?_ | exact la_id _ rfl | exact LA.lend (lend_whole rfl (by first | (simp; done) | (rw [List.length_map]; rfl))) | refine LA.agg ?_ | refine LA.fn ?_ | refine LA.lend ?_ | exact Lend.d _ | exact Lend.zs _ | exact lend_whole rfl (by first | (simp; done) | (rw [List.length_map]; rfl)) | refine Lend.ptr rfl ?_ | refine Lend.fn ?_ | exact LendL.nil | refine LendL.cons ?_ ?_)) rfl rfl ?_)
   refine ax_e (e_st rfl rfl rfl rfl rfl rfl rfl) ?_
   refine ax_q (q_mov rfl) ?_
   refine ax_nil ?_
   refine cx_keep rfl rfl ?_
   refine cx_ret (ret0 rfl rfl ?_)
   have e : conF op a b = (vI 0, 0) := by unfold conF; rw [if_neg (by omega), if_pos h1]
   exact ⟨by rw [e]; rfl, rfl⟩
  ·
   have h1 := (fun h => (and_F h).imp dF (fun h => And.intro (id (or_F h).1) (id (or_F h).2))) h1
   refine cx_seq ?_
   refine cx_ops ?_
   refine ax_q (q_mov rfl) ?_
   refine ax_q (q_ibin rfl rfl rfl) ?_
   refine ax_q (q_mov rfl) ?_
   apply ax_and rfl rfl
   ·
    intro g
    have g := dT g
    refine ax_q (q_ldN rfl rfl rfl) ?_
    first | refine ax_call rfl (vc_pure0 (c_isOther (v := a) ) hP rfl rfl ?_) | refine ax_call rfl (vc_lend0 (c_isOther (v := a) ) hP (by repeat (first | exact lal_id _ rfl | exact LAL.nil | refine LAL.cons ?_ ?_ | exact la_id _ rfl | exact LA.lend (lend_whole rfl (by first | (simp; done) | (rw [List.length_map]; rfl))) | refine LA.agg ?_ | refine LA.fn ?_ | refine LA.lend ?_ | exact Lend.d _ | exact Lend.zs _ | exact lend_whole rfl (by first | (simp; done) | (rw [List.length_map]; rfl)) | refine Lend.ptr rfl ?_ | refine Lend.fn ?_ | exact LendL.nil | refine LendL.cons ?_ ?_)) rfl rfl ?_)
    refine ax_q (q_mov rfl) ?_
    apply ax_or rfl rfl
    ·
     intro g
     refine ax_q (q_ldN rfl rfl rfl) ?_
     first | refine ax_call rfl (vc_pure0 (c_isOther (v := b) ) hP rfl rfl ?_) | refine ax_call rfl (vc_lend0 (c_isOther (v := b) ) hP (by repeat (first | exact lal_id _ rfl | exact LAL.nil | refine LAL.cons ?_ ?_ | exact la_id _ rfl | exact LA.lend (lend_whole rfl (by first | (simp; done) | (rw [List.length_map]; rfl))) | refine LA.agg ?_ | refine LA.fn ?_ | refine LA.lend ?_ | exact Lend.d _ | exact Lend.zs _ | exact lend_whole rfl (by first | (simp; done) | (rw [List.length_map]; rfl)) | refine Lend.ptr rfl ?_ | refine Lend.fn ?_ | exact LendL.nil | refine LendL.cons ?_ ?_)) rfl rfl ?_)
     exact ax_nil ⟨rfl, by repeat (first | exact trivial | refine ⟨rfl, ?_⟩ | refine ⟨?_, ?_⟩)⟩
    exact ax_nil ⟨rfl, by repeat (first | exact trivial | refine ⟨rfl, ?_⟩ | refine ⟨?_, ?_⟩)⟩
   refine ax_q (q_mov rfl) ?_
   refine ax_nil ?_
   refine cx_keep rfl rfl ?_
   refine cx_cond rfl (fun h2 => ?_) (fun h2 => ?_)
   ·
    have h2 := (fun h => And.intro (dT (and_T h).1) ((fun h => (or_T h).imp id id) (and_T h).2)) h2
    refine cx_seq ?_
    refine cx_ops ?_
    first | refine ax_call rfl (vc_pure0 (c_truth  ) hP rfl rfl ?_) | refine ax_call rfl (vc_lend0 (c_truth  ) hP (by repeat (first | exact lal_id _ rfl | exact LAL.nil | refine LAL.cons ?_ ?_ | exact la_id _ rfl | exact LA.lend (lend_whole rfl (by first | (simp; done) | (rw [List.length_map]; rfl))) | refine LA.agg ?_ | refine LA.fn ?_ | refine LA.lend ?_ | exact Lend.d _ | exact Lend.zs _ | exact lend_whole rfl (by first | (simp; done) | (rw [List.length_map]; rfl)) | refine Lend.ptr rfl ?_ | refine Lend.fn ?_ | exact LendL.nil | refine LendL.cons ?_ ?_)) rfl rfl ?_)
    refine ax_e (e_st rfl rfl rfl rfl rfl rfl rfl) ?_
    refine ax_q (q_mov rfl) ?_
    refine ax_nil ?_
    refine cx_keep rfl rfl ?_
    refine cx_ret (ret0 rfl rfl ?_)
    have e : conF op a b = (vI 1, 0) := by unfold conF; rw [if_neg (by omega), if_neg (nAOO h1), if_pos h2]
    exact ⟨by rw [e]; rfl, rfl⟩
   ·
    have h2 := (fun h => (and_F h).imp dF (fun h => And.intro (id (or_F h).1) (id (or_F h).2))) h2
    refine cx_seq ?_
    refine cx_ops ?_
    refine ax_q (q_fadr_ptr rfl) ?_
    refine ax_q (q_load1_ptr rfl rfl rfl) ?_
    refine ax_q (q_ibin rfl rfl rfl) ?_
    refine ax_q (q_mov rfl) ?_
    apply ax_or rfl rfl
    ·
     intro g
     have g := dF g
     refine ax_q (q_fadr_ptr rfl) ?_
     refine ax_q (q_load1_ptr rfl rfl rfl) ?_
     refine ax_q (q_ibin rfl rfl rfl) ?_
     exact ax_nil ⟨rfl, by repeat (first | exact trivial | refine ⟨rfl, ?_⟩ | refine ⟨?_, ?_⟩)⟩
    refine ax_q (q_mov rfl) ?_
    refine ax_nil ?_
    refine cx_keep rfl rfl ?_
    refine cx_cond rfl (fun h3 => ?_) (fun h3 => ?_)
    ·
     have h3 := (fun h => (or_T h).imp dT dT) h3
     refine cx_seq ?_
     refine cx_ops ?_
     refine ax_q (q_build rfl) ?_
     refine ax_e (e_st rfl rfl rfl rfl rfl rfl rfl) ?_
     refine ax_q (q_mov rfl) ?_
     refine ax_nil ?_
     refine cx_keep rfl rfl ?_
     refine cx_ret (ret0 rfl rfl ?_)
     have e : conF op a b = (.zero, 0) := by unfold conF; rw [if_neg (by omega), if_neg (nAOO h1), if_neg (nAOO h2), if_pos h3]
     exact ⟨by rw [e]; rfl, rfl⟩
    ·
     have h3 := (fun h => And.intro (dF (or_F h).1) (dF (or_F h).2)) h3
     refine cx_skip ?_
     refine cx_keep rfl rfl ?_
     refine cx_seq ?_
     refine cx_ops ?_
     refine ax_q (q_mov rfl) ?_
     refine ax_q (q_ibin rfl rfl rfl) ?_
     first | refine ax_call rfl (vc_pure0 (c_truth  ) hP rfl rfl ?_) | refine ax_call rfl (vc_lend0 (c_truth  ) hP (by repeat (first | exact lal_id _ rfl | exact LAL.nil | refine LAL.cons ?_ ?_ | exact la_id _ rfl | exact LA.lend (lend_whole rfl (by first | (simp; done) | (rw [List.length_map]; rfl))) | refine LA.agg ?_ | refine LA.fn ?_ | refine LA.lend ?_ | exact Lend.d _ | exact Lend.zs _ | exact lend_whole rfl (by first | (simp; done) | (rw [List.length_map]; rfl)) | refine Lend.ptr rfl ?_ | refine Lend.fn ?_ | exact LendL.nil | refine LendL.cons ?_ ?_)) rfl rfl ?_)
     refine ax_e (e_st rfl rfl rfl rfl rfl rfl rfl) ?_
     refine ax_q (q_mov rfl) ?_
     refine ax_nil ?_
     refine cx_keep rfl rfl ?_
     refine cx_ret (ret0 rfl rfl ?_)
     have e : conF op a b = (vB (decide (op = 12)), 0) := by unfold conF; rw [if_neg (by omega), if_neg (nAOO h1), if_neg (nAOO h2), if_neg (by omega)]
     exact ⟨by rw [e]; rfl, rfl⟩


/- cmp.Or[int] -/
def k_c_Or : XCode :=
 .seq (.ops [.op (some 2) (.mov (.k (.int .i64 0)))])
 (.keep [0] (.seq (.ops [.op (some 3) (.mov (.k (.int .i64 0)))])
 (.keep [0, 3] (.seq (.seq (.ops [.op (some 6) (.mov (.t 0)),
   .op (some 7) (.lenS (.t 6)),
   .op (some 8) (.mov (.k (.int .i64 0)))])
  (.keep [3, 6, 7, 8] (.block 0 (.loop (.seq (.ops [.op (some 9) (.bin .lss (.t 8) (.t 7))])
   (.keep [3, 6, 7, 8, 9] (.seq (.cond (.t 9)
    (.skip)
    (.exit 0))
   (.keep [3, 6, 7, 8] (.seq (.block 1 (.seq (.ops [.op (some 10) (.iadr 1 (.t 6) (.t 8)),
     .op (some 11) (.load1 (.t 10)),
     .op (some 5) (.mov (.t 11))])
    (.keep [3, 5, 6, 7, 8] (.seq (.ops [.op (some 12) (.mov (.t 5)),
     .op (some 13) (.mov (.t 3)),
     .op (some 14) (.bin .neq (.t 12) (.t 13))])
    (.keep [3, 5, 6, 7, 8, 14] (.cond (.t 14)
    (.seq (.ops [.op (some 15) (.mov (.t 5)),
      .op (some 2) (.mov (.t 15))])
     (.keep [2] (.ret)))
    (.skip)))))))
   (.keep [3, 6, 7, 8] (.ops [.op (some 16) (.bin .add (.t 8) (.k (.int .i64 1))),
    .op (some 8) (.mov (.t 16))])))))))))))
 (.keep [3] (.seq (.ops [.op (some 17) (.mov (.t 3)),
   .op (some 2) (.mov (.t 17))])
 (.keep [2] (.ret))))))))
theorem k_c_Or_fits : fitsF Try.prog 115 ⟨18, k_c_Or, [.t 2]⟩ = true := by kernel_rfl
theorem c_Or {xs : List Int} (hl : xs.length ≤ 1000) : Con Try.prog noMv 115 [.d (.sl 1 (xs.map intRow))] [] (fun r h => r = int (orF xs) ∧ h = []) := by
 refine con_of2 k_c_Or_fits rfl fun C hP hmv => ?_
 unfold k_c_Or
 refine cx_seq ?_
 refine cx_ops ?_
 refine ax_q (q_mov rfl) ?_
 refine ax_nil ?_
 refine cx_keep rfl rfl ?_
 refine cx_seq ?_
 refine cx_ops ?_
 refine ax_q (q_mov rfl) ?_
 refine ax_nil ?_
 refine cx_keep rfl rfl ?_
 refine cx_seq ?_
 refine cx_seq ?_
 refine cx_ops ?_
 refine ax_q (q_mov rfl) ?_
 first | refine ax_q (q_lenS_map rfl) ?_ | refine ax_q (q_lenS_osl rfl) ?_ | refine ax_q (q_lenS_zs rfl) ?_ | refine ax_q (q_lenS rfl) ?_
 refine ax_q (q_mov rfl) ?_
 refine ax_nil ?_
 refine cx_keep rfl rfl ?_
 refine cx_block ?_
 refine cx_loopU (fun n k => k ≤ xs.length ∧ n = xs.length - k ∧ ∀ j, j < k → ∀ x, xs[j]? = some x → x = 0) (fun k : Nat => [(8, int k)]) (fun _ => []) ⟨_, 0, ⟨Nat.zero_le _, rfl, fun j hj => by omega⟩, by repeat (first | exact trivial | refine ⟨rfl, ?_⟩ | refine ⟨?_, ?_⟩)⟩ ?_
 rintro n k ⟨hk, rfl, hb⟩
 refine cx_seq ?_
 refine cx_ops ?_
 refine ax_q (q_ibin rfl rfl rfl) ?_
 refine ax_nil ?_
 refine cx_keep rfl rfl ?_
 refine cx_seq ?_
 refine cx_cond rfl (fun h0 => ?_) (fun h0 => ?_)
 ·
  have h0 := dT h0
  have h0x : k < xs.length := by omega
  refine cx_skip ?_
  refine cx_keep rfl rfl ?_
  refine cx_seq ?_
  refine cx_block ?_
  refine cx_seq ?_
  refine cx_ops ?_
  first | refine ax_q (q_ix rfl rfl (by assumption)) ?_ | refine ax_q (q_ix rfl rfl (mapAt (by first | assumption | omega))) ?_ | refine ax_q (q_ixo rfl rfl (by first | assumption | omega)) ?_ | refine ax_q (q_ixI rfl rfl (by omega) (mapAt (by first | assumption | omega))) ?_ | refine ax_q (q_ixoI rfl rfl (by omega) (by omega)) ?_
  first | refine ax_q (q_load1_ptr rfl rfl rfl) ?_ | refine ax_q (q_load1_ip rfl) ?_ | refine ax_q (q_load1_rptr rfl rfl rfl rfl) ?_ | refine ax_q (q_load1_rptr rfl rfl (by assumption) rfl) ?_ | refine ax_q (q_load1_rptr rfl rfl (mapAt (by first | assumption | omega)) rfl) ?_
  refine ax_q (q_mov rfl) ?_
  refine ax_nil ?_
  refine cx_keep rfl rfl ?_
  refine cx_seq ?_
  refine cx_ops ?_
  refine ax_q (q_mov rfl) ?_
  refine ax_q (q_mov rfl) ?_
  refine ax_q (q_ibin rfl rfl rfl) ?_
  refine ax_nil ?_
  refine cx_keep rfl rfl ?_
  refine cx_cond rfl (fun h1 => ?_) (fun h1 => ?_)
  ·
   have h1 := nT h1
   refine cx_seq ?_
   refine cx_ops ?_
   refine ax_q (q_mov rfl) ?_
   refine ax_q (q_mov rfl) ?_
   refine ax_nil ?_
   refine cx_keep rfl rfl ?_
   refine cx_ret (ret0 rfl rfl ?_)
   exact ⟨by rw [orF_hit h0x hb h1]; rfl, rfl⟩
  ·
   have h1 := nF h1
   refine cx_skip ?_
   refine cx_keep rfl rfl ?_
   refine cx_ops ?_
   refine ax_qe (r' := int ((k + 1 : Nat) : Int)) (q_ibin rfl rfl rfl) (by rw [wi (by omega) (by omega)]; rfl) ?_
   refine ax_q (q_mov rfl) ?_
   refine ax_nil ?_
   exact ⟨_, k + 1, by omega, ⟨by omega, rfl, fun j hj x hx => by
    rcases Nat.lt_succ_iff_lt_or_eq.1 hj with h | rfl
    ·
     exact hb j h x hx
    ·
     rw [List.getElem?_eq_getElem h0x] at hx; cases hx; exact h1⟩, by repeat (first | exact trivial | refine ⟨rfl, ?_⟩ | refine ⟨?_, ?_⟩)⟩
 ·
  have h0 := dF h0
  have h0x : k = xs.length := by omega
  refine cx_exit rfl ?_
  refine cx_keep rfl rfl ?_
  refine cx_seq ?_
  refine cx_ops ?_
  refine ax_q (q_mov rfl) ?_
  refine ax_q (q_mov rfl) ?_
  refine ax_nil ?_
  refine cx_keep rfl rfl ?_
  refine cx_ret (ret0 rfl rfl ?_)
  exact ⟨by rw [orF_none (fun j hj => hb j (by omega))]; rfl, rfl⟩


/- cmp.isNaN[int] -/
def k_c_isNaN_int : XCode :=
 .seq (.ops [.op (some 2) (.mov (.k (.bool false)))])
 (.keep [0] (.seq (.ops [.op (some 3) (.mov (.t 0)),
   .op (some 4) (.mov (.t 0)),
   .op (some 5) (.bin .neq (.t 3) (.t 4)),
   .op (some 2) (.mov (.t 5))])
 (.keep [2] (.ret))))
theorem k_c_isNaN_int_fits : fitsF Try.prog 118 ⟨6, k_c_isNaN_int, [.t 2]⟩ = true := by kernel_rfl
theorem c_isNaN_int {x : Int} : Con Try.prog noMv 118 [int x] [] (fun r h => r = bool false ∧ h = []) := by
 refine con_of2 k_c_isNaN_int_fits rfl fun C hP hmv => ?_
 unfold k_c_isNaN_int
 refine cx_seq ?_
 refine cx_ops ?_
 refine ax_q (q_mov rfl) ?_
 refine ax_nil ?_
 refine cx_keep rfl rfl ?_
 refine cx_seq ?_
 refine cx_ops ?_
 refine ax_q (q_mov rfl) ?_
 refine ax_q (q_mov rfl) ?_
 refine ax_q (q_ibin rfl rfl rfl) ?_
 refine ax_q (q_mov rfl) ?_
 refine ax_nil ?_
 refine cx_keep rfl rfl ?_
 refine cx_ret (ret0 rfl rfl ?_)
 exact ⟨by simp; rfl, rfl⟩


/- cmp.Compare[int] -/
def k_c_Compare_int : XCode :=
 .seq (.ops [.op (some 4) (.mov (.k (.int .i64 0)))])
 (.keep [0, 1] (.seq (.ops [.op (some 7) (.mov (.t 0)),
   .call (some 8) 118 [.t 7],
   .op (some 5) (.mov (.t 8))])
 (.keep [0, 1, 5] (.seq (.ops [.op (some 9) (.mov (.t 1)),
   .call (some 10) 118 [.t 9],
   .op (some 6) (.mov (.t 10))])
 (.keep [0, 1, 5, 6] (.seq (.seq (.ops [.op (some 11) (.mov (.t 5))])
  (.keep [0, 1, 6, 11] (.cond (.t 11)
  (.seq (.seq (.ops [.op (some 12) (.mov (.t 6))])
   (.keep [12] (.cond (.t 12)
    (.seq (.ops [.op (some 4) (.mov (.k (.int .i64 0)))])
    (.keep [4] (.ret)))
    (.skip))))
   (.keep [] (.seq (.ops [.op (some 4) (.mov (.k (.int .i64 (-1))))])
   (.keep [4] (.ret)))))
  (.skip))))
 (.keep [0, 1, 6] (.seq (.seq (.ops [.op (some 13) (.mov (.t 6))])
  (.keep [0, 1, 13] (.cond (.t 13)
  (.seq (.ops [.op (some 4) (.mov (.k (.int .i64 1)))])
   (.keep [4] (.ret)))
  (.skip))))
 (.keep [0, 1] (.seq (.seq (.ops [.op (some 14) (.mov (.t 0)),
   .op (some 15) (.mov (.t 1)),
   .op (some 16) (.bin .lss (.t 14) (.t 15))])
  (.keep [0, 1, 16] (.cond (.t 16)
  (.seq (.ops [.op (some 4) (.mov (.k (.int .i64 (-1))))])
   (.keep [4] (.ret)))
  (.skip))))
 (.keep [0, 1] (.seq (.seq (.ops [.op (some 17) (.mov (.t 0)),
   .op (some 18) (.mov (.t 1)),
   .op (some 19) (.bin .gtr (.t 17) (.t 18))])
  (.keep [19] (.cond (.t 19)
  (.seq (.ops [.op (some 4) (.mov (.k (.int .i64 1)))])
   (.keep [4] (.ret)))
  (.skip))))
 (.keep [] (.seq (.ops [.op (some 4) (.mov (.k (.int .i64 0)))])
 (.keep [4] (.ret))))))))))))))))
theorem k_c_Compare_int_fits : fitsF Try.prog 116 ⟨20, k_c_Compare_int, [.t 4]⟩ = true := by kernel_rfl
theorem c_Compare_int {a b : Int} : Con Try.prog noMv 116 [int a, int b] [] (fun r h => r = int (cmpI a b) ∧ h = []) := by
 refine con_of2 k_c_Compare_int_fits rfl fun C hP hmv => ?_
 unfold k_c_Compare_int
 refine cx_seq ?_
 refine cx_ops ?_
 refine ax_q (q_mov rfl) ?_
 refine ax_nil ?_
 refine cx_keep rfl rfl ?_
 refine cx_seq ?_
 refine cx_ops ?_
 refine ax_q (q_mov rfl) ?_
 first | refine ax_call rfl (vc_pure0 (c_isNaN_int  ) hP rfl rfl ?_) | refine ax_call rfl (vc_lend0 (c_isNaN_int  ) hP (by repeat (first | exact lal_id _ rfl | exact LAL.nil | refine LAL.cons ?_ ?_ | exact la_id _ rfl | exact LA.lend (lend_whole rfl (by first | (simp; done) | (rw [List.length_map]; rfl))) | refine LA.agg ?_ | refine LA.fn ?_ | refine LA.lend ?_ | exact Lend.d _ | exact Lend.zs _ | exact lend_whole rfl (by first | (simp; done) | (rw [List.length_map]; rfl)) | refine Lend.ptr rfl ?_ | refine Lend.fn ?_ | exact LendL.nil | refine LendL.cons ?_ ?_)) rfl rfl ?_)
 refine ax_q (q_mov rfl) ?_
 refine ax_nil ?_
 refine cx_keep rfl rfl ?_
 refine cx_seq ?_
 refine cx_ops ?_
 refine ax_q (q_mov rfl) ?_
 first | refine ax_call rfl (vc_pure0 (c_isNaN_int  ) hP rfl rfl ?_) | refine ax_call rfl (vc_lend0 (c_isNaN_int  ) hP (by repeat (first | exact lal_id _ rfl | exact LAL.nil | refine LAL.cons ?_ ?_ | exact la_id _ rfl | exact LA.lend (lend_whole rfl (by first | (simp; done) | (rw [List.length_map]; rfl))) | refine LA.agg ?_ | refine LA.fn ?_ | refine LA.lend ?_ | exact Lend.d _ | exact Lend.zs _ | exact lend_whole rfl (by first | (simp; done) | (rw [List.length_map]; rfl)) | refine Lend.ptr rfl ?_ | refine Lend.fn ?_ | exact LendL.nil | refine LendL.cons ?_ ?_)) rfl rfl ?_)
 refine ax_q (q_mov rfl) ?_
 refine ax_nil ?_
 refine cx_keep rfl rfl ?_
 refine cx_seq ?_
 refine cx_seq ?_
 refine cx_ops ?_
 refine ax_q (q_mov rfl) ?_
 refine ax_nil ?_
 refine cx_keep rfl rfl ?_
 refine cx_cond rfl (fun h0 => ?_) (fun h0 => ?_)
 ·
  skip
  exact absurd h0 Bool.false_ne_true
 ·
  skip
  refine cx_skip ?_
  refine cx_keep rfl rfl ?_
  refine cx_seq ?_
  refine cx_seq ?_
  refine cx_ops ?_
  refine ax_q (q_mov rfl) ?_
  refine ax_nil ?_
  refine cx_keep rfl rfl ?_
  refine cx_cond rfl (fun h2 => ?_) (fun h2 => ?_)
  ·
   skip
   exact absurd h2 Bool.false_ne_true
  ·
   skip
   refine cx_skip ?_
   refine cx_keep rfl rfl ?_
   refine cx_seq ?_
   refine cx_seq ?_
   refine cx_ops ?_
   refine ax_q (q_mov rfl) ?_
   refine ax_q (q_mov rfl) ?_
   refine ax_q (q_ibin rfl rfl rfl) ?_
   refine ax_nil ?_
   refine cx_keep rfl rfl ?_
   refine cx_cond rfl (fun h3 => ?_) (fun h3 => ?_)
   ·
    have h3 := dT h3
    refine cx_seq ?_
    refine cx_ops ?_
    refine ax_q (q_mov rfl) ?_
    refine ax_nil ?_
    refine cx_keep rfl rfl ?_
    refine cx_ret (ret0 rfl rfl ?_)
    exact ⟨by rw [show cmpI a b = -1 from by unfold cmpI; rw [if_neg (by omega), if_pos h3]]; rfl, rfl⟩
   ·
    have h3 := dF h3
    refine cx_skip ?_
    refine cx_keep rfl rfl ?_
    refine cx_seq ?_
    refine cx_seq ?_
    refine cx_ops ?_
    refine ax_q (q_mov rfl) ?_
    refine ax_q (q_mov rfl) ?_
    refine ax_q (q_ibin rfl rfl rfl) ?_
    refine ax_nil ?_
    refine cx_keep rfl rfl ?_
    refine cx_cond rfl (fun h4 => ?_) (fun h4 => ?_)
    ·
     have h4 := dT h4
     refine cx_seq ?_
     refine cx_ops ?_
     refine ax_q (q_mov rfl) ?_
     refine ax_nil ?_
     refine cx_keep rfl rfl ?_
     refine cx_ret (ret0 rfl rfl ?_)
     exact ⟨by rw [show cmpI a b = 1 from by unfold cmpI; rw [if_neg (by omega), if_neg h3]]; rfl, rfl⟩
    ·
     have h4 := dF h4
     refine cx_skip ?_
     refine cx_keep rfl rfl ?_
     refine cx_seq ?_
     refine cx_ops ?_
     refine ax_q (q_mov rfl) ?_
     refine ax_nil ?_
     refine cx_keep rfl rfl ?_
     refine cx_ret (ret0 rfl rfl ?_)
     exact ⟨by rw [show cmpI a b = 0 from by unfold cmpI; rw [if_pos (by omega)]]; rfl, rfl⟩


/- cmp.isNaN[string] -/
def k_c_isNaN_string : XCode :=
 .seq (.ops [.op (some 2) (.mov (.k (.bool false)))])
 (.keep [0] (.seq (.ops [.op (some 3) (.mov (.t 0)),
   .op (some 4) (.mov (.t 0)),
   .op (some 5) (.bin .neq (.t 3) (.t 4)),
   .op (some 2) (.mov (.t 5))])
 (.keep [2] (.ret))))
theorem k_c_isNaN_string_fits : fitsF Try.prog 119 ⟨6, k_c_isNaN_string, [.t 2]⟩ = true := by kernel_rfl
theorem c_isNaN_string {x : Str} : Con Try.prog noMv 119 [str x] [] (fun r h => r = bool false ∧ h = []) := by
 refine con_of2 k_c_isNaN_string_fits rfl fun C hP hmv => ?_
 unfold k_c_isNaN_string
 refine cx_seq ?_
 refine cx_ops ?_
 refine ax_q (q_mov rfl) ?_
 refine ax_nil ?_
 refine cx_keep rfl rfl ?_
 refine cx_seq ?_
 refine cx_ops ?_
 refine ax_q (q_mov rfl) ?_
 refine ax_q (q_mov rfl) ?_
 refine ax_q (q_sbin rfl rfl rfl) ?_
 refine ax_q (q_mov rfl) ?_
 refine ax_nil ?_
 refine cx_keep rfl rfl ?_
 refine cx_ret (ret0 rfl rfl ?_)
 exact ⟨by simp; rfl, rfl⟩


/- cmp.Compare[string] -/
def k_c_Compare_string : XCode :=
 .seq (.ops [.op (some 4) (.mov (.k (.int .i64 0)))])
 (.keep [0, 1] (.seq (.ops [.op (some 7) (.mov (.t 0)),
   .call (some 8) 119 [.t 7],
   .op (some 5) (.mov (.t 8))])
 (.keep [0, 1, 5] (.seq (.ops [.op (some 9) (.mov (.t 1)),
   .call (some 10) 119 [.t 9],
   .op (some 6) (.mov (.t 10))])
 (.keep [0, 1, 5, 6] (.seq (.seq (.ops [.op (some 11) (.mov (.t 5))])
  (.keep [0, 1, 6, 11] (.cond (.t 11)
  (.seq (.seq (.ops [.op (some 12) (.mov (.t 6))])
   (.keep [12] (.cond (.t 12)
    (.seq (.ops [.op (some 4) (.mov (.k (.int .i64 0)))])
    (.keep [4] (.ret)))
    (.skip))))
   (.keep [] (.seq (.ops [.op (some 4) (.mov (.k (.int .i64 (-1))))])
   (.keep [4] (.ret)))))
  (.skip))))
 (.keep [0, 1, 6] (.seq (.seq (.ops [.op (some 13) (.mov (.t 6))])
  (.keep [0, 1, 13] (.cond (.t 13)
  (.seq (.ops [.op (some 4) (.mov (.k (.int .i64 1)))])
   (.keep [4] (.ret)))
  (.skip))))
 (.keep [0, 1] (.seq (.seq (.ops [.op (some 14) (.mov (.t 0)),
   .op (some 15) (.mov (.t 1)),
   .op (some 16) (.bin .lss (.t 14) (.t 15))])
  (.keep [0, 1, 16] (.cond (.t 16)
  (.seq (.ops [.op (some 4) (.mov (.k (.int .i64 (-1))))])
   (.keep [4] (.ret)))
  (.skip))))
 (.keep [0, 1] (.seq (.seq (.ops [.op (some 17) (.mov (.t 0)),
   .op (some 18) (.mov (.t 1)),
   .op (some 19) (.bin .gtr (.t 17) (.t 18))])
  (.keep [19] (.cond (.t 19)
  (.seq (.ops [.op (some 4) (.mov (.k (.int .i64 1)))])
   (.keep [4] (.ret)))
  (.skip))))
 (.keep [] (.seq (.ops [.op (some 4) (.mov (.k (.int .i64 0)))])
 (.keep [4] (.ret))))))))))))))))
theorem k_c_Compare_string_fits : fitsF Try.prog 117 ⟨20, k_c_Compare_string, [.t 4]⟩ = true := by kernel_rfl
theorem c_Compare_string {a b : Str} : Con Try.prog noMv 117 [str a, str b] [] (fun r h => r = int (cmpS a b) ∧ h = []) := by
 refine con_of2 k_c_Compare_string_fits rfl fun C hP hmv => ?_
 unfold k_c_Compare_string
 refine cx_seq ?_
 refine cx_ops ?_
 refine ax_q (q_mov rfl) ?_
 refine ax_nil ?_
 refine cx_keep rfl rfl ?_
 refine cx_seq ?_
 refine cx_ops ?_
 refine ax_q (q_mov rfl) ?_
 first | refine ax_call rfl (vc_pure0 (c_isNaN_string  ) hP rfl rfl ?_) | refine ax_call rfl (vc_lend0 (c_isNaN_string  ) hP (by repeat (first | exact lal_id _ rfl | exact LAL.nil | refine LAL.cons ?_ ?_ | exact la_id _ rfl | exact LA.lend (lend_whole rfl (by first | (simp; done) | (rw [List.length_map]; rfl))) | refine LA.agg ?_ | refine LA.fn ?_ | refine LA.lend ?_ | exact Lend.d _ | exact Lend.zs _ | exact lend_whole rfl (by first | (simp; done) | (rw [List.length_map]; rfl)) | refine Lend.ptr rfl ?_ | refine Lend.fn ?_ | exact LendL.nil | refine LendL.cons ?_ ?_)) rfl rfl ?_)
 refine ax_q (q_mov rfl) ?_
 refine ax_nil ?_
 refine cx_keep rfl rfl ?_
 refine cx_seq ?_
 refine cx_ops ?_
 refine ax_q (q_mov rfl) ?_
 first | refine ax_call rfl (vc_pure0 (c_isNaN_string  ) hP rfl rfl ?_) | refine ax_call rfl (vc_lend0 (c_isNaN_string  ) hP (by repeat (first | exact lal_id _ rfl | exact LAL.nil | refine LAL.cons ?_ ?_ | exact la_id _ rfl | exact LA.lend (lend_whole rfl (by first | (simp; done) | (rw [List.length_map]; rfl))) | refine LA.agg ?_ | refine LA.fn ?_ | refine LA.lend ?_ | exact Lend.d _ | exact Lend.zs _ | exact lend_whole rfl (by first | (simp; done) | (rw [List.length_map]; rfl)) | refine Lend.ptr rfl ?_ | refine Lend.fn ?_ | exact LendL.nil | refine LendL.cons ?_ ?_)) rfl rfl ?_)
 refine ax_q (q_mov rfl) ?_
 refine ax_nil ?_
 refine cx_keep rfl rfl ?_
 refine cx_seq ?_
 refine cx_seq ?_
 refine cx_ops ?_
 refine ax_q (q_mov rfl) ?_
 refine ax_nil ?_
 refine cx_keep rfl rfl ?_
 refine cx_cond rfl (fun h0 => ?_) (fun h0 => ?_)
 ·
  skip
  exact absurd h0 Bool.false_ne_true
 ·
  skip
  refine cx_skip ?_
  refine cx_keep rfl rfl ?_
  refine cx_seq ?_
  refine cx_seq ?_
  refine cx_ops ?_
  refine ax_q (q_mov rfl) ?_
  refine ax_nil ?_
  refine cx_keep rfl rfl ?_
  refine cx_cond rfl (fun h2 => ?_) (fun h2 => ?_)
  ·
   skip
   exact absurd h2 Bool.false_ne_true
  ·
   skip
   refine cx_skip ?_
   refine cx_keep rfl rfl ?_
   refine cx_seq ?_
   refine cx_seq ?_
   refine cx_ops ?_
   refine ax_q (q_mov rfl) ?_
   refine ax_q (q_mov rfl) ?_
   refine ax_q (q_sbin rfl rfl rfl) ?_
   refine ax_nil ?_
   refine cx_keep rfl rfl ?_
   refine cx_cond rfl (fun h3 => ?_) (fun h3 => ?_)
   ·
    skip
    refine cx_seq ?_
    refine cx_ops ?_
    refine ax_q (q_mov rfl) ?_
    refine ax_nil ?_
    refine cx_keep rfl rfl ?_
    refine cx_ret (ret0 rfl rfl ?_)
    exact ⟨by rw [cmpS_lt h3]; rfl, rfl⟩
   ·
    skip
    refine cx_skip ?_
    refine cx_keep rfl rfl ?_
    refine cx_seq ?_
    refine cx_seq ?_
    refine cx_ops ?_
    refine ax_q (q_mov rfl) ?_
    refine ax_q (q_mov rfl) ?_
    refine ax_q (q_sbin rfl rfl rfl) ?_
    refine ax_nil ?_
    refine cx_keep rfl rfl ?_
    refine cx_cond rfl (fun h4 => ?_) (fun h4 => ?_)
    ·
     skip
     refine cx_seq ?_
     refine cx_ops ?_
     refine ax_q (q_mov rfl) ?_
     refine ax_nil ?_
     refine cx_keep rfl rfl ?_
     refine cx_ret (ret0 rfl rfl ?_)
     exact ⟨by rw [cmpS_gt h4]; rfl, rfl⟩
    ·
     skip
     refine cx_skip ?_
     refine cx_keep rfl rfl ?_
     refine cx_seq ?_
     refine cx_ops ?_
     refine ax_q (q_mov rfl) ?_
     refine ax_nil ?_
     refine cx_keep rfl rfl ?_
     refine cx_ret (ret0 rfl rfl ?_)
     exact ⟨by rw [cmpS_eq h3 h4]; rfl, rfl⟩


/- loop.example/g00332/impl.compareValues -/
def k_c_compareValues : XCode :=
 .seq (.ops [.op (some 2) (.box (.t 0)),
   .op (some 3) (.box (.t 1)),
   .op (some 4) (.mov (.k (.int .i64 0)))])
 (.keep [2, 3] (.seq (.drawE [[], [0], [], [2], [0, 1, 2, 3], [], [5], [], [7], [0, 1, 2, 3, 4, 5, 6, 7, 8], [], [10], [], [12], [0, 1, 2, 3, 4, 5, 6, 7, 8, 9, 10, 11, 12, 13], [0, 1, 2, 3, 4, 5, 6, 7, 8, 9, 10, 11, 12, 13, 14], [0, 1, 2, 3, 4, 5, 6, 7, 8, 9, 10, 11, 12, 13, 14, 15], [0, 1, 2, 3, 4, 5, 6, 7, 8, 9, 10, 11, 12, 13, 14, 15, 16]] [.op (some 5) (.fadr (.t 2) 0),
   .op (some 6) (.load1 (.t 5)),
   .op (some 7) (.fadr (.t 3) 0),
   .op (some 8) (.load1 (.t 7)),
   .call (some 9) 116 [.t 6, .t 8],
   .op (some 10) (.fadr (.t 2) 1),
   .op (some 11) (.load1 (.t 10)),
   .op (some 12) (.fadr (.t 3) 1),
   .op (some 13) (.load1 (.t 12)),
   .call (some 14) 116 [.t 11, .t 13],
   .op (some 15) (.fadr (.t 2) 2),
   .op (some 16) (.load1 (.t 15)),
   .op (some 17) (.fadr (.t 3) 2),
   .op (some 18) (.load1 (.t 17))]
  [.call (some 19) 117 [.t 16, .t 18],
   .op (some 20) (.bslice 1 [.t 9, .t 14, .t 19]),
   .call (some 21) 115 [.t 20],
   .op (some 4) (.mov (.t 21))])
 (.keep [4] (.ret))))
theorem k_c_compareValues_fits : fitsF Try.prog 108 ⟨22, k_c_compareValues, [.t 4]⟩ = true := by kernel_rfl
set_option maxHeartbeats 2000000 in
theorem c_compareValues {a b : GValue} : Con Try.prog noMv 108 [a.av, b.av] [] (fun r h => r = int (cmpV a b) ∧ h = []) := by
 refine con_of2 k_c_compareValues_fits rfl fun C hP hmv => ?_
 unfold k_c_compareValues
 refine cx_seq ?_
 refine cx_ops ?_
 refine ax_e (e_box rfl rfl (by decide) rfl rfl rfl) ?_
 refine ax_e (e_box rfl rfl (by decide) rfl rfl rfl) ?_
 refine ax_q (q_mov rfl) ?_
 refine ax_nil ?_
 refine cx_keep rfl rfl ?_
 refine cx_seq ?_
 refine cx_drawL 0 5 (fun _ => false) (fun _ => true) [] ([]) [[2], [5], [3], [7], [6, 8], [2], [10], [3], [12], [11, 13], [2], [15], [3], [17]] [[], [], [], [], [], [], [], [], [], [], [], [], [], []] rfl ?_
 first | refine ⟨⟨5, _, []⟩, .inl ⟨rfl, rfl, rfl, locl_of (loc_q (q_fadr_ptr rfl))⟩, ?_⟩
 first | refine ⟨_, .inr ⟨rfl, _, rfl, .inr ⟨rfl, rfl, .inl rfl, rfl, rfl⟩, loc_q (q_load1_ptr rfl rfl rfl)⟩, ?_⟩
 first | refine ⟨_, .inr ⟨rfl, _, rfl, .inr ⟨rfl, rfl, .inr rfl, rfl, rfl⟩, loc_q (q_fadr_ptr rfl)⟩, ?_⟩
 first | refine ⟨_, .inr ⟨rfl, _, rfl, .inr ⟨rfl, rfl, .inr rfl, rfl, rfl⟩, loc_q (q_load1_ptr rfl rfl rfl)⟩, ?_⟩
 first | refine ⟨_, .inr ⟨rfl, _, rfl, .inr ⟨rfl, rfl, .inl rfl, rfl, rfl⟩, loc_call (fun i => 9 + 200 * i) false rfl (c_Compare_int  ) hP (.inr ⟨rfl, rfl, rfl⟩) rfl rfl (fun h => by cases h)⟩, ?_⟩ | refine ⟨_, .inr ⟨rfl, _, rfl, .inr ⟨rfl, rfl, .inl rfl, rfl, rfl⟩, loc_call (fun i => 9 + 200 * i) true rfl (c_Compare_int  ) hP (.inl ⟨rfl, (by repeat (first | exact lal_id _ rfl | exact LAL.nil | refine LAL.cons ?_ ?_ | exact la_id _ rfl | exact LA.lend (lend_whole rfl (by first | (simp; done) | (rw [List.length_map]; rfl))) | refine LA.agg ?_ | refine LA.fn ?_ | refine LA.lend ?_ | exact Lend.d _ | exact Lend.zs _ | exact lend_whole rfl (by first | (simp; done) | (rw [List.length_map]; rfl)) | refine Lend.ptr rfl ?_ | refine Lend.fn ?_ | exact LendL.nil | refine LendL.cons ?_ ?_))⟩) rfl rfl (fun _ => ⟨rfl, noisl_of (by repeat (first | exact trivial | refine ⟨noisl_map (fun _ => rfl), ?_⟩ | refine ⟨?_, ?_⟩))⟩)⟩, ?_⟩
 first | refine ⟨_, .inr ⟨rfl, _, rfl, .inr ⟨rfl, rfl, .inr rfl, rfl, rfl⟩, loc_q (q_fadr_ptr rfl)⟩, ?_⟩
 first | refine ⟨_, .inr ⟨rfl, _, rfl, .inr ⟨rfl, rfl, .inr rfl, rfl, rfl⟩, loc_q (q_load1_ptr rfl rfl rfl)⟩, ?_⟩
 first | refine ⟨_, .inr ⟨rfl, _, rfl, .inr ⟨rfl, rfl, .inr rfl, rfl, rfl⟩, loc_q (q_fadr_ptr rfl)⟩, ?_⟩
 first | refine ⟨_, .inr ⟨rfl, _, rfl, .inr ⟨rfl, rfl, .inr rfl, rfl, rfl⟩, loc_q (q_load1_ptr rfl rfl rfl)⟩, ?_⟩
 first | refine ⟨_, .inr ⟨rfl, _, rfl, .inr ⟨rfl, rfl, .inl rfl, rfl, rfl⟩, loc_call (fun i => 14 + 200 * i) false rfl (c_Compare_int  ) hP (.inr ⟨rfl, rfl, rfl⟩) rfl rfl (fun h => by cases h)⟩, ?_⟩ | refine ⟨_, .inr ⟨rfl, _, rfl, .inr ⟨rfl, rfl, .inl rfl, rfl, rfl⟩, loc_call (fun i => 14 + 200 * i) true rfl (c_Compare_int  ) hP (.inl ⟨rfl, (by repeat (first | exact lal_id _ rfl | exact LAL.nil | refine LAL.cons ?_ ?_ | exact la_id _ rfl | exact LA.lend (lend_whole rfl (by first | (simp; done) | (rw [List.length_map]; rfl))) | refine LA.agg ?_ | refine LA.fn ?_ | refine LA.lend ?_ | exact Lend.d _ | exact Lend.zs _ | exact lend_whole rfl (by first | (simp; done) | (rw [List.length_map]; rfl)) | refine Lend.ptr rfl ?_ | refine Lend.fn ?_ | exact LendL.nil | refine LendL.cons ?_ ?_))⟩) rfl rfl (fun _ => ⟨rfl, noisl_of (by repeat (first | exact trivial | refine ⟨noisl_map (fun _ => rfl), ?_⟩ | refine ⟨?_, ?_⟩))⟩)⟩, ?_⟩
 first | refine ⟨_, .inr ⟨rfl, _, rfl, .inr ⟨rfl, rfl, .inr rfl, rfl, rfl⟩, loc_q (q_fadr_ptr rfl)⟩, ?_⟩
 first | refine ⟨_, .inr ⟨rfl, _, rfl, .inr ⟨rfl, rfl, .inr rfl, rfl, rfl⟩, loc_q (q_load1_ptr rfl rfl rfl)⟩, ?_⟩
 first | refine ⟨_, .inr ⟨rfl, _, rfl, .inr ⟨rfl, rfl, .inr rfl, rfl, rfl⟩, loc_q (q_fadr_ptr rfl)⟩, ?_⟩
 first | refine ⟨_, .inr ⟨rfl, _, rfl, .inr ⟨rfl, rfl, .inr rfl, rfl, rfl⟩, loc_q (q_load1_ptr rfl rfl rfl)⟩, ?_⟩
 refine ⟨rfl, ?_⟩
 first | refine ax_call rfl (vc_pure0 (c_Compare_string  ) hP rfl rfl ?_) | refine ax_call rfl (vc_lend0 (c_Compare_string  ) hP (by repeat (first | exact lal_id _ rfl | exact LAL.nil | refine LAL.cons ?_ ?_ | exact la_id _ rfl | exact LA.lend (lend_whole rfl (by first | (simp; done) | (rw [List.length_map]; rfl))) | refine LA.agg ?_ | refine LA.fn ?_ | refine LA.lend ?_ | exact Lend.d _ | exact Lend.zs _ | exact lend_whole rfl (by first | (simp; done) | (rw [List.length_map]; rfl)) | refine Lend.ptr rfl ?_ | refine Lend.fn ?_ | exact LendL.nil | refine LendL.cons ?_ ?_)) rfl rfl ?_)
 refine ax_e (e_bslice rfl (by decide) rfl rfl) ?_
 first | refine ax_call rfl (vc_pure0 (c_Or (xs := [cmpI a.Kind b.Kind, cmpI a.N b.N, cmpS a.T b.T]) ?_) hP rfl rfl ?_) | refine ax_call rfl (vc_lend0 (c_Or (xs := [cmpI a.Kind b.Kind, cmpI a.N b.N, cmpS a.T b.T]) ?_) hP (by repeat (first | exact lal_id _ rfl | exact LAL.nil | refine LAL.cons ?_ ?_ | exact la_id _ rfl | exact LA.lend (lend_whole rfl (by first | (simp; done) | (rw [List.length_map]; rfl))) | refine LA.agg ?_ | refine LA.fn ?_ | refine LA.lend ?_ | exact Lend.d _ | exact Lend.zs _ | exact lend_whole rfl (by first | (simp; done) | (rw [List.length_map]; rfl)) | refine Lend.ptr rfl ?_ | refine Lend.fn ?_ | exact LendL.nil | refine LendL.cons ?_ ?_)) rfl rfl ?_)
 ·
  first | assumption | omega | (simp; done) | (simp; omega)
 refine ax_q (q_mov rfl) ?_
 refine ax_nil ?_
 refine cx_keep rfl rfl ?_
 refine cx_ret (ret0 rfl rfl ?_)
 exact ⟨by rw [cmpV_or]; rfl, rfl⟩


/- loop.example/g00332/impl.arith -/
def k_c_arith : XCode :=
 .seq (.ops [.op (some 6) (.alloc [.int .i64 0, .int .i64 0, .str []]),
   .op (some 7) (.mov (.k (.int .i64 0)))])
 (.keep [0, 1, 2, 6] (.seq (.ops [.op (some 8) (.mov (.k (.int .i64 0)))])
 (.keep [0, 1, 2, 6] (.seq (.seq (.ops [.op (some 9) (.mov (.t 0))])
  (.keep [1, 2, 6, 9] (.block 0 (.seq (.ops [.op (some 17) (.bin .eql (.t 9) (.k (.int .i64 6))),
    .op (some 16) (.mov (.t 17))])
  (.keep [1, 2, 6, 9, 16] (.cond (.t 16)
   (.ops [.op (some 18) (.mov (.t 1)),
    .op (some 19) (.mov (.t 2)),
    .op (some 20) (.bin .add (.t 18) (.t 19)),
    .op (some 8) (.mov (.t 20))])
   (.seq (.ops [.op (some 22) (.bin .eql (.t 9) (.k (.int .i64 7))),
     .op (some 21) (.mov (.t 22))])
   (.keep [1, 2, 6, 9, 21] (.cond (.t 21)
    (.ops [.op (some 23) (.mov (.t 1)),
     .op (some 24) (.mov (.t 2)),
     .op (some 25) (.bin .sub (.t 23) (.t 24)),
     .op (some 8) (.mov (.t 25))])
    (.seq (.ops [.op (some 27) (.bin .eql (.t 9) (.k (.int .i64 8))),
      .op (some 26) (.mov (.t 27))])
    (.keep [1, 2, 6, 26] (.cond (.t 26)
     (.ops [.op (some 28) (.mov (.t 1)),
      .op (some 29) (.mov (.t 2)),
      .op (some 30) (.bin .mul (.t 28) (.t 29)),
      .op (some 8) (.mov (.t 30))])
     (.seq (.seq (.ops [.op (some 10) (.mov (.t 2)),
       .op (some 11) (.bin .eql (.t 10) (.k (.int .i64 0)))])
      (.keep [1, 2, 6, 11] (.cond (.t 11)
      (.seq (.ops [.op (some 12) (.build [.int .i64 0, .int .i64 0, .str []] []),
        .op none (.store 3 (.t 6) (.t 12)),
        .op (some 7) (.mov (.k (.int .i64 11)))])
       (.keep [6, 7] (.ret)))
      (.skip))))
     (.keep [1, 2, 6] (.ops [.op (some 13) (.mov (.t 1)),
      .op (some 14) (.mov (.t 2)),
      .op (some 15) (.bin .quo (.t 13) (.t 14)),
      .op (some 8) (.mov (.t 15))])))))))))))))))
 (.keep [6, 8] (.seq (.seq (.ops [.op (some 31) (.mov (.t 8)),
   .call (some 32) 102 [.t 31],
   .op (some 33) (.not (.t 32))])
  (.keep [6, 8, 33] (.cond (.t 33)
  (.seq (.ops [.op (some 34) (.build [.int .i64 0, .int .i64 0, .str []] []),
    .op none (.store 3 (.t 6) (.t 34)),
    .op (some 7) (.mov (.k (.int .i64 12)))])
   (.keep [6, 7] (.ret)))
  (.skip))))
 (.keep [6, 8] (.seq (.ops [.op (some 35) (.mov (.t 8)),
   .call (some 36) 106 [.t 35],
   .op none (.store 3 (.t 6) (.t 36)),
   .op (some 7) (.mov (.k (.int .i64 0)))])
 (.keep [6, 7] (.ret))))))))))
theorem k_c_arith_fits : fitsF Try.prog 109 ⟨37, k_c_arith, [.cN 6 3, .t 7]⟩ = true := by kernel_rfl
theorem c_arith {op a b : Int} (hn : -1000000000 ≤ a ∧ a ≤ 1000000000) (hm : -1000000000 ≤ b ∧ b ≤ 1000000000) : Con Try.prog noMv 109 [int op, int a, int b] [] (fun r h => r = .tup [(ariF op a b).1.av, int (ariF op a b).2] ∧ h = []) := by
 refine con_of2 k_c_arith_fits rfl fun C hP hmv => ?_
 unfold k_c_arith
 have hmul := mulB hn hm
 refine cx_seq ?_
 refine cx_ops ?_
 refine ax_e (e_alloc (by decide) rfl rfl) ?_
 refine ax_q (q_mov rfl) ?_
 refine ax_nil ?_
 refine cx_keep rfl rfl ?_
 refine cx_seq ?_
 refine cx_ops ?_
 refine ax_q (q_mov rfl) ?_
 refine ax_nil ?_
 refine cx_keep rfl rfl ?_
 refine cx_seq ?_
 refine cx_seq ?_
 refine cx_ops ?_
 refine ax_q (q_mov rfl) ?_
 refine ax_nil ?_
 refine cx_keep rfl rfl ?_
 refine cx_block ?_
 refine cx_seq ?_
 refine cx_ops ?_
 refine ax_q (q_ibin rfl rfl rfl) ?_
 refine ax_q (q_mov rfl) ?_
 refine ax_nil ?_
 refine cx_keep rfl rfl ?_
 refine cx_cond rfl (fun h0 => ?_) (fun h0 => ?_)
 ·
  have h0 := dT h0
  refine cx_ops ?_
  refine ax_q (q_mov rfl) ?_
  refine ax_q (q_mov rfl) ?_
  refine ax_q (q_add rfl rfl (by omega)) ?_
  refine ax_q (q_mov rfl) ?_
  refine ax_nil ?_
  refine cx_keep rfl rfl ?_
  refine cx_seq ?_
  refine cx_seq ?_
  refine cx_ops ?_
  refine ax_q (q_mov rfl) ?_
  first | refine ax_call rfl (vc_pure0 (c_isNumber  ) hP rfl rfl ?_) | refine ax_call rfl (vc_lend0 (c_isNumber  ) hP (by repeat (first | exact lal_id _ rfl | exact LAL.nil | refine LAL.cons ?_ ?_ | exact la_id _ rfl | exact LA.lend (lend_whole rfl (by first | (simp; done) | (rw [List.length_map]; rfl))) | refine LA.agg ?_ | refine LA.fn ?_ | refine LA.lend ?_ | exact Lend.d _ | exact Lend.zs _ | exact lend_whole rfl (by first | (simp; done) | (rw [List.length_map]; rfl)) | refine Lend.ptr rfl ?_ | refine Lend.fn ?_ | exact LendL.nil | refine LendL.cons ?_ ?_)) rfl rfl ?_)
  refine ax_q (q_not rfl) ?_
  refine ax_nil ?_
  refine cx_keep rfl rfl ?_
  refine cx_cond rfl (fun h4 => ?_) (fun h4 => ?_)
  ·
   have h4 := bT h4
   refine cx_seq ?_
   refine cx_ops ?_
   refine ax_q (q_build rfl) ?_
   refine ax_e (e_st rfl rfl rfl rfl rfl rfl rfl) ?_
   refine ax_q (q_mov rfl) ?_
   refine ax_nil ?_
   refine cx_keep rfl rfl ?_
   refine cx_ret (ret0 rfl rfl ?_)
   exact ⟨by rw [ari_6 h0, bnd_no h4]; rfl, rfl⟩
  ·
   have h4 := bF h4
   refine cx_skip ?_
   refine cx_keep rfl rfl ?_
   refine cx_seq ?_
   refine cx_ops ?_
   refine ax_q (q_mov rfl) ?_
   first | refine ax_call rfl (vc_pure0 (c_numberValue  ) hP rfl rfl ?_) | refine ax_call rfl (vc_lend0 (c_numberValue  ) hP (by repeat (first | exact lal_id _ rfl | exact LAL.nil | refine LAL.cons ?_ ?_ | exact la_id _ rfl | exact LA.lend (lend_whole rfl (by first | (simp; done) | (rw [List.length_map]; rfl))) | refine LA.agg ?_ | refine LA.fn ?_ | refine LA.lend ?_ | exact Lend.d _ | exact Lend.zs _ | exact lend_whole rfl (by first | (simp; done) | (rw [List.length_map]; rfl)) | refine Lend.ptr rfl ?_ | refine Lend.fn ?_ | exact LendL.nil | refine LendL.cons ?_ ?_)) rfl rfl ?_)
   refine ax_e (e_st rfl rfl rfl rfl rfl rfl rfl) ?_
   refine ax_q (q_mov rfl) ?_
   refine ax_nil ?_
   refine cx_keep rfl rfl ?_
   refine cx_ret (ret0 rfl rfl ?_)
   exact ⟨by rw [ari_6 h0, bnd_yes h4]; rfl, rfl⟩
 ·
  have h0 := dF h0
  refine cx_seq ?_
  refine cx_ops ?_
  refine ax_q (q_ibin rfl rfl rfl) ?_
  refine ax_q (q_mov rfl) ?_
  refine ax_nil ?_
  refine cx_keep rfl rfl ?_
  refine cx_cond rfl (fun h1 => ?_) (fun h1 => ?_)
  ·
   have h1 := dT h1
   refine cx_ops ?_
   refine ax_q (q_mov rfl) ?_
   refine ax_q (q_mov rfl) ?_
   refine ax_q (q_sub rfl rfl (by omega)) ?_
   refine ax_q (q_mov rfl) ?_
   refine ax_nil ?_
   refine cx_keep rfl rfl ?_
   refine cx_seq ?_
   refine cx_seq ?_
   refine cx_ops ?_
   refine ax_q (q_mov rfl) ?_
   first | refine ax_call rfl (vc_pure0 (c_isNumber  ) hP rfl rfl ?_) | refine ax_call rfl (vc_lend0 (c_isNumber  ) hP (by repeat (first | exact lal_id _ rfl | exact LAL.nil | refine LAL.cons ?_ ?_ | exact la_id _ rfl | exact LA.lend (lend_whole rfl (by first | (simp; done) | (rw [List.length_map]; rfl))) | refine LA.agg ?_ | refine LA.fn ?_ | refine LA.lend ?_ | exact Lend.d _ | exact Lend.zs _ | exact lend_whole rfl (by first | (simp; done) | (rw [List.length_map]; rfl)) | refine Lend.ptr rfl ?_ | refine Lend.fn ?_ | exact LendL.nil | refine LendL.cons ?_ ?_)) rfl rfl ?_)
   refine ax_q (q_not rfl) ?_
   refine ax_nil ?_
   refine cx_keep rfl rfl ?_
   refine cx_cond rfl (fun h4 => ?_) (fun h4 => ?_)
   ·
    have h4 := bT h4
    refine cx_seq ?_
    refine cx_ops ?_
    refine ax_q (q_build rfl) ?_
    refine ax_e (e_st rfl rfl rfl rfl rfl rfl rfl) ?_
    refine ax_q (q_mov rfl) ?_
    refine ax_nil ?_
    refine cx_keep rfl rfl ?_
    refine cx_ret (ret0 rfl rfl ?_)
    exact ⟨by rw [ari_7 h1, bnd_no h4]; rfl, rfl⟩
   ·
    have h4 := bF h4
    refine cx_skip ?_
    refine cx_keep rfl rfl ?_
    refine cx_seq ?_
    refine cx_ops ?_
    refine ax_q (q_mov rfl) ?_
    first | refine ax_call rfl (vc_pure0 (c_numberValue  ) hP rfl rfl ?_) | refine ax_call rfl (vc_lend0 (c_numberValue  ) hP (by repeat (first | exact lal_id _ rfl | exact LAL.nil | refine LAL.cons ?_ ?_ | exact la_id _ rfl | exact LA.lend (lend_whole rfl (by first | (simp; done) | (rw [List.length_map]; rfl))) | refine LA.agg ?_ | refine LA.fn ?_ | refine LA.lend ?_ | exact Lend.d _ | exact Lend.zs _ | exact lend_whole rfl (by first | (simp; done) | (rw [List.length_map]; rfl)) | refine Lend.ptr rfl ?_ | refine Lend.fn ?_ | exact LendL.nil | refine LendL.cons ?_ ?_)) rfl rfl ?_)
    refine ax_e (e_st rfl rfl rfl rfl rfl rfl rfl) ?_
    refine ax_q (q_mov rfl) ?_
    refine ax_nil ?_
    refine cx_keep rfl rfl ?_
    refine cx_ret (ret0 rfl rfl ?_)
    exact ⟨by rw [ari_7 h1, bnd_yes h4]; rfl, rfl⟩
  ·
   have h1 := dF h1
   refine cx_seq ?_
   refine cx_ops ?_
   refine ax_q (q_ibin rfl rfl rfl) ?_
   refine ax_q (q_mov rfl) ?_
   refine ax_nil ?_
   refine cx_keep rfl rfl ?_
   refine cx_cond rfl (fun h2 => ?_) (fun h2 => ?_)
   ·
    have h2 := dT h2
    refine cx_ops ?_
    refine ax_q (q_mov rfl) ?_
    refine ax_q (q_mov rfl) ?_
    refine ax_q (q_mul rfl rfl (by omega)) ?_
    refine ax_q (q_mov rfl) ?_
    refine ax_nil ?_
    refine cx_keep rfl rfl ?_
    refine cx_seq ?_
    refine cx_seq ?_
    refine cx_ops ?_
    refine ax_q (q_mov rfl) ?_
    first | refine ax_call rfl (vc_pure0 (c_isNumber  ) hP rfl rfl ?_) | refine ax_call rfl (vc_lend0 (c_isNumber  ) hP (by repeat (first | exact lal_id _ rfl | exact LAL.nil | refine LAL.cons ?_ ?_ | exact la_id _ rfl | exact LA.lend (lend_whole rfl (by first | (simp; done) | (rw [List.length_map]; rfl))) | refine LA.agg ?_ | refine LA.fn ?_ | refine LA.lend ?_ | exact Lend.d _ | exact Lend.zs _ | exact lend_whole rfl (by first | (simp; done) | (rw [List.length_map]; rfl)) | refine Lend.ptr rfl ?_ | refine Lend.fn ?_ | exact LendL.nil | refine LendL.cons ?_ ?_)) rfl rfl ?_)
    refine ax_q (q_not rfl) ?_
    refine ax_nil ?_
    refine cx_keep rfl rfl ?_
    refine cx_cond rfl (fun h4 => ?_) (fun h4 => ?_)
    ·
     have h4 := bT h4
     refine cx_seq ?_
     refine cx_ops ?_
     refine ax_q (q_build rfl) ?_
     refine ax_e (e_st rfl rfl rfl rfl rfl rfl rfl) ?_
     refine ax_q (q_mov rfl) ?_
     refine ax_nil ?_
     refine cx_keep rfl rfl ?_
     refine cx_ret (ret0 rfl rfl ?_)
     exact ⟨by rw [ari_8 h2, bnd_no h4]; rfl, rfl⟩
    ·
     have h4 := bF h4
     refine cx_skip ?_
     refine cx_keep rfl rfl ?_
     refine cx_seq ?_
     refine cx_ops ?_
     refine ax_q (q_mov rfl) ?_
     first | refine ax_call rfl (vc_pure0 (c_numberValue  ) hP rfl rfl ?_) | refine ax_call rfl (vc_lend0 (c_numberValue  ) hP (by repeat (first | exact lal_id _ rfl | exact LAL.nil | refine LAL.cons ?_ ?_ | exact la_id _ rfl | exact LA.lend (lend_whole rfl (by first | (simp; done) | (rw [List.length_map]; rfl))) | refine LA.agg ?_ | refine LA.fn ?_ | refine LA.lend ?_ | exact Lend.d _ | exact Lend.zs _ | exact lend_whole rfl (by first | (simp; done) | (rw [List.length_map]; rfl)) | refine Lend.ptr rfl ?_ | refine Lend.fn ?_ | exact LendL.nil | refine LendL.cons ?_ ?_)) rfl rfl ?_)
     refine ax_e (e_st rfl rfl rfl rfl rfl rfl rfl) ?_
     refine ax_q (q_mov rfl) ?_
     refine ax_nil ?_
     refine cx_keep rfl rfl ?_
     refine cx_ret (ret0 rfl rfl ?_)
     exact ⟨by rw [ari_8 h2, bnd_yes h4]; rfl, rfl⟩
   ·
    have h2 := dF h2
    refine cx_seq ?_
    refine cx_seq ?_
    refine cx_ops ?_
    refine ax_q (q_mov rfl) ?_
    refine ax_q (q_ibin rfl rfl rfl) ?_
    refine ax_nil ?_
    refine cx_keep rfl rfl ?_
    refine cx_cond rfl (fun h3 => ?_) (fun h3 => ?_)
    ·
     have h3 := dT h3
     refine cx_seq ?_
     refine cx_ops ?_
     refine ax_q (q_build rfl) ?_
     refine ax_e (e_st rfl rfl rfl rfl rfl rfl rfl) ?_
     refine ax_q (q_mov rfl) ?_
     refine ax_nil ?_
     refine cx_keep rfl rfl ?_
     refine cx_ret (ret0 rfl rfl ?_)
     exact ⟨by rw [ari_0 h0 h1 h2 h3]; rfl, rfl⟩
    ·
     have h3 := dF h3
     refine cx_skip ?_
     refine cx_keep rfl rfl ?_
     refine cx_ops ?_
     refine ax_q (q_mov rfl) ?_
     refine ax_q (q_mov rfl) ?_
     refine ax_qe (r' := int (a.tdiv b)) (q_idiv rfl rfl rfl (by omega)) (by have := tdivB (a := a) (b := b) hn; rw [wi (by omega) (by omega)]) ?_
     refine ax_q (q_mov rfl) ?_
     refine ax_nil ?_
     refine cx_keep rfl rfl ?_
     refine cx_seq ?_
     refine cx_seq ?_
     refine cx_ops ?_
     refine ax_q (q_mov rfl) ?_
     first | refine ax_call rfl (vc_pure0 (c_isNumber  ) hP rfl rfl ?_) | refine ax_call rfl (vc_lend0 (c_isNumber  ) hP (by repeat (first | exact lal_id _ rfl | exact LAL.nil | refine LAL.cons ?_ ?_ | exact la_id _ rfl | exact LA.lend (lend_whole rfl (by first | (simp; done) | (rw [List.length_map]; rfl))) | refine LA.agg ?_ | refine LA.fn ?_ | refine LA.lend ?_ | exact Lend.d _ | exact Lend.zs _ | exact lend_whole rfl (by first | (simp; done) | (rw [List.length_map]; rfl)) | refine Lend.ptr rfl ?_ | refine Lend.fn ?_ | exact LendL.nil | refine LendL.cons ?_ ?_)) rfl rfl ?_)
     refine ax_q (q_not rfl) ?_
     refine ax_nil ?_
     refine cx_keep rfl rfl ?_
     refine cx_cond rfl (fun h4 => ?_) (fun h4 => ?_)
     ·
      have h4 := bT h4
      refine cx_seq ?_
      refine cx_ops ?_
      refine ax_q (q_build rfl) ?_
      refine ax_e (e_st rfl rfl rfl rfl rfl rfl rfl) ?_
      refine ax_q (q_mov rfl) ?_
      refine ax_nil ?_
      refine cx_keep rfl rfl ?_
      refine cx_ret (ret0 rfl rfl ?_)
      exact ⟨by rw [ari_d h0 h1 h2 h3, bnd_no h4]; rfl, rfl⟩
     ·
      have h4 := bF h4
      refine cx_skip ?_
      refine cx_keep rfl rfl ?_
      refine cx_seq ?_
      refine cx_ops ?_
      refine ax_q (q_mov rfl) ?_
      first | refine ax_call rfl (vc_pure0 (c_numberValue  ) hP rfl rfl ?_) | refine ax_call rfl (vc_lend0 (c_numberValue  ) hP (by repeat (first | exact lal_id _ rfl | exact LAL.nil | refine LAL.cons ?_ ?_ | exact la_id _ rfl | exact LA.lend (lend_whole rfl (by first | (simp; done) | (rw [List.length_map]; rfl))) | refine LA.agg ?_ | refine LA.fn ?_ | refine LA.lend ?_ | exact Lend.d _ | exact Lend.zs _ | exact lend_whole rfl (by first | (simp; done) | (rw [List.length_map]; rfl)) | refine Lend.ptr rfl ?_ | refine Lend.fn ?_ | exact LendL.nil | refine LendL.cons ?_ ?_)) rfl rfl ?_)
      refine ax_e (e_st rfl rfl rfl rfl rfl rfl rfl) ?_
      refine ax_q (q_mov rfl) ?_
      refine ax_nil ?_
      refine cx_keep rfl rfl ?_
      refine cx_ret (ret0 rfl rfl ?_)
      exact ⟨by rw [ari_d h0 h1 h2 h3, bnd_yes h4]; rfl, rfl⟩


/- loop.example/g00332/impl.binary -/
def k_c_binary : XCode :=
 .seq (.ops [.op (some 4) (.box (.t 1)),
   .op (some 5) (.box (.t 2)),
   .op (some 6) (.alloc [.int .i64 0, .int .i64 0, .str []]),
   .op (some 7) (.mov (.k (.int .i64 0)))])
 (.keep [0, 4, 5, 6] (.seq (.seq (.ops [.op (some 9) (.mov (.t 0)),
   .op (some 10) (.bin .eql (.t 9) (.k (.int .i64 12))),
   .op (some 11) (.mov (.t 10)),
   .andor 14 false 2 11 [.op (some 12) (.mov (.t 0)), .op (some 13) (.bin .eql (.t 12) (.k (.int .i64 13)))] (.t 13)])
  (.keep [0, 4, 5, 6, 14] (.cond (.t 14)
  (.seq (.ops [.op (some 15) (.mov (.t 0)),
    .op (some 16) (.loadN 3 (.t 4)),
    .op (some 17) (.loadN 3 (.t 5)),
    .call (some 18) 107 [.t 15, .t 16, .t 17],
    .op (some 19) (.ext (.t 18) 0),
    .op (some 20) (.ext (.t 18) 1),
    .op none (.store 3 (.t 6) (.t 19)),
    .op (some 7) (.mov (.t 20))])
   (.keep [6, 7] (.ret)))
  (.skip))))
 (.keep [0, 4, 5, 6] (.seq (.ops [.op (some 21) (.mov (.t 0)),
   .op (some 22) (.bin .eql (.t 21) (.k (.int .i64 10))),
   .op (some 23) (.mov (.t 22)),
   .andor 26 false 2 23 [.op (some 24) (.mov (.t 0)), .op (some 25) (.bin .eql (.t 24) (.k (.int .i64 11)))] (.t 25),
   .op (some 8) (.mov (.t 26))])
 (.keep [0, 4, 5, 6, 8] (.seq (.block 0 (.seq (.ops [.op (some 28) (.mov (.t 8)),
    .op (some 29) (.not (.t 28)),
    .op (some 30) (.mov (.t 29)),
    .andor 39 true 2 30 [.op (some 31) (.fadr (.t 4) 0), .op (some 32) (.load1 (.t 31)), .op (some 33) (.bin .eql (.t 32) (.k (.int .i64 2))), .op (some 34) (.mov (.t 33)), .andor 38 false 6 34 [.op (some 35) (.fadr (.t 5) 0), .op (some 36) (.load1 (.t 35)), .op (some 37) (.bin .eql (.t 36) (.k (.int .i64 2)))] (.t 37)] (.t 38),
    .op (some 27) (.mov (.t 39))])
  (.keep [0, 4, 5, 6, 27] (.cond (.t 27)
   (.seq (.ops [.op (some 40) (.build [.int .i64 0, .int .i64 0, .str []] []),
     .op none (.store 3 (.t 6) (.t 40)),
     .op (some 7) (.mov (.k (.int .i64 10)))])
   (.keep [6, 7] (.ret)))
   (.seq (.ops [.op (some 42) (.fadr (.t 4) 0),
     .op (some 43) (.load1 (.t 42)),
     .op (some 44) (.bin .eql (.t 43) (.k (.int .i64 0))),
     .op (some 45) (.mov (.t 44)),
     .andor 49 false 3 45 [.op (some 46) (.fadr (.t 5) 0), .op (some 47) (.load1 (.t 46)), .op (some 48) (.bin .eql (.t 47) (.k (.int .i64 0)))] (.t 48),
     .op (some 41) (.mov (.t 49))])
   (.keep [0, 4, 5, 6, 41] (.cond (.t 41)
    (.seq (.ops [.op (some 50) (.build [.int .i64 0, .int .i64 0, .str []] []),
      .op none (.store 3 (.t 6) (.t 50)),
      .op (some 7) (.mov (.k (.int .i64 0)))])
    (.keep [6, 7] (.ret)))
    (.seq (.ops [.op (some 52) (.fadr (.t 4) 0),
      .op (some 53) (.load1 (.t 52)),
      .op (some 54) (.fadr (.t 5) 0),
      .op (some 55) (.load1 (.t 54)),
      .op (some 56) (.bin .neq (.t 53) (.t 55)),
      .op (some 51) (.mov (.t 56))])
    (.keep [0, 4, 5, 6, 51] (.cond (.t 51)
     (.seq (.ops [.op (some 57) (.build [.int .i64 0, .int .i64 0, .str []] []),
       .op none (.store 3 (.t 6) (.t 57)),
       .op (some 7) (.mov (.k (.int .i64 10)))])
     (.keep [6, 7] (.ret)))
     (.seq (.ops [.op (some 59) (.mov (.t 0)),
       .op (some 60) (.bin .eql (.t 59) (.k (.int .i64 10))),
       .op (some 58) (.mov (.t 60))])
     (.keep [0, 4, 5, 6, 58] (.cond (.t 58)
      (.seq (.ops [.op (some 61) (.loadN 3 (.t 4)),
        .op (some 62) (.loadN 3 (.t 5)),
        .op (some 63) (.eqs false [0, 0, 2] (.t 61) (.t 62)),
        .call (some 64) 94 [.t 63],
        .op none (.store 3 (.t 6) (.t 64)),
        .op (some 7) (.mov (.k (.int .i64 0)))])
      (.keep [6, 7] (.ret)))
      (.seq (.ops [.op (some 66) (.mov (.t 0)),
        .op (some 67) (.bin .eql (.t 66) (.k (.int .i64 11))),
        .op (some 65) (.mov (.t 67))])
      (.keep [0, 4, 5, 6, 65] (.cond (.t 65)
       (.seq (.ops [.op (some 68) (.loadN 3 (.t 4)),
         .op (some 69) (.loadN 3 (.t 5)),
         .call (some 70) 108 [.t 68, .t 69],
         .op (some 71) (.bin .lss (.t 70) (.k (.int .i64 0))),
         .call (some 72) 94 [.t 71],
         .op none (.store 3 (.t 6) (.t 72)),
         .op (some 7) (.mov (.k (.int .i64 0)))])
       (.keep [6, 7] (.ret)))
       (.skip)))))))))))))))))
 (.keep [0, 4, 5, 6] (.seq (.ops [.op (some 73) (.mov (.t 0)),
   .op (some 74) (.fadr (.t 4) 1),
   .op (some 75) (.load1 (.t 74)),
   .op (some 76) (.fadr (.t 5) 1),
   .op (some 77) (.load1 (.t 76)),
   .call (some 78) 109 [.t 73, .t 75, .t 77],
   .op (some 79) (.ext (.t 78) 0),
   .op (some 80) (.ext (.t 78) 1),
   .op none (.store 3 (.t 6) (.t 79)),
   .op (some 7) (.mov (.t 80))])
 (.keep [6, 7] (.ret))))))))))
theorem k_c_binary_fits : fitsF Try.prog 91 ⟨81, k_c_binary, [.cN 6 3, .t 7]⟩ = true := by kernel_rfl
theorem c_binary {op : Int} {a b : GValue} (ha : RV a) (hb : RV b) : Con Try.prog noMv 91 [int op, a.av, b.av] [] (fun r h => r = .tup [(binF op a b).1.av, int (binF op a b).2] ∧ h = []) := by
 refine con_of2 k_c_binary_fits rfl fun C hP hmv => ?_
 unfold k_c_binary
 have hn := ha.n; have hm := hb.n; have hmul := mulB hn hm; have hka := ha.k; have hkb := hb.k
 refine cx_seq ?_
 refine cx_ops ?_
 refine ax_e (e_box rfl rfl (by decide) rfl rfl rfl) ?_
 refine ax_e (e_box rfl rfl (by decide) rfl rfl rfl) ?_
 refine ax_e (e_alloc (by decide) rfl rfl) ?_
 refine ax_q (q_mov rfl) ?_
 refine ax_nil ?_
 refine cx_keep rfl rfl ?_
 refine cx_seq ?_
 refine cx_seq ?_
 refine cx_ops ?_
 refine ax_q (q_mov rfl) ?_
 refine ax_q (q_ibin rfl rfl rfl) ?_
 refine ax_q (q_mov rfl) ?_
 apply ax_or rfl rfl
 ·
  intro g
  have g := dF g
  refine ax_q (q_mov rfl) ?_
  refine ax_q (q_ibin rfl rfl rfl) ?_
  exact ax_nil ⟨rfl, by repeat (first | exact trivial | refine ⟨rfl, ?_⟩ | refine ⟨?_, ?_⟩)⟩
 refine ax_nil ?_
 refine cx_keep rfl rfl ?_
 refine cx_cond rfl (fun h0 => ?_) (fun h0 => ?_)
 ·
  have h0 := (fun h => (or_T h).imp dT dT) h0
  refine cx_seq ?_
  refine cx_ops ?_
  refine ax_q (q_mov rfl) ?_
  refine ax_q (q_ldN rfl rfl rfl) ?_
  refine ax_q (q_ldN rfl rfl rfl) ?_
  first | refine ax_call rfl (vc_pure0 (c_connect (a := a) (b := b) ?_ ?_) hP rfl rfl ?_) | refine ax_call rfl (vc_lend0 (c_connect (a := a) (b := b) ?_ ?_) hP (by repeat (first | exact lal_id _ rfl | exact LAL.nil | refine LAL.cons ?_ ?_ | exact la_id _ rfl | exact LA.lend (lend_whole rfl (by first | (simp; done) | (rw [List.length_map]; rfl))) | refine LA.agg ?_ | refine LA.fn ?_ | refine LA.lend ?_ | exact Lend.d _ | exact Lend.zs _ | exact lend_whole rfl (by first | (simp; done) | (rw [List.length_map]; rfl)) | refine Lend.ptr rfl ?_ | refine Lend.fn ?_ | exact LendL.nil | refine LendL.cons ?_ ?_)) rfl rfl ?_)
  ·
   first | assumption | omega | (simp; done) | (simp; omega)
  ·
   first | assumption | omega | (simp; done) | (simp; omega)
  refine ax_q (q_ext rfl rfl) ?_
  refine ax_q (q_ext rfl rfl) ?_
  refine ax_e (e_st rfl rfl rfl rfl rfl rfl rfl) ?_
  refine ax_q (q_mov rfl) ?_
  refine ax_nil ?_
  refine cx_keep rfl rfl ?_
  refine cx_ret (ret0 rfl rfl ?_)
  have e : binF op a b = conF op a b := by unfold binF; rw [if_pos h0]
  exact ⟨by rw [e]; rfl, rfl⟩
 ·
  have h0 := (fun h => And.intro (dF (or_F h).1) (dF (or_F h).2)) h0
  refine cx_skip ?_
  refine cx_keep rfl rfl ?_
  refine cx_seq ?_
  refine cx_ops ?_
  refine ax_q (q_mov rfl) ?_
  refine ax_q (q_ibin rfl rfl rfl) ?_
  refine ax_q (q_mov rfl) ?_
  apply ax_or rfl rfl
  ·
   intro g
   have g := dF g
   refine ax_q (q_mov rfl) ?_
   refine ax_q (q_ibin rfl rfl rfl) ?_
   exact ax_nil ⟨rfl, by repeat (first | exact trivial | refine ⟨rfl, ?_⟩ | refine ⟨?_, ?_⟩)⟩
  refine ax_q (q_mov rfl) ?_
  refine ax_nil ?_
  refine cx_keep rfl rfl ?_
  refine cx_seq ?_
  refine cx_block ?_
  refine cx_seq ?_
  refine cx_ops ?_
  refine ax_q (q_mov rfl) ?_
  refine ax_q (q_not rfl) ?_
  refine ax_q (q_mov rfl) ?_
  apply ax_and rfl rfl
  ·
   intro g
   have g := (fun h => (fun h => And.intro (dF (or_F h).1) (dF (or_F h).2)) (bT h)) g
   refine ax_q (q_fadr_ptr rfl) ?_
   refine ax_q (q_load1_ptr rfl rfl rfl) ?_
   refine ax_q (q_ibin rfl rfl rfl) ?_
   refine ax_q (q_mov rfl) ?_
   apply ax_or rfl rfl
   ·
    intro g
    have g := dF g
    refine ax_q (q_fadr_ptr rfl) ?_
    refine ax_q (q_load1_ptr rfl rfl rfl) ?_
    refine ax_q (q_ibin rfl rfl rfl) ?_
    exact ax_nil ⟨rfl, by repeat (first | exact trivial | refine ⟨rfl, ?_⟩ | refine ⟨?_, ?_⟩)⟩
   exact ax_nil ⟨rfl, by repeat (first | exact trivial | refine ⟨rfl, ?_⟩ | refine ⟨?_, ?_⟩)⟩
  refine ax_q (q_mov rfl) ?_
  refine ax_nil ?_
  refine cx_keep rfl rfl ?_
  refine cx_cond rfl (fun h1 => ?_) (fun h1 => ?_)
  ·
   have h1 := (fun h => And.intro ((fun h => (fun h => And.intro (dF (or_F h).1) (dF (or_F h).2)) (bT h)) (and_T h).1) ((fun h => (or_T h).imp dT dT) (and_T h).2)) h1
   refine cx_seq ?_
   refine cx_ops ?_
   refine ax_q (q_build rfl) ?_
   refine ax_e (e_st rfl rfl rfl rfl rfl rfl rfl) ?_
   refine ax_q (q_mov rfl) ?_
   refine ax_nil ?_
   refine cx_keep rfl rfl ?_
   refine cx_ret (ret0 rfl rfl ?_)
   have e : binF op a b = (.zero, 10) := by unfold binF; rw [if_neg (by omega), if_pos (by omega)]
   exact ⟨by rw [e]; rfl, rfl⟩
  ·
   have h1 := (fun h => (and_F h).imp (fun h => (fun h => (or_T h).imp dT dT) (bF h)) (fun h => And.intro (dF (or_F h).1) (dF (or_F h).2))) h1
   refine cx_seq ?_
   refine cx_ops ?_
   refine ax_q (q_fadr_ptr rfl) ?_
   refine ax_q (q_load1_ptr rfl rfl rfl) ?_
   refine ax_q (q_ibin rfl rfl rfl) ?_
   refine ax_q (q_mov rfl) ?_
   apply ax_or rfl rfl
   ·
    intro g
    have g := dF g
    refine ax_q (q_fadr_ptr rfl) ?_
    refine ax_q (q_load1_ptr rfl rfl rfl) ?_
    refine ax_q (q_ibin rfl rfl rfl) ?_
    exact ax_nil ⟨rfl, by repeat (first | exact trivial | refine ⟨rfl, ?_⟩ | refine ⟨?_, ?_⟩)⟩
   refine ax_q (q_mov rfl) ?_
   refine ax_nil ?_
   refine cx_keep rfl rfl ?_
   refine cx_cond rfl (fun h2 => ?_) (fun h2 => ?_)
   ·
    have h2 := (fun h => (or_T h).imp dT dT) h2
    refine cx_seq ?_
    refine cx_ops ?_
    refine ax_q (q_build rfl) ?_
    refine ax_e (e_st rfl rfl rfl rfl rfl rfl rfl) ?_
    refine ax_q (q_mov rfl) ?_
    refine ax_nil ?_
    refine cx_keep rfl rfl ?_
    refine cx_ret (ret0 rfl rfl ?_)
    have e : binF op a b = (.zero, 0) := by unfold binF; rw [if_neg (by omega), if_neg (by omega), if_pos (by omega)]
    exact ⟨by rw [e]; rfl, rfl⟩
   ·
    have h2 := (fun h => And.intro (dF (or_F h).1) (dF (or_F h).2)) h2
    refine cx_seq ?_
    refine cx_ops ?_
    refine ax_q (q_fadr_ptr rfl) ?_
    refine ax_q (q_load1_ptr rfl rfl rfl) ?_
    refine ax_q (q_fadr_ptr rfl) ?_
    refine ax_q (q_load1_ptr rfl rfl rfl) ?_
    refine ax_q (q_ibin rfl rfl rfl) ?_
    refine ax_q (q_mov rfl) ?_
    refine ax_nil ?_
    refine cx_keep rfl rfl ?_
    refine cx_cond rfl (fun h3 => ?_) (fun h3 => ?_)
    ·
     have h3 := nT h3
     refine cx_seq ?_
     refine cx_ops ?_
     refine ax_q (q_build rfl) ?_
     refine ax_e (e_st rfl rfl rfl rfl rfl rfl rfl) ?_
     refine ax_q (q_mov rfl) ?_
     refine ax_nil ?_
     refine cx_keep rfl rfl ?_
     refine cx_ret (ret0 rfl rfl ?_)
     have e : binF op a b = (.zero, 10) := by unfold binF; rw [if_neg (by omega), if_neg (by omega), if_neg (by omega), if_pos (by omega)]
     exact ⟨by rw [e]; rfl, rfl⟩
    ·
     have h3 := nF h3
     refine cx_seq ?_
     refine cx_ops ?_
     refine ax_q (q_mov rfl) ?_
     refine ax_q (q_ibin rfl rfl rfl) ?_
     refine ax_q (q_mov rfl) ?_
     refine ax_nil ?_
     refine cx_keep rfl rfl ?_
     refine cx_cond rfl (fun h4 => ?_) (fun h4 => ?_)
     ·
      have h4 := dT h4
      refine cx_seq ?_
      refine cx_ops ?_
      refine ax_q (q_ldN rfl rfl rfl) ?_
      refine ax_q (q_ldN rfl rfl rfl) ?_
      refine ax_qe (r' := bool (eqV a b)) (q_eqs rfl rfl rfl) (rfl) ?_
      first | refine ax_call rfl (vc_pure0 (c_truth  ) hP rfl rfl ?_) | refine ax_call rfl (vc_lend0 (c_truth  ) hP (by repeat (first | exact lal_id _ rfl | exact LAL.nil | refine LAL.cons ?_ ?_ | exact la_id _ rfl | exact LA.lend (lend_whole rfl (by first | (simp; done) | (rw [List.length_map]; rfl))) | refine LA.agg ?_ | refine LA.fn ?_ | refine LA.lend ?_ | exact Lend.d _ | exact Lend.zs _ | exact lend_whole rfl (by first | (simp; done) | (rw [List.length_map]; rfl)) | refine Lend.ptr rfl ?_ | refine Lend.fn ?_ | exact LendL.nil | refine LendL.cons ?_ ?_)) rfl rfl ?_)
      refine ax_e (e_st rfl rfl rfl rfl rfl rfl rfl) ?_
      refine ax_q (q_mov rfl) ?_
      refine ax_nil ?_
      refine cx_keep rfl rfl ?_
      refine cx_ret (ret0 rfl rfl ?_)
      have e : binF op a b = (vB (eqV a b), 0) := by unfold binF; rw [if_neg (by omega), if_neg (by omega), if_neg (by omega), if_neg (by omega), if_pos (by omega)]
      exact ⟨by rw [e]; rfl, rfl⟩
     ·
      have h4 := dF h4
      refine cx_seq ?_
      refine cx_ops ?_
      refine ax_q (q_mov rfl) ?_
      refine ax_q (q_ibin rfl rfl rfl) ?_
      refine ax_q (q_mov rfl) ?_
      refine ax_nil ?_
      refine cx_keep rfl rfl ?_
      refine cx_cond rfl (fun h5 => ?_) (fun h5 => ?_)
      ·
       have h5 := dT h5
       refine cx_seq ?_
       refine cx_ops ?_
       refine ax_q (q_ldN rfl rfl rfl) ?_
       refine ax_q (q_ldN rfl rfl rfl) ?_
       first | refine ax_call rfl (vc_pure0 (c_compareValues (a := a) (b := b) ) hP rfl rfl ?_) | refine ax_call rfl (vc_lend0 (c_compareValues (a := a) (b := b) ) hP (by repeat (first | exact lal_id _ rfl | exact LAL.nil | refine LAL.cons ?_ ?_ | exact la_id _ rfl | exact LA.lend (lend_whole rfl (by first | (simp; done) | (rw [List.length_map]; rfl))) | refine LA.agg ?_ | refine LA.fn ?_ | refine LA.lend ?_ | exact Lend.d _ | exact Lend.zs _ | exact lend_whole rfl (by first | (simp; done) | (rw [List.length_map]; rfl)) | refine Lend.ptr rfl ?_ | refine Lend.fn ?_ | exact LendL.nil | refine LendL.cons ?_ ?_)) rfl rfl ?_)
       refine ax_q (q_ibin rfl rfl rfl) ?_
       first | refine ax_call rfl (vc_pure0 (c_truth  ) hP rfl rfl ?_) | refine ax_call rfl (vc_lend0 (c_truth  ) hP (by repeat (first | exact lal_id _ rfl | exact LAL.nil | refine LAL.cons ?_ ?_ | exact la_id _ rfl | exact LA.lend (lend_whole rfl (by first | (simp; done) | (rw [List.length_map]; rfl))) | refine LA.agg ?_ | refine LA.fn ?_ | refine LA.lend ?_ | exact Lend.d _ | exact Lend.zs _ | exact lend_whole rfl (by first | (simp; done) | (rw [List.length_map]; rfl)) | refine Lend.ptr rfl ?_ | refine Lend.fn ?_ | exact LendL.nil | refine LendL.cons ?_ ?_)) rfl rfl ?_)
       refine ax_e (e_st rfl rfl rfl rfl rfl rfl rfl) ?_
       refine ax_q (q_mov rfl) ?_
       refine ax_nil ?_
       refine cx_keep rfl rfl ?_
       refine cx_ret (ret0 rfl rfl ?_)
       have e : binF op a b = (vB (decide (cmpV a b < 0)), 0) := by unfold binF; rw [if_neg (by omega), if_neg (by omega), if_neg (by omega), if_neg (by omega), if_neg (by omega), if_pos (by omega)]
       exact ⟨by rw [e]; rfl, rfl⟩
      ·
       have h5 := dF h5
       refine cx_skip ?_
       refine cx_keep rfl rfl ?_
       refine cx_seq ?_
       refine cx_ops ?_
       refine ax_q (q_mov rfl) ?_
       refine ax_q (q_fadr_ptr rfl) ?_
       refine ax_q (q_load1_ptr rfl rfl rfl) ?_
       refine ax_q (q_fadr_ptr rfl) ?_
       refine ax_q (q_load1_ptr rfl rfl rfl) ?_
       first | refine ax_call rfl (vc_pure0 (c_arith  ?_ ?_) hP rfl rfl ?_) | refine ax_call rfl (vc_lend0 (c_arith  ?_ ?_) hP (by repeat (first | exact lal_id _ rfl | exact LAL.nil | refine LAL.cons ?_ ?_ | exact la_id _ rfl | exact LA.lend (lend_whole rfl (by first | (simp; done) | (rw [List.length_map]; rfl))) | refine LA.agg ?_ | refine LA.fn ?_ | refine LA.lend ?_ | exact Lend.d _ | exact Lend.zs _ | exact lend_whole rfl (by first | (simp; done) | (rw [List.length_map]; rfl)) | refine Lend.ptr rfl ?_ | refine Lend.fn ?_ | exact LendL.nil | refine LendL.cons ?_ ?_)) rfl rfl ?_)
       ·
        first | assumption | omega | (simp; done) | (simp; omega)
       ·
        first | assumption | omega | (simp; done) | (simp; omega)
       refine ax_q (q_ext rfl rfl) ?_
       refine ax_q (q_ext rfl rfl) ?_
       refine ax_e (e_st rfl rfl rfl rfl rfl rfl rfl) ?_
       refine ax_q (q_mov rfl) ?_
       refine ax_nil ?_
       refine cx_keep rfl rfl ?_
       refine cx_ret (ret0 rfl rfl ?_)
       have e : binF op a b = ariF op a.N b.N := by unfold binF; rw [if_neg (by omega), if_neg (by omega), if_neg (by omega), if_neg (by omega), if_neg (by omega), if_neg (by omega)]
       exact ⟨by rw [e]; rfl, rfl⟩


/- loop.example/g00332/impl.eval -/
def k_c_eval : XCode :=
 .seq (.ops [.op (some 3) (.box (.t 0)),
   .op (some 5) (.box (.t 2)),
   .op (some 6) (.alloc [.int .i64 0, .int .i64 0, .str []]),
   .op (some 7) (.mov (.k (.int .i64 0)))])
 (.keep [1, 3, 5, 6] (.seq (.ops [.op (some 12) (.fadr (.t 3) 0),
   .op (some 13) (.load1 (.t 12)),
   .op (some 14) (.mov (.t 1)),
   .op (some 15) (.iadr 7 (.t 13) (.t 14)),
   .op (some 16) (.loadN 7 (.t 15)),
   .op (some 8) (.alloc [.int .i64 0, .int .i64 0, .int .i64 0, .int .i64 0, .int .i64 0, .int .i64 0, .str []]),
   .op none (.store 7 (.t 8) (.t 16))])
 (.keep [3, 5, 6, 8] (.seq (.seq (.ops [.op (some 17) (.fadr (.t 8) 0),
   .op (some 18) (.load1 (.t 17))])
  (.keep [3, 5, 6, 8, 18] (.block 0 (.seq (.ops [.op (some 20) (.bin .eql (.t 18) (.k (.int .i64 1))),
    .op (some 19) (.mov (.t 20))])
  (.keep [3, 5, 6, 8, 18, 19] (.cond (.t 19)
   (.seq (.ops [.op (some 21) (.fadr (.t 8) 4),
     .op (some 22) (.loadN 3 (.t 21)),
     .op none (.store 3 (.t 6) (.t 22)),
     .op (some 7) (.mov (.k (.int .i64 0)))])
   (.keep [6, 7] (.ret)))
   (.seq (.ops [.op (some 24) (.bin .eql (.t 18) (.k (.int .i64 2))),
     .op (some 23) (.mov (.t 24))])
   (.keep [3, 5, 6, 8, 23] (.cond (.t 23)
    (.seq (.ops [.op (some 25) (.loadN 7 (.t 5)),
      .op (some 26) (.fadr (.t 8) 3),
      .op (some 27) (.load1 (.t 26)),
      .call (some 28) 89 [.t 25, .t 27],
      .op none (.store 3 (.t 6) (.t 28)),
      .op (some 7) (.mov (.k (.int .i64 0)))])
    (.keep [6, 7] (.ret)))
    (.skip))))))))))
 (.keep [3, 5, 6, 8] (.seq (.ops [.op (some 30) (.loadN 1 (.t 3)),
   .op (some 31) (.fadr (.t 8) 1),
   .op (some 32) (.load1 (.t 31)),
   .op (some 33) (.loadN 7 (.t 5)),
   .call (some 34) 88 [.t 30, .t 32, .t 33],
   .op (some 29) (.mov (.t 34)),
   .op (some 35) (.ext (.t 29) 0),
   .op (some 36) (.ext (.t 29) 1),
   .op (some 9) (.alloc [.int .i64 0, .int .i64 0, .str []]),
   .op none (.store 3 (.t 9) (.t 35)),
   .op (some 10) (.mov (.t 36))])
 (.keep [3, 5, 6, 8, 9, 10] (.seq (.block 1 (.seq (.ops [.op (some 38) (.mov (.t 10)),
    .op (some 39) (.bin .neq (.t 38) (.k (.int .i64 0))),
    .op (some 37) (.mov (.t 39))])
  (.keep [3, 5, 6, 8, 9, 10, 37] (.cond (.t 37)
   (.seq (.ops [.op (some 40) (.build [.int .i64 0, .int .i64 0, .str []] []),
     .op (some 41) (.mov (.t 10)),
     .op none (.store 3 (.t 6) (.t 40)),
     .op (some 7) (.mov (.t 41))])
   (.keep [6, 7] (.ret)))
   (.seq (.ops [.op (some 43) (.fadr (.t 8) 0),
     .op (some 44) (.load1 (.t 43)),
     .call (some 45) 82 [.t 44],
     .op (some 42) (.mov (.t 45))])
   (.keep [3, 5, 6, 8, 9, 42] (.cond (.t 42)
    (.seq (.ops [.op (some 46) (.fadr (.t 8) 0),
      .op (some 47) (.load1 (.t 46)),
      .op (some 48) (.loadN 3 (.t 9)),
      .call (some 49) 90 [.t 47, .t 48],
      .op (some 50) (.ext (.t 49) 0),
      .op (some 51) (.ext (.t 49) 1),
      .op none (.store 3 (.t 6) (.t 50)),
      .op (some 7) (.mov (.t 51))])
    (.keep [6, 7] (.ret)))
    (.seq (.ops [.op (some 53) (.fadr (.t 8) 0),
      .op (some 54) (.load1 (.t 53)),
      .op (some 55) (.bin .eql (.t 54) (.k (.int .i64 12))),
      .op (some 56) (.mov (.t 55)),
      .andor 59 true 3 56 [.op (some 57) (.loadN 3 (.t 9)), .call (some 58) 92 [.t 57]] (.t 58),
      .op (some 52) (.mov (.t 59))])
    (.keep [3, 5, 6, 8, 9, 52] (.cond (.t 52)
     (.seq (.ops [.call (some 60) 94 [.k (.bool false)],
       .op none (.store 3 (.t 6) (.t 60)),
       .op (some 7) (.mov (.k (.int .i64 0)))])
     (.keep [6, 7] (.ret)))
     (.seq (.ops [.op (some 62) (.fadr (.t 8) 0),
       .op (some 63) (.load1 (.t 62)),
       .op (some 64) (.bin .eql (.t 63) (.k (.int .i64 13))),
       .op (some 65) (.mov (.t 64)),
       .andor 68 true 3 65 [.op (some 66) (.loadN 3 (.t 9)), .call (some 67) 93 [.t 66]] (.t 67),
       .op (some 61) (.mov (.t 68))])
     (.keep [3, 5, 6, 8, 9, 61] (.cond (.t 61)
      (.seq (.ops [.call (some 69) 94 [.k (.bool true)],
        .op none (.store 3 (.t 6) (.t 69)),
        .op (some 7) (.mov (.k (.int .i64 0)))])
      (.keep [6, 7] (.ret)))
      (.skip))))))))))))))
 (.keep [3, 5, 6, 8, 9] (.seq (.ops [.op (some 71) (.loadN 1 (.t 3)),
   .op (some 72) (.fadr (.t 8) 2),
   .op (some 73) (.load1 (.t 72)),
   .op (some 74) (.loadN 7 (.t 5)),
   .call (some 75) 88 [.t 71, .t 73, .t 74],
   .op (some 70) (.mov (.t 75)),
   .op (some 76) (.ext (.t 70) 0),
   .op (some 77) (.ext (.t 70) 1),
   .op (some 11) (.alloc [.int .i64 0, .int .i64 0, .str []]),
   .op none (.store 3 (.t 11) (.t 76)),
   .op (some 10) (.mov (.t 77))])
 (.keep [6, 8, 9, 10, 11] (.seq (.seq (.ops [.op (some 78) (.mov (.t 10)),
   .op (some 79) (.bin .neq (.t 78) (.k (.int .i64 0)))])
  (.keep [6, 8, 9, 10, 11, 79] (.cond (.t 79)
  (.seq (.ops [.op (some 80) (.build [.int .i64 0, .int .i64 0, .str []] []),
    .op (some 81) (.mov (.t 10)),
    .op none (.store 3 (.t 6) (.t 80)),
    .op (some 7) (.mov (.t 81))])
   (.keep [6, 7] (.ret)))
  (.skip))))
 (.keep [6, 8, 9, 11] (.seq (.ops [.op (some 82) (.fadr (.t 8) 0),
   .op (some 83) (.load1 (.t 82)),
   .op (some 84) (.loadN 3 (.t 9)),
   .op (some 85) (.loadN 3 (.t 11)),
   .call (some 86) 91 [.t 83, .t 84, .t 85],
   .op (some 87) (.ext (.t 86) 0),
   .op (some 88) (.ext (.t 86) 1),
   .op none (.store 3 (.t 6) (.t 87)),
   .op (some 7) (.mov (.t 88))])
 (.keep [6, 7] (.ret))))))))))))))))
theorem k_c_eval_fits : fitsF Try.prog 88 ⟨89, k_c_eval, [.cN 6 3, .t 7]⟩ = true := by kernel_rfl
set_option maxHeartbeats 4000000 in
theorem c_eval {e : GExpr} {w : GRow} {f : Nat} {i : Int} (hi : 0 ≤ i) (hf : i < f) (hl : i < e.Nodes.length) (ht : (T e.Nodes i).2.2 = true) (hr : RR w) (hw : e.Nodes.length ≤ 1048576) : Con Try.prog noMv 88 [e.av, int i, w.av] [] (fun r h => r = .tup [(evalF e.Nodes w f i).1.av, int (evalF e.Nodes w f i).2] ∧ h = []) := by
 induction f generalizing i with
 | zero => exact absurd hf (by omega)
 | succ f ih =>
  refine con_of2 k_c_eval_fits rfl fun C hP hmv => ?_
  unfold k_c_eval
  obtain ⟨j, rfl⟩ : ∃ j : Nat, i = (j : Int) := ⟨i.toNat, by omega⟩
  have hj : j < e.Nodes.length := by omega
  have hTV := T_V hj ht
  refine cx_seq ?_
  refine cx_ops ?_
  refine ax_e (e_box rfl rfl (by decide) rfl rfl rfl) ?_
  refine ax_e (e_box rfl rfl (by decide) rfl rfl rfl) ?_
  refine ax_e (e_alloc (by decide) rfl rfl) ?_
  refine ax_q (q_mov rfl) ?_
  refine ax_nil ?_
  refine cx_keep rfl rfl ?_
  refine cx_seq ?_
  refine cx_ops ?_
  refine ax_q (q_fadr_ptr rfl) ?_
  refine ax_q (q_load1_ptr rfl rfl rfl) ?_
  refine ax_q (q_mov rfl) ?_
  refine ax_q (q_ix rfl rfl (mapAt hj)) ?_
  first | refine ax_q (q_ldN rfl rfl rfl) ?_ | refine ax_q (q_loadN_ip rfl (Nat.le_refl _)) ?_ | refine ax_q (q_loadN_ip rfl (by decide)) ?_ | refine ax_q (q_loadN_rptr rfl rfl (by assumption) (by decide)) ?_ | refine ax_q (q_loadN_rptr rfl rfl (mapAt (by first | assumption | omega)) (by decide)) ?_
  refine ax_e (e_alloc (by decide) rfl rfl) ?_
  refine ax_e (e_st rfl rfl rfl rfl rfl rfl rfl) ?_
  refine ax_nil ?_
  refine cx_keep rfl rfl ?_
  refine cx_seq ?_
  refine cx_seq ?_
  refine cx_ops ?_
  refine ax_q (q_fadr_ptr rfl) ?_
  refine ax_q (q_load1_ptr rfl rfl rfl) ?_
  refine ax_nil ?_
  refine cx_keep rfl rfl ?_
  refine cx_block ?_
  refine cx_seq ?_
  refine cx_ops ?_
  refine ax_q (q_ibin rfl rfl rfl) ?_
  refine ax_q (q_mov rfl) ?_
  refine ax_nil ?_
  refine cx_keep rfl rfl ?_
  refine cx_cond rfl (fun h0 => ?_) (fun h0 => ?_)
  ·
   have h0 := dT h0
   refine cx_seq ?_
   refine cx_ops ?_
   refine ax_q (q_fadr_ptr rfl) ?_
   refine ax_q (q_ldN rfl rfl rfl) ?_
   refine ax_e (e_st rfl rfl rfl rfl rfl rfl rfl) ?_
   refine ax_q (q_mov rfl) ?_
   refine ax_nil ?_
   refine cx_keep rfl rfl ?_
   refine cx_ret (ret0 rfl rfl ?_)
   exact ⟨by rw [evalF_1 hj h0]; rfl, rfl⟩
  ·
   have h0 := dF h0
   refine cx_seq ?_
   refine cx_ops ?_
   refine ax_q (q_ibin rfl rfl rfl) ?_
   refine ax_q (q_mov rfl) ?_
   refine ax_nil ?_
   refine cx_keep rfl rfl ?_
   refine cx_cond rfl (fun h1 => ?_) (fun h1 => ?_)
   ·
    have h1 := dT h1
    have hc := hTV.2 h1
    refine cx_seq ?_
    refine cx_ops ?_
    refine ax_q (q_ldN rfl rfl rfl) ?_
    refine ax_q (q_fadr_ptr rfl) ?_
    refine ax_q (q_load1_ptr rfl rfl rfl) ?_
    first | refine ax_call rfl (vc_pure0 (c_columnOf  ?_) hP rfl rfl ?_) | refine ax_call rfl (vc_lend0 (c_columnOf  ?_) hP (by repeat (first | exact lal_id _ rfl | exact LAL.nil | refine LAL.cons ?_ ?_ | exact la_id _ rfl | exact LA.lend (lend_whole rfl (by first | (simp; done) | (rw [List.length_map]; rfl))) | refine LA.agg ?_ | refine LA.fn ?_ | refine LA.lend ?_ | exact Lend.d _ | exact Lend.zs _ | exact lend_whole rfl (by first | (simp; done) | (rw [List.length_map]; rfl)) | refine Lend.ptr rfl ?_ | refine Lend.fn ?_ | exact LendL.nil | refine LendL.cons ?_ ?_)) rfl rfl ?_)
    ·
     first | assumption | omega | (simp; done) | (simp; omega)
    refine ax_e (e_st rfl rfl rfl rfl rfl rfl rfl) ?_
    refine ax_q (q_mov rfl) ?_
    refine ax_nil ?_
    refine cx_keep rfl rfl ?_
    refine cx_ret (ret0 rfl rfl ?_)
    exact ⟨by rw [evalF_2 hj h0 h1]; rfl, rfl⟩
   ·
    have h1 := dF h1
    refine cx_skip ?_
    refine cx_keep rfl rfl ?_
    refine cx_seq ?_
    refine cx_ops ?_
    refine ax_q (q_ldN rfl rfl rfl) ?_
    refine ax_q (q_fadr_ptr rfl) ?_
    refine ax_q (q_load1_ptr rfl rfl rfl) ?_
    refine ax_q (q_ldN rfl rfl rfl) ?_
    obtain ⟨⟨hA0, hA1, hAt, hAs⟩, hB⟩ := T_kids hj ht h0 h1
    have hva := evalF_rv (r := w) hr (f := f) hA0 (by omega) (by omega) hAt
    first | refine ax_call rfl (vc_pure0 (ih (i := e.Nodes[j].A) ?_ ?_ ?_ ?_) hP rfl rfl ?_) | refine ax_call rfl (vc_lend0 (ih (i := e.Nodes[j].A) ?_ ?_ ?_ ?_) hP (by repeat (first | exact lal_id _ rfl | exact LAL.nil | refine LAL.cons ?_ ?_ | exact la_id _ rfl | exact LA.lend (lend_whole rfl (by first | (simp; done) | (rw [List.length_map]; rfl))) | refine LA.agg ?_ | refine LA.fn ?_ | refine LA.lend ?_ | exact Lend.d _ | exact Lend.zs _ | exact lend_whole rfl (by first | (simp; done) | (rw [List.length_map]; rfl)) | refine Lend.ptr rfl ?_ | refine Lend.fn ?_ | exact LendL.nil | refine LendL.cons ?_ ?_)) rfl rfl ?_)
    ·
     first | assumption | omega | (simp; done) | (simp; omega)
    ·
     first | assumption | omega | (simp; done) | (simp; omega)
    ·
     first | assumption | omega | (simp; done) | (simp; omega)
    ·
     first | assumption | omega | (simp; done) | (simp; omega)
    refine ax_q (q_mov rfl) ?_
    refine ax_q (q_ext rfl rfl) ?_
    refine ax_q (q_ext rfl rfl) ?_
    refine ax_e (e_alloc (by decide) rfl rfl) ?_
    refine ax_e (e_st rfl rfl rfl rfl rfl rfl rfl) ?_
    refine ax_q (q_mov rfl) ?_
    refine ax_nil ?_
    refine cx_keep rfl rfl ?_
    refine cx_seq ?_
    refine cx_block ?_
    refine cx_seq ?_
    refine cx_ops ?_
    refine ax_q (q_mov rfl) ?_
    refine ax_q (q_ibin rfl rfl rfl) ?_
    refine ax_q (q_mov rfl) ?_
    refine ax_nil ?_
    refine cx_keep rfl rfl ?_
    refine cx_cond rfl (fun h2 => ?_) (fun h2 => ?_)
    ·
     have h2 := nT h2
     refine cx_seq ?_
     refine cx_ops ?_
     refine ax_q (q_build rfl) ?_
     refine ax_q (q_mov rfl) ?_
     refine ax_e (e_st rfl rfl rfl rfl rfl rfl rfl) ?_
     refine ax_q (q_mov rfl) ?_
     refine ax_nil ?_
     refine cx_keep rfl rfl ?_
     refine cx_ret (ret0 rfl rfl ?_)
     exact ⟨by rw [evalF_3 hj h0 h1 h2]; rfl, rfl⟩
    ·
     have h2 := nF h2
     refine cx_seq ?_
     refine cx_ops ?_
     refine ax_q (q_fadr_ptr rfl) ?_
     refine ax_q (q_load1_ptr rfl rfl rfl) ?_
     first | refine ax_call rfl (vc_pure0 (c_isUnary  ) hP rfl rfl ?_) | refine ax_call rfl (vc_lend0 (c_isUnary  ) hP (by repeat (first | exact lal_id _ rfl | exact LAL.nil | refine LAL.cons ?_ ?_ | exact la_id _ rfl | exact LA.lend (lend_whole rfl (by first | (simp; done) | (rw [List.length_map]; rfl))) | refine LA.agg ?_ | refine LA.fn ?_ | refine LA.lend ?_ | exact Lend.d _ | exact Lend.zs _ | exact lend_whole rfl (by first | (simp; done) | (rw [List.length_map]; rfl)) | refine Lend.ptr rfl ?_ | refine Lend.fn ?_ | exact LendL.nil | refine LendL.cons ?_ ?_)) rfl rfl ?_)
     refine ax_q (q_mov rfl) ?_
     refine ax_nil ?_
     refine cx_keep rfl rfl ?_
     refine cx_cond rfl (fun h3 => ?_) (fun h3 => ?_)
     ·
      skip
      have h3 : e.Nodes[j].Op ≤ 5 := (inR_iff.1 h3).2
      refine cx_seq ?_
      refine cx_ops ?_
      refine ax_q (q_fadr_ptr rfl) ?_
      refine ax_q (q_load1_ptr rfl rfl rfl) ?_
      refine ax_q (q_ldN rfl rfl rfl) ?_
      first | refine ax_call rfl (vc_pure0 (c_unary (a := (evalF e.Nodes w f e.Nodes[j].A).1) ?_) hP rfl rfl ?_) | refine ax_call rfl (vc_lend0 (c_unary (a := (evalF e.Nodes w f e.Nodes[j].A).1) ?_) hP (by repeat (first | exact lal_id _ rfl | exact LAL.nil | refine LAL.cons ?_ ?_ | exact la_id _ rfl | exact LA.lend (lend_whole rfl (by first | (simp; done) | (rw [List.length_map]; rfl))) | refine LA.agg ?_ | refine LA.fn ?_ | refine LA.lend ?_ | exact Lend.d _ | exact Lend.zs _ | exact lend_whole rfl (by first | (simp; done) | (rw [List.length_map]; rfl)) | refine Lend.ptr rfl ?_ | refine Lend.fn ?_ | exact LendL.nil | refine LendL.cons ?_ ?_)) rfl rfl ?_)
      ·
       first | assumption | omega | (simp; done) | (simp; omega)
      refine ax_q (q_ext rfl rfl) ?_
      refine ax_q (q_ext rfl rfl) ?_
      refine ax_e (e_st rfl rfl rfl rfl rfl rfl rfl) ?_
      refine ax_q (q_mov rfl) ?_
      refine ax_nil ?_
      refine cx_keep rfl rfl ?_
      refine cx_ret (ret0 rfl rfl ?_)
      exact ⟨by rw [evalF_4 hj h0 h1 h2 h3]; rfl, rfl⟩
     ·
      skip
      have h3 : ¬ e.Nodes[j].Op ≤ 5 := fun hh => by have := ((T_un hj ht h0 h1).1 hh).1; rw [h3] at this; cases this
      refine cx_seq ?_
      refine cx_ops ?_
      refine ax_q (q_fadr_ptr rfl) ?_
      refine ax_q (q_load1_ptr rfl rfl rfl) ?_
      refine ax_q (q_ibin rfl rfl rfl) ?_
      refine ax_q (q_mov rfl) ?_
      apply ax_and rfl rfl
      ·
       intro g
       have g := dT g
       refine ax_q (q_ldN rfl rfl rfl) ?_
       first | refine ax_call rfl (vc_pure0 (c_isZero (v := (evalF e.Nodes w f e.Nodes[j].A).1) ?_) hP rfl rfl ?_) | refine ax_call rfl (vc_lend0 (c_isZero (v := (evalF e.Nodes w f e.Nodes[j].A).1) ?_) hP (by repeat (first | exact lal_id _ rfl | exact LAL.nil | refine LAL.cons ?_ ?_ | exact la_id _ rfl | exact LA.lend (lend_whole rfl (by first | (simp; done) | (rw [List.length_map]; rfl))) | refine LA.agg ?_ | refine LA.fn ?_ | refine LA.lend ?_ | exact Lend.d _ | exact Lend.zs _ | exact lend_whole rfl (by first | (simp; done) | (rw [List.length_map]; rfl)) | refine Lend.ptr rfl ?_ | refine Lend.fn ?_ | exact LendL.nil | refine LendL.cons ?_ ?_)) rfl rfl ?_)
       ·
        first | assumption | omega | (simp; done) | (simp; omega)
       exact ax_nil ⟨rfl, by repeat (first | exact trivial | refine ⟨rfl, ?_⟩ | refine ⟨?_, ?_⟩)⟩
      refine ax_q (q_mov rfl) ?_
      refine ax_nil ?_
      refine cx_keep rfl rfl ?_
      refine cx_cond rfl (fun h4 => ?_) (fun h4 => ?_)
      ·
       have h4 := (fun h => And.intro (dT (and_T h).1) (id (and_T h).2)) h4
       refine cx_seq ?_
       refine cx_ops ?_
       first | refine ax_call rfl (vc_pure0 (c_truth  ) hP rfl rfl ?_) | refine ax_call rfl (vc_lend0 (c_truth  ) hP (by repeat (first | exact lal_id _ rfl | exact LAL.nil | refine LAL.cons ?_ ?_ | exact la_id _ rfl | exact LA.lend (lend_whole rfl (by first | (simp; done) | (rw [List.length_map]; rfl))) | refine LA.agg ?_ | refine LA.fn ?_ | refine LA.lend ?_ | exact Lend.d _ | exact Lend.zs _ | exact lend_whole rfl (by first | (simp; done) | (rw [List.length_map]; rfl)) | refine Lend.ptr rfl ?_ | refine Lend.fn ?_ | exact LendL.nil | refine LendL.cons ?_ ?_)) rfl rfl ?_)
       refine ax_e (e_st rfl rfl rfl rfl rfl rfl rfl) ?_
       refine ax_q (q_mov rfl) ?_
       refine ax_nil ?_
       refine cx_keep rfl rfl ?_
       refine cx_ret (ret0 rfl rfl ?_)
       exact ⟨by rw [evalF_r hj h0 h1 h2 h3, if_pos h4]; rfl, rfl⟩
      ·
       have h4 := (fun h => (and_F h).imp dF id) h4
       refine cx_seq ?_
       refine cx_ops ?_
       refine ax_q (q_fadr_ptr rfl) ?_
       refine ax_q (q_load1_ptr rfl rfl rfl) ?_
       refine ax_q (q_ibin rfl rfl rfl) ?_
       refine ax_q (q_mov rfl) ?_
       apply ax_and rfl rfl
       ·
        intro g
        have g := dT g
        refine ax_q (q_ldN rfl rfl rfl) ?_
        first | refine ax_call rfl (vc_pure0 (c_isOther (v := (evalF e.Nodes w f e.Nodes[j].A).1) ) hP rfl rfl ?_) | refine ax_call rfl (vc_lend0 (c_isOther (v := (evalF e.Nodes w f e.Nodes[j].A).1) ) hP (by repeat (first | exact lal_id _ rfl | exact LAL.nil | refine LAL.cons ?_ ?_ | exact la_id _ rfl | exact LA.lend (lend_whole rfl (by first | (simp; done) | (rw [List.length_map]; rfl))) | refine LA.agg ?_ | refine LA.fn ?_ | refine LA.lend ?_ | exact Lend.d _ | exact Lend.zs _ | exact lend_whole rfl (by first | (simp; done) | (rw [List.length_map]; rfl)) | refine Lend.ptr rfl ?_ | refine Lend.fn ?_ | exact LendL.nil | refine LendL.cons ?_ ?_)) rfl rfl ?_)
        exact ax_nil ⟨rfl, by repeat (first | exact trivial | refine ⟨rfl, ?_⟩ | refine ⟨?_, ?_⟩)⟩
       refine ax_q (q_mov rfl) ?_
       refine ax_nil ?_
       refine cx_keep rfl rfl ?_
       refine cx_cond rfl (fun h5 => ?_) (fun h5 => ?_)
       ·
        have h5 := (fun h => And.intro (dT (and_T h).1) (id (and_T h).2)) h5
        refine cx_seq ?_
        refine cx_ops ?_
        first | refine ax_call rfl (vc_pure0 (c_truth  ) hP rfl rfl ?_) | refine ax_call rfl (vc_lend0 (c_truth  ) hP (by repeat (first | exact lal_id _ rfl | exact LAL.nil | refine LAL.cons ?_ ?_ | exact la_id _ rfl | exact LA.lend (lend_whole rfl (by first | (simp; done) | (rw [List.length_map]; rfl))) | refine LA.agg ?_ | refine LA.fn ?_ | refine LA.lend ?_ | exact Lend.d _ | exact Lend.zs _ | exact lend_whole rfl (by first | (simp; done) | (rw [List.length_map]; rfl)) | refine Lend.ptr rfl ?_ | refine Lend.fn ?_ | exact LendL.nil | refine LendL.cons ?_ ?_)) rfl rfl ?_)
        refine ax_e (e_st rfl rfl rfl rfl rfl rfl rfl) ?_
        refine ax_q (q_mov rfl) ?_
        refine ax_nil ?_
        refine cx_keep rfl rfl ?_
        refine cx_ret (ret0 rfl rfl ?_)
        exact ⟨by rw [evalF_r hj h0 h1 h2 h3, if_neg (nAO h4), if_pos h5]; rfl, rfl⟩
       ·
        have h5 := (fun h => (and_F h).imp dF id) h5
        refine cx_skip ?_
        refine cx_keep rfl rfl ?_
        refine cx_seq ?_
        refine cx_ops ?_
        refine ax_q (q_ldN rfl rfl rfl) ?_
        refine ax_q (q_fadr_ptr rfl) ?_
        refine ax_q (q_load1_ptr rfl rfl rfl) ?_
        refine ax_q (q_ldN rfl rfl rfl) ?_
        obtain ⟨hB0, hB1, hBt, hBs⟩ := hB h3
        have hvb := evalF_rv (r := w) hr (f := f) hB0 (by omega) (by omega) hBt
        first | refine ax_call rfl (vc_pure0 (ih (i := e.Nodes[j].B) ?_ ?_ ?_ ?_) hP rfl rfl ?_) | refine ax_call rfl (vc_lend0 (ih (i := e.Nodes[j].B) ?_ ?_ ?_ ?_) hP (by repeat (first | exact lal_id _ rfl | exact LAL.nil | refine LAL.cons ?_ ?_ | exact la_id _ rfl | exact LA.lend (lend_whole rfl (by first | (simp; done) | (rw [List.length_map]; rfl))) | refine LA.agg ?_ | refine LA.fn ?_ | refine LA.lend ?_ | exact Lend.d _ | exact Lend.zs _ | exact lend_whole rfl (by first | (simp; done) | (rw [List.length_map]; rfl)) | refine Lend.ptr rfl ?_ | refine Lend.fn ?_ | exact LendL.nil | refine LendL.cons ?_ ?_)) rfl rfl ?_)
        ·
         first | assumption | omega | (simp; done) | (simp; omega)
        ·
         first | assumption | omega | (simp; done) | (simp; omega)
        ·
         first | assumption | omega | (simp; done) | (simp; omega)
        ·
         first | assumption | omega | (simp; done) | (simp; omega)
        refine ax_q (q_mov rfl) ?_
        refine ax_q (q_ext rfl rfl) ?_
        refine ax_q (q_ext rfl rfl) ?_
        refine ax_e (e_alloc (by decide) rfl rfl) ?_
        refine ax_e (e_st rfl rfl rfl rfl rfl rfl rfl) ?_
        refine ax_q (q_mov rfl) ?_
        refine ax_nil ?_
        refine cx_keep rfl rfl ?_
        refine cx_seq ?_
        refine cx_seq ?_
        refine cx_ops ?_
        refine ax_q (q_mov rfl) ?_
        refine ax_q (q_ibin rfl rfl rfl) ?_
        refine ax_nil ?_
        refine cx_keep rfl rfl ?_
        refine cx_cond rfl (fun h6 => ?_) (fun h6 => ?_)
        ·
         have h6 := nT h6
         refine cx_seq ?_
         refine cx_ops ?_
         refine ax_q (q_build rfl) ?_
         refine ax_q (q_mov rfl) ?_
         refine ax_e (e_st rfl rfl rfl rfl rfl rfl rfl) ?_
         refine ax_q (q_mov rfl) ?_
         refine ax_nil ?_
         refine cx_keep rfl rfl ?_
         refine cx_ret (ret0 rfl rfl ?_)
         exact ⟨by rw [evalF_r hj h0 h1 h2 h3, if_neg (nAO h4), if_neg (nAO h5), if_pos h6]; rfl, rfl⟩
        ·
         have h6 := nF h6
         refine cx_skip ?_
         refine cx_keep rfl rfl ?_
         refine cx_seq ?_
         refine cx_ops ?_
         refine ax_q (q_fadr_ptr rfl) ?_
         refine ax_q (q_load1_ptr rfl rfl rfl) ?_
         refine ax_q (q_ldN rfl rfl rfl) ?_
         refine ax_q (q_ldN rfl rfl rfl) ?_
         first | refine ax_call rfl (vc_pure0 (c_binary (a := (evalF e.Nodes w f e.Nodes[j].A).1) (b := (evalF e.Nodes w f e.Nodes[j].B).1) ?_ ?_) hP rfl rfl ?_) | refine ax_call rfl (vc_lend0 (c_binary (a := (evalF e.Nodes w f e.Nodes[j].A).1) (b := (evalF e.Nodes w f e.Nodes[j].B).1) ?_ ?_) hP (by repeat (first | exact lal_id _ rfl | exact LAL.nil | refine LAL.cons ?_ ?_ | exact la_id _ rfl | exact LA.lend (lend_whole rfl (by first | (simp; done) | (rw [List.length_map]; rfl))) | refine LA.agg ?_ | refine LA.fn ?_ | refine LA.lend ?_ | exact Lend.d _ | exact Lend.zs _ | exact lend_whole rfl (by first | (simp; done) | (rw [List.length_map]; rfl)) | refine Lend.ptr rfl ?_ | refine Lend.fn ?_ | exact LendL.nil | refine LendL.cons ?_ ?_)) rfl rfl ?_)
         ·
          first | assumption | omega | (simp; done) | (simp; omega)
         ·
          first | assumption | omega | (simp; done) | (simp; omega)
         refine ax_q (q_ext rfl rfl) ?_
         refine ax_q (q_ext rfl rfl) ?_
         refine ax_e (e_st rfl rfl rfl rfl rfl rfl rfl) ?_
         refine ax_q (q_mov rfl) ?_
         refine ax_nil ?_
         refine cx_keep rfl rfl ?_
         refine cx_ret (ret0 rfl rfl ?_)
         exact ⟨by rw [evalF_r hj h0 h1 h2 h3, if_neg (nAO h4), if_neg (nAO h5), if_neg (by omega)]; rfl, rfl⟩


/- loop.example/g00332/impl.evalExpr -/
def k_c_evalExpr : XCode :=
 .seq (.ops [.op (some 2) (.box (.t 0)),
   .op (some 3) (.box (.t 1)),
   .op (some 4) (.alloc [.int .i64 0, .int .i64 0, .str []]),
   .op (some 5) (.mov (.k (.int .i64 0)))])
 (.keep [2, 3, 4] (.seq (.ops [.op (some 6) (.loadN 1 (.t 2)),
   .op (some 7) (.fadr (.t 2) 0),
   .op (some 8) (.load1 (.t 7)),
   .op (some 9) (.lenS (.t 8)),
   .op (some 10) (.bin .sub (.t 9) (.k (.int .i64 1))),
   .op (some 11) (.loadN 7 (.t 3)),
   .call (some 12) 88 [.t 6, .t 10, .t 11],
   .op (some 13) (.ext (.t 12) 0),
   .op (some 14) (.ext (.t 12) 1),
   .op none (.store 3 (.t 4) (.t 13)),
   .op (some 5) (.mov (.t 14))])
 (.keep [4, 5] (.ret))))
theorem k_c_evalExpr_fits : fitsF Try.prog 66 ⟨15, k_c_evalExpr, [.cN 4 3, .t 5]⟩ = true := by kernel_rfl
theorem c_evalExpr {e : GExpr} {w : GRow} (he : exprOK e = true) (hr : RR w) (hw : e.Nodes.length ≤ 1048576) : Con Try.prog noMv 66 [e.av, w.av] [] (fun r h => r = .tup [(evalF e.Nodes w (e.Nodes.length + 1) ((e.Nodes.length : Int) - 1)).1.av, int (evalF e.Nodes w (e.Nodes.length + 1) ((e.Nodes.length : Int) - 1)).2] ∧ h = []) := by
 refine con_of2 k_c_evalExpr_fits rfl fun C hP hmv => ?_
 unfold k_c_evalExpr
 refine cx_seq ?_
 refine cx_ops ?_
 refine ax_e (e_box rfl rfl (by decide) rfl rfl rfl) ?_
 refine ax_e (e_box rfl rfl (by decide) rfl rfl rfl) ?_
 refine ax_e (e_alloc (by decide) rfl rfl) ?_
 refine ax_q (q_mov rfl) ?_
 refine ax_nil ?_
 refine cx_keep rfl rfl ?_
 refine cx_seq ?_
 refine cx_ops ?_
 refine ax_q (q_ldN rfl rfl rfl) ?_
 refine ax_q (q_fadr_ptr rfl) ?_
 refine ax_q (q_load1_ptr rfl rfl rfl) ?_
 first | refine ax_q (q_lenS_map rfl) ?_ | refine ax_q (q_lenS_osl rfl) ?_ | refine ax_q (q_lenS_zs rfl) ?_ | refine ax_q (q_lenS rfl) ?_
 refine ax_q (q_sub rfl rfl (by omega)) ?_
 refine ax_q (q_ldN rfl rfl rfl) ?_
 obtain ⟨hz0, hz1, hz2, hz3, _⟩ := comp_hyps he
 first | refine ax_call rfl (vc_pure0 (c_eval (f := e.Nodes.length + 1) ?_ ?_ ?_ ?_ ?_ ?_) hP rfl rfl ?_) | refine ax_call rfl (vc_lend0 (c_eval (f := e.Nodes.length + 1) ?_ ?_ ?_ ?_ ?_ ?_) hP (by repeat (first | exact lal_id _ rfl | exact LAL.nil | refine LAL.cons ?_ ?_ | exact la_id _ rfl | exact LA.lend (lend_whole rfl (by first | (simp; done) | (rw [List.length_map]; rfl))) | refine LA.agg ?_ | refine LA.fn ?_ | refine LA.lend ?_ | exact Lend.d _ | exact Lend.zs _ | exact lend_whole rfl (by first | (simp; done) | (rw [List.length_map]; rfl)) | refine Lend.ptr rfl ?_ | refine Lend.fn ?_ | exact LendL.nil | refine LendL.cons ?_ ?_)) rfl rfl ?_)
 ·
  first | assumption | omega | (simp; done) | (simp; omega)
 ·
  first | assumption | omega | (simp; done) | (simp; omega)
 ·
  first | assumption | omega | (simp; done) | (simp; omega)
 ·
  first | assumption | omega | (simp; done) | (simp; omega)
 ·
  first | assumption | omega | (simp; done) | (simp; omega)
 ·
  first | assumption | omega | (simp; done) | (simp; omega)
 refine ax_q (q_ext rfl rfl) ?_
 refine ax_q (q_ext rfl rfl) ?_
 refine ax_e (e_st rfl rfl rfl rfl rfl rfl rfl) ?_
 refine ax_q (q_mov rfl) ?_
 refine ax_nil ?_
 refine cx_keep rfl rfl ?_
 refine cx_ret (ret0 rfl rfl ?_)
 exact ⟨rfl, rfl⟩


/- loop.example/g00332/impl.EvalExpr -/
def k_c_EvalExpr : XCode :=
 .seq (.ops [.op (some 2) (.box (.t 0)),
   .op (some 3) (.box (.t 1)),
   .op (some 4) (.alloc [.int .i64 0, .int .i64 0, .str []]),
   .op (some 5) (.mov (.k (.int .i64 0)))])
 (.keep [2, 3, 4] (.seq (.seq (.ops [.op (some 6) (.loadN 1 (.t 2)),
   .call (some 7) 50 [.t 6],
   .op (some 8) (.not (.t 7)),
   .op (some 9) (.mov (.t 8)),
   .andor 13 false 3 9 [.op (some 10) (.loadN 7 (.t 3)), .call (some 11) 53 [.t 10], .op (some 12) (.not (.t 11))] (.t 12)])
  (.keep [2, 3, 4, 13] (.cond (.t 13)
  (.seq (.ops [.op (some 14) (.build [.int .i64 0, .int .i64 0, .str []] []),
    .op none (.store 3 (.t 4) (.t 14)),
    .op (some 5) (.mov (.k (.int .i64 1)))])
   (.keep [4, 5] (.ret)))
  (.skip))))
 (.keep [2, 3, 4] (.seq (.ops [.op (some 15) (.loadN 1 (.t 2)),
   .op (some 16) (.loadN 7 (.t 3)),
   .call (some 17) 66 [.t 15, .t 16],
   .op (some 18) (.ext (.t 17) 0),
   .op (some 19) (.ext (.t 17) 1),
   .op none (.store 3 (.t 4) (.t 18)),
   .op (some 5) (.mov (.t 19))])
 (.keep [4, 5] (.ret))))))
theorem k_c_EvalExpr_fits : fitsF Try.prog 33 ⟨20, k_c_EvalExpr, [.cN 4 3, .t 5]⟩ = true := by kernel_rfl
theorem c_EvalExpr {e : GExpr} {w : GRow} (hw : e.Nodes.length ≤ 1048576) (hv : ∀ x ∈ e.Nodes, x.V.T.length ≤ 1048576) (hr1 : w.N.T.length ≤ 1048576) (hr2 : w.Name.T.length ≤ 1048576) : Con Try.prog noMv 33 [e.av, w.av] [] (fun r h => r = .tup [(evF e w).1.av, int (evF e w).2] ∧ h = []) := by
 refine con_of2 k_c_EvalExpr_fits rfl fun C hP hmv => ?_
 unfold k_c_EvalExpr
 refine cx_seq ?_
 refine cx_ops ?_
 refine ax_e (e_box rfl rfl (by decide) rfl rfl rfl) ?_
 refine ax_e (e_box rfl rfl (by decide) rfl rfl rfl) ?_
 refine ax_e (e_alloc (by decide) rfl rfl) ?_
 refine ax_q (q_mov rfl) ?_
 refine ax_nil ?_
 refine cx_keep rfl rfl ?_
 refine cx_seq ?_
 refine cx_seq ?_
 refine cx_ops ?_
 refine ax_q (q_ldN rfl rfl rfl) ?_
 first | refine ax_call rfl (vc_pure0 (c_ExprOK (e := e) ?_ ?_) hP rfl rfl ?_) | refine ax_call rfl (vc_lend0 (c_ExprOK (e := e) ?_ ?_) hP (by repeat (first | exact lal_id _ rfl | exact LAL.nil | refine LAL.cons ?_ ?_ | exact la_id _ rfl | exact LA.lend (lend_whole rfl (by first | (simp; done) | (rw [List.length_map]; rfl))) | refine LA.agg ?_ | refine LA.fn ?_ | refine LA.lend ?_ | exact Lend.d _ | exact Lend.zs _ | exact lend_whole rfl (by first | (simp; done) | (rw [List.length_map]; rfl)) | refine Lend.ptr rfl ?_ | refine Lend.fn ?_ | exact LendL.nil | refine LendL.cons ?_ ?_)) rfl rfl ?_)
 ·
  first | assumption | omega | (simp; done) | (simp; omega)
 ·
  first | assumption | omega | (simp; done) | (simp; omega)
 refine ax_q (q_not rfl) ?_
 refine ax_q (q_mov rfl) ?_
 apply ax_or rfl rfl
 ·
  intro g
  have g := bF g
  refine ax_q (q_ldN rfl rfl rfl) ?_
  first | refine ax_call rfl (vc_pure0 (c_rowOK (a := w) ?_ ?_) hP rfl rfl ?_) | refine ax_call rfl (vc_lend0 (c_rowOK (a := w) ?_ ?_) hP (by repeat (first | exact lal_id _ rfl | exact LAL.nil | refine LAL.cons ?_ ?_ | exact la_id _ rfl | exact LA.lend (lend_whole rfl (by first | (simp; done) | (rw [List.length_map]; rfl))) | refine LA.agg ?_ | refine LA.fn ?_ | refine LA.lend ?_ | exact Lend.d _ | exact Lend.zs _ | exact lend_whole rfl (by first | (simp; done) | (rw [List.length_map]; rfl)) | refine Lend.ptr rfl ?_ | refine Lend.fn ?_ | exact LendL.nil | refine LendL.cons ?_ ?_)) rfl rfl ?_)
  ·
   first | assumption | omega | (simp; done) | (simp; omega)
  ·
   first | assumption | omega | (simp; done) | (simp; omega)
  refine ax_q (q_not rfl) ?_
  exact ax_nil ⟨rfl, by repeat (first | exact trivial | refine ⟨rfl, ?_⟩ | refine ⟨?_, ?_⟩)⟩
 refine ax_nil ?_
 refine cx_keep rfl rfl ?_
 refine cx_cond rfl (fun h0 => ?_) (fun h0 => ?_)
 ·
  have h0 := (fun h => (or_T h).imp bT bT) h0
  refine cx_seq ?_
  refine cx_ops ?_
  refine ax_q (q_build rfl) ?_
  refine ax_e (e_st rfl rfl rfl rfl rfl rfl rfl) ?_
  refine ax_q (q_mov rfl) ?_
  refine ax_nil ?_
  refine cx_keep rfl rfl ?_
  refine cx_ret (ret0 rfl rfl ?_)
  exact ⟨by rw [evF_0 h0]; rfl, rfl⟩
 ·
  have h0 := (fun h => And.intro (bF (or_F h).1) (bF (or_F h).2)) h0
  have hrr := RR.of h0.2
  refine cx_skip ?_
  refine cx_keep rfl rfl ?_
  refine cx_seq ?_
  refine cx_ops ?_
  refine ax_q (q_ldN rfl rfl rfl) ?_
  refine ax_q (q_ldN rfl rfl rfl) ?_
  first | refine ax_call rfl (vc_pure0 (c_evalExpr (e := e) (w := w) ?_ ?_ ?_) hP rfl rfl ?_) | refine ax_call rfl (vc_lend0 (c_evalExpr (e := e) (w := w) ?_ ?_ ?_) hP (by repeat (first | exact lal_id _ rfl | exact LAL.nil | refine LAL.cons ?_ ?_ | exact la_id _ rfl | exact LA.lend (lend_whole rfl (by first | (simp; done) | (rw [List.length_map]; rfl))) | refine LA.agg ?_ | refine LA.fn ?_ | refine LA.lend ?_ | exact Lend.d _ | exact Lend.zs _ | exact lend_whole rfl (by first | (simp; done) | (rw [List.length_map]; rfl)) | refine Lend.ptr rfl ?_ | refine Lend.fn ?_ | exact LendL.nil | refine LendL.cons ?_ ?_)) rfl rfl ?_)
  ·
   exact h0.1
  ·
   first | assumption | omega | (simp; done) | (simp; omega)
  ·
   first | assumption | omega | (simp; done) | (simp; omega)
  refine ax_q (q_ext rfl rfl) ?_
  refine ax_q (q_ext rfl rfl) ?_
  refine ax_e (e_st rfl rfl rfl rfl rfl rfl rfl) ?_
  refine ax_q (q_mov rfl) ?_
  refine ax_nil ?_
  refine cx_keep rfl rfl ?_
  refine cx_ret (ret0 rfl rfl ?_)
  exact ⟨by rw [evF_1 h0.1 h0.2]; rfl, rfl⟩


/- loop.example/g00332/impl.runCode -/
def k_c_runCode : XCode :=
 .seq (.ops [.op (some 3) (.box (.t 1)),
   .op (some 4) (.alloc [.int .i64 0, .int .i64 0, .str []]),
   .op (some 5) (.mov (.k (.int .i64 0)))])
 (.keep [0, 3, 4] (.seq (.ops [.op (some 11) (.bslice 3 []),
   .op (some 6) (.mov (.t 11))])
 (.keep [0, 3, 4, 6] (.seq (.seq (.ops [.op (some 7) (.mov (.k (.int .i64 0)))])
  (.keep [0, 3, 4, 6, 7] (.block 0 (.loop (.seq (.seq (.ops [.op (some 12) (.mov (.t 7)),
     .op (some 13) (.mov (.t 0)),
     .op (some 14) (.lenS (.t 13)),
     .op (some 15) (.bin .lss (.t 12) (.t 14))])
   (.keep [0, 3, 4, 6, 7, 15] (.cond (.t 15)
    (.skip)
    (.exit 0))))
   (.keep [0, 3, 4, 6, 7] (.seq (.block 1 (.seq (.ops [.op (some 18) (.mov (.t 0)),
     .op (some 19) (.mov (.t 7)),
     .op (some 20) (.iadr 5 (.t 18) (.t 19)),
     .op (some 21) (.loadN 5 (.t 20)),
     .op (some 22) (.mov (.t 6)),
     .op (some 23) (.lenS (.t 22)),
     .op (some 24) (.bin .sub (.t 23) (.k (.int .i64 1))),
     .op (some 8) (.alloc [.int .i64 0, .int .i64 0, .int .i64 0, .int .i64 0, .str []]),
     .op none (.store 5 (.t 8) (.t 21)),
     .op (some 9) (.mov (.t 24))])
    (.keep [0, 3, 4, 6, 7, 8, 9] (.seq (.ops [.op (some 10) (.mov (.k (.int .i64 0)))])
    (.keep [0, 3, 4, 6, 7, 8, 9, 10] (.seq (.seq (.ops [.op (some 25) (.fadr (.t 8) 0),
      .op (some 26) (.load1 (.t 25))])
    (.keep [0, 3, 4, 6, 7, 8, 9, 10, 26] (.block 2 (.seq (.ops [.op (some 28) (.bin .eql (.t 26) (.k (.int .i64 1))),
      .op (some 27) (.mov (.t 28))])
     (.keep [0, 3, 4, 6, 7, 8, 9, 10, 26, 27] (.cond (.t 27)
     (.ops [.op (some 29) (.mov (.t 6)),
       .op (some 30) (.fadr (.t 8) 2),
       .op (some 31) (.loadN 3 (.t 30)),
       .op (some 32) (.bslice 3 [.t 31]),
       .op (some 33) (.app 3 32 [.int .i64 0, .int .i64 0, .str []] (.t 29) (.t 32)),
       .op (some 6) (.mov (.t 33))])
     (.seq (.ops [.op (some 35) (.bin .eql (.t 26) (.k (.int .i64 2))),
       .op (some 34) (.mov (.t 35))])
      (.keep [0, 3, 4, 6, 7, 8, 9, 10, 26, 34] (.cond (.t 34)
      (.ops [.op (some 36) (.mov (.t 6)),
        .op (some 37) (.loadN 7 (.t 3)),
        .op (some 38) (.fadr (.t 8) 1),
        .op (some 39) (.load1 (.t 38)),
        .call (some 40) 89 [.t 37, .t 39],
        .op (some 41) (.bslice 3 [.t 40]),
        .op (some 42) (.app 3 32 [.int .i64 0, .int .i64 0, .str []] (.t 36) (.t 41)),
        .op (some 6) (.mov (.t 42))])
      (.seq (.ops [.op (some 44) (.bin .eql (.t 26) (.k (.int .i64 3))),
        .op (some 43) (.mov (.t 44))])
       (.keep [0, 3, 4, 6, 7, 8, 9, 10, 26, 43] (.cond (.t 43)
       (.drawE [[], [], [], [2], [], [], [4, 5], [4, 5, 6], [2, 3, 4, 5, 6, 7], [2, 3, 4, 5, 6, 7, 8], [2, 3, 4, 5, 6, 7, 8, 9], [2, 3, 4, 5, 6, 7, 8, 9], [0, 1, 2, 3, 4, 5, 6, 7, 8, 9, 10], [0, 1, 2, 3, 4, 5, 6, 7, 8, 9, 10, 12], [0, 1, 2, 3, 4, 5, 6, 7, 8, 9, 10, 11, 12, 13]] [.op (some 46) (.mov (.t 6)),
         .op (some 47) (.mov (.t 9)),
         .op (some 48) (.fadr (.t 8) 1),
         .op (some 49) (.load1 (.t 48)),
         .op (some 50) (.mov (.t 6)),
         .op (some 51) (.mov (.t 9)),
         .op (some 52) (.iadr 3 (.t 50) (.t 51)),
         .op (some 53) (.loadN 3 (.t 52)),
         .call (some 54) 90 [.t 49, .t 53],
         .op (some 45) (.mov (.t 54)),
         .op (some 55) (.ext (.t 45) 0),
         .op (some 56) (.ext (.t 45) 1),
         .op (some 57) (.iadr 3 (.t 46) (.t 47)),
         .op none (.store 3 (.t 57) (.t 55))]
        [.op (some 10) (.mov (.t 56))])
       (.seq (.ops [.op (some 59) (.bin .eql (.t 26) (.k (.int .i64 4))),
         .op (some 58) (.mov (.t 59))])
        (.keep [0, 3, 4, 6, 7, 8, 9, 10, 26, 58] (.cond (.t 58)
        (.seq (.drawE [[], [], [1], [], [3], [], [], [6], [5, 6, 7], [5, 6, 7, 8], [], [], [10, 11], [10, 11, 12], [3, 4, 5, 6, 7, 8, 9, 10, 11, 12, 13], [3, 4, 5, 6, 7, 8, 9, 10, 11, 12, 13, 14], [3, 4, 5, 6, 7, 8, 9, 10, 11, 12, 13, 14, 15], [3, 4, 5, 6, 7, 8, 9, 10, 11, 12, 13, 14, 15], [0, 1, 2, 3, 4, 5, 6, 7, 8, 9, 10, 11, 12, 13, 14, 15, 16], [0, 1, 2, 3, 4, 5, 6, 7, 8, 9, 10, 11, 12, 13, 14, 15, 16, 18], [0, 1, 2, 3, 4, 5, 6, 7, 8, 9, 10, 11, 12, 13, 14, 15, 16, 17, 18, 19]] [.op (some 61) (.mov (.t 6)),
          .op (some 62) (.mov (.t 9)),
          .op (some 63) (.bin .sub (.t 62) (.k (.int .i64 1))),
          .op (some 64) (.fadr (.t 8) 1),
          .op (some 65) (.load1 (.t 64)),
          .op (some 66) (.mov (.t 6)),
          .op (some 67) (.mov (.t 9)),
          .op (some 68) (.bin .sub (.t 67) (.k (.int .i64 1))),
          .op (some 69) (.iadr 3 (.t 66) (.t 68)),
          .op (some 70) (.loadN 3 (.t 69)),
          .op (some 71) (.mov (.t 6)),
          .op (some 72) (.mov (.t 9)),
          .op (some 73) (.iadr 3 (.t 71) (.t 72)),
          .op (some 74) (.loadN 3 (.t 73)),
          .call (some 75) 91 [.t 65, .t 70, .t 74],
          .op (some 60) (.mov (.t 75)),
          .op (some 76) (.ext (.t 60) 0),
          .op (some 77) (.ext (.t 60) 1),
          .op (some 78) (.iadr 3 (.t 61) (.t 63)),
          .op none (.store 3 (.t 78) (.t 76))]
          [.op (some 10) (.mov (.t 77))])
         (.keep [0, 3, 4, 6, 7, 9, 10] (.ops [.op (some 79) (.mov (.t 6)),
          .op (some 80) (.mov (.t 9)),
          .op (some 81) (.slc 3 (.t 79) none (some (.t 80)) none),
          .op (some 6) (.mov (.t 81))])))
        (.seq (.ops [.op (some 83) (.bin .eql (.t 26) (.k (.int .i64 5))),
          .op (some 82) (.mov (.t 83))])
         (.keep [0, 3, 4, 6, 7, 8, 9, 10, 26, 82] (.cond (.t 82)
         (.seq (.ops [.op (some 84) (.mov (.t 6)),
           .op (some 85) (.mov (.t 9)),
           .op (some 86) (.iadr 3 (.t 84) (.t 85)),
           .op (some 87) (.loadN 3 (.t 86)),
           .call (some 88) 92 [.t 87]])
          (.keep [0, 3, 4, 6, 7, 8, 10, 88] (.cond (.t 88)
          (.ops [.op (some 89) (.fadr (.t 8) 1),
            .op (some 90) (.load1 (.t 89)),
            .op (some 91) (.bin .sub (.t 90) (.k (.int .i64 1))),
            .op (some 7) (.mov (.t 91))])
          (.skip))))
         (.seq (.ops [.op (some 93) (.bin .eql (.t 26) (.k (.int .i64 6))),
           .op (some 92) (.mov (.t 93))])
          (.keep [0, 3, 4, 6, 7, 8, 9, 10, 92] (.cond (.t 92)
          (.seq (.ops [.op (some 94) (.mov (.t 6)),
            .op (some 95) (.mov (.t 9)),
            .op (some 96) (.iadr 3 (.t 94) (.t 95)),
            .op (some 97) (.loadN 3 (.t 96)),
            .call (some 98) 93 [.t 97]])
           (.keep [0, 3, 4, 6, 7, 8, 9, 10, 98] (.cond (.t 98)
           (.seq (.ops [.op (some 99) (.mov (.t 6)),
             .op (some 100) (.mov (.t 9)),
             .call (some 101) 94 [.k (.bool true)],
             .op (some 102) (.iadr 3 (.t 99) (.t 100)),
             .op none (.store 3 (.t 102) (.t 101))])
            (.keep [0, 3, 4, 6, 8, 10] (.ops [.op (some 103) (.fadr (.t 8) 1),
             .op (some 104) (.load1 (.t 103)),
             .op (some 105) (.bin .sub (.t 104) (.k (.int .i64 1))),
             .op (some 7) (.mov (.t 105))])))
           (.skip))))
          (.skip))))))))))))))))))))))
    (.keep [0, 3, 4, 6, 7, 10] (.seq (.ops [.op (some 106) (.mov (.t 10)),
     .op (some 107) (.bin .neq (.t 106) (.k (.int .i64 0)))])
    (.keep [0, 3, 4, 6, 7, 10, 107] (.cond (.t 107)
    (.seq (.ops [.op (some 108) (.build [.int .i64 0, .int .i64 0, .str []] []),
      .op (some 109) (.mov (.t 10)),
      .op none (.store 3 (.t 4) (.t 108)),
      .op (some 5) (.mov (.t 109))])
     (.keep [4, 5] (.ret)))
    (.skip)))))))))))
   (.keep [0, 3, 4, 6, 7] (.ops [.op (some 16) (.mov (.t 7)),
    .op (some 17) (.bin .add (.t 16) (.k (.int .i64 1))),
    .op (some 7) (.mov (.t 17))])))))))))
 (.keep [4, 6] (.seq (.ops [.op (some 110) (.mov (.t 6)),
   .op (some 111) (.iadr 3 (.t 110) (.k (.int .i64 0))),
   .op (some 112) (.loadN 3 (.t 111)),
   .op none (.store 3 (.t 4) (.t 112)),
   .op (some 5) (.mov (.k (.int .i64 0)))])
 (.keep [4, 5] (.ret))))))))
theorem k_c_runCode_fits : fitsF Try.prog 68 ⟨113, k_c_runCode, [.cN 4 3, .t 5]⟩ = true := by kernel_rfl
set_option maxHeartbeats 8000000 in
theorem c_runCode {l : List GIns} {w : GRow} (hc : codeOK l = true) (hw : RR w) : Con Try.prog noMv 68 [.d (.sl 5 (l.map GIns.row)), w.av] [] (fun r h => r = .tup [(runA l w 0 []).1.av, int (runA l w 0 []).2] ∧ h = []) := by
 refine con_of2 k_c_runCode_fits rfl fun C hP hmv => ?_
 unfold k_c_runCode
 obtain ⟨hl, ds, hr, hF, hd1, hd0, hok, hdl, hg⟩ := code_fit hc
 refine cx_seq ?_
 refine cx_ops ?_
 refine ax_e (e_box rfl rfl (by decide) rfl rfl rfl) ?_
 refine ax_e (e_alloc (by decide) rfl rfl) ?_
 refine ax_q (q_mov rfl) ?_
 refine ax_nil ?_
 refine cx_keep rfl rfl ?_
 refine cx_seq ?_
 refine cx_ops ?_
 refine ax_e (e_bslice rfl (by decide) rfl rfl) ?_
 refine ax_q (q_mov rfl) ?_
 refine ax_nil ?_
 refine cx_keep rfl rfl ?_
 refine cx_seq ?_
 refine cx_seq ?_
 refine cx_ops ?_
 refine ax_q (q_mov rfl) ?_
 refine ax_nil ?_
 refine cx_keep rfl rfl ?_
 refine cx_block ?_
 refine cx_loopU (fun n (p : Nat × List GValue × Nat) => p.1 ≤ l.length ∧ n = l.length - p.1 ∧ Stk ds p.1 p.2.1 ∧ runA l w 0 [] = runA l w p.1 p.2.1 ∧ p.2.2 = p.2.1.length) (fun p => [(7, int p.1), (6, .osl 11 3 0 p.2.2)]) (fun p => [(11, .rows 3 (p.2.1.map GValue.row)), (3, .box [.d (.int .i64 w.Id), .d (.int .i64 w.N.Kind), .d (.int .i64 w.N.N), .d (.str w.N.T), .d (.int .i64 w.Name.Kind), .d (.int .i64 w.Name.N), .d (.str w.Name.T)]), (4, .box [.d (.int .i64 0), .d (.int .i64 0), .d (.str [])])]) ⟨_, (0, [], 0), ⟨Nat.zero_le _, rfl, ⟨hd0.symm, fun v hv => by cases hv⟩, rfl, rfl⟩, by repeat (first | exact trivial | refine ⟨rfl, ?_⟩ | refine ⟨?_, ?_⟩)⟩ ?_
 rintro n ⟨k, S, m⟩ ⟨hk, rfl, hS, hrun, hm⟩
 simp only at hk hS hrun hm ⊢
 subst hm
 have hsl := hS.len
 have hdk := dB hg (k := k) (by omega)
 refine cx_seq ?_
 refine cx_seq ?_
 refine cx_ops ?_
 refine ax_q (q_mov rfl) ?_
 refine ax_q (q_mov rfl) ?_
 first | refine ax_q (q_lenS_map rfl) ?_ | refine ax_q (q_lenS_osl rfl) ?_ | refine ax_q (q_lenS_zs rfl) ?_ | refine ax_q (q_lenS rfl) ?_
 refine ax_q (q_ibin rfl rfl rfl) ?_
 refine ax_nil ?_
 refine cx_keep rfl rfl ?_
 refine cx_cond rfl (fun h0 => ?_) (fun h0 => ?_)
 ·
  have h0 := dT h0
  have h0x : k < l.length := by omega
  have hf := hF k h0x
  have hnn := hf.nn
  have hlow := hf.low
  have hins := ins_V hf.ok
  have hI := ins_low hf.ok
  refine cx_skip ?_
  refine cx_keep rfl rfl ?_
  refine cx_seq ?_
  refine cx_block ?_
  refine cx_seq ?_
  refine cx_ops ?_
  refine ax_q (q_mov rfl) ?_
  refine ax_q (q_mov rfl) ?_
  first | refine ax_q (q_ix rfl rfl (by assumption)) ?_ | refine ax_q (q_ix rfl rfl (mapAt (by first | assumption | omega))) ?_ | refine ax_q (q_ixo rfl rfl (by first | assumption | omega)) ?_ | refine ax_q (q_ixI rfl rfl (by omega) (mapAt (by first | assumption | omega))) ?_ | refine ax_q (q_ixoI rfl rfl (by omega) (by omega)) ?_
  first | refine ax_q (q_ldN rfl rfl rfl) ?_ | refine ax_q (q_loadN_ip rfl (Nat.le_refl _)) ?_ | refine ax_q (q_loadN_ip rfl (by decide)) ?_ | refine ax_q (q_loadN_rptr rfl rfl (by assumption) (by decide)) ?_ | refine ax_q (q_loadN_rptr rfl rfl (mapAt (by first | assumption | omega)) (by decide)) ?_
  refine ax_q (q_mov rfl) ?_
  first | refine ax_q (q_lenS_map rfl) ?_ | refine ax_q (q_lenS_osl rfl) ?_ | refine ax_q (q_lenS_zs rfl) ?_ | refine ax_q (q_lenS rfl) ?_
  refine ax_q (q_sub rfl rfl (by omega)) ?_
  refine ax_e (e_alloc (by decide) rfl rfl) ?_
  refine ax_e (e_st rfl rfl rfl rfl rfl rfl rfl) ?_
  refine ax_q (q_mov rfl) ?_
  refine ax_nil ?_
  refine cx_keep rfl rfl ?_
  refine cx_seq ?_
  refine cx_ops ?_
  refine ax_q (q_mov rfl) ?_
  refine ax_nil ?_
  refine cx_keep rfl rfl ?_
  refine cx_seq ?_
  refine cx_seq ?_
  refine cx_ops ?_
  refine ax_q (q_fadr_ptr rfl) ?_
  refine ax_q (q_load1_ptr rfl rfl rfl) ?_
  refine ax_nil ?_
  refine cx_keep rfl rfl ?_
  refine cx_block ?_
  refine cx_seq ?_
  refine cx_ops ?_
  refine ax_q (q_ibin rfl rfl rfl) ?_
  refine ax_q (q_mov rfl) ?_
  refine ax_nil ?_
  refine cx_keep rfl rfl ?_
  refine cx_cond rfl (fun h1 => ?_) (fun h1 => ?_)
  ·
   have h1 := dT h1
   refine cx_ops ?_
   refine ax_q (q_mov rfl) ?_
   refine ax_q (q_fadr_ptr rfl) ?_
   refine ax_q (q_ldN rfl rfl rfl) ?_
   refine ax_e (e_bslice rfl (by decide) rfl rfl) ?_
   refine ax_e (e_appn (n' := (S ++ [l[k].V]).length) (rs' := (S ++ [l[k].V]).map GValue.row) rfl rfl (by simp) rfl (src_osl rfl (by simp)) (.inl (by decide)) (hbnd (by omega) (by simp) (by decide)) (by simp) (app1 rfl)) ?_
   refine ax_q (q_mov rfl) ?_
   refine ax_nil ?_
   refine cx_keep rfl rfl ?_
   refine cx_seq ?_
   refine cx_ops ?_
   refine ax_q (q_mov rfl) ?_
   refine ax_q (q_ibin rfl rfl rfl) ?_
   refine ax_nil ?_
   refine cx_keep rfl rfl ?_
   refine cx_cond rfl (fun h9 => ?_) (fun h9 => ?_)
   ·
    have h9 := nT h9
    exact absurd rfl h9
   ·
    have h9 := nF h9
    refine cx_skip ?_
    refine cx_keep rfl rfl ?_
    refine cx_ops ?_
    refine ax_q (q_mov rfl) ?_
    refine ax_qe (r' := int ((k + 1 : Nat) : Int)) (q_ibin rfl rfl rfl) (by rw [wi (by omega) (by omega)]; rfl) ?_
    refine ax_q (q_mov rfl) ?_
    refine ax_nil ?_
    have hn : nxF l[k] w k S = .go (k + 1) (S ++ [l[k].V]) := nx_1 h1
    have hge := nx_ge (l := l) hf.ok h0x hn
    exact ⟨_, (k + 1, S ++ [l[k].V], (S ++ [l[k].V]).length), by simp only; omega, ⟨by simp only; omega, rfl, stk_next hf h0x hS hw hn, hrun.trans (runA_go hok h0x hn), rfl⟩, by repeat (first | exact trivial | refine ⟨rfl, ?_⟩ | refine ⟨?_, ?_⟩)⟩
  ·
   have h1 := dF h1
   refine cx_seq ?_
   refine cx_ops ?_
   refine ax_q (q_ibin rfl rfl rfl) ?_
   refine ax_q (q_mov rfl) ?_
   refine ax_nil ?_
   refine cx_keep rfl rfl ?_
   refine cx_cond rfl (fun h2 => ?_) (fun h2 => ?_)
   ·
    have h2 := dT h2
    have hcol := hins.2.1 h2
    refine cx_ops ?_
    refine ax_q (q_mov rfl) ?_
    refine ax_q (q_ldN rfl rfl rfl) ?_
    refine ax_q (q_fadr_ptr rfl) ?_
    refine ax_q (q_load1_ptr rfl rfl rfl) ?_
    first | refine ax_call rfl (vc_pure0 (c_columnOf (k := l[k].N) ?_) hP rfl rfl ?_) | refine ax_call rfl (vc_lend0 (c_columnOf (k := l[k].N) ?_) hP (by repeat (first | exact lal_id _ rfl | exact LAL.nil | refine LAL.cons ?_ ?_ | exact la_id _ rfl | exact LA.lend (lend_whole rfl (by first | (simp; done) | (rw [List.length_map]; rfl))) | refine LA.agg ?_ | refine LA.fn ?_ | refine LA.lend ?_ | exact Lend.d _ | exact Lend.zs _ | exact lend_whole rfl (by first | (simp; done) | (rw [List.length_map]; rfl)) | refine Lend.ptr rfl ?_ | refine Lend.fn ?_ | exact LendL.nil | refine LendL.cons ?_ ?_)) rfl rfl ?_)
    ·
     first | assumption | omega | (simp; done) | (simp; omega)
    refine ax_e (e_bslice rfl (by decide) rfl rfl) ?_
    refine ax_e (e_appn (n' := (S ++ [colF w l[k].N]).length) (rs' := (S ++ [colF w l[k].N]).map GValue.row) rfl rfl (by simp) rfl (src_osl rfl (by simp)) (.inl (by decide)) (hbnd (by omega) (by simp) (by decide)) (by simp) (app1 rfl)) ?_
    refine ax_q (q_mov rfl) ?_
    refine ax_nil ?_
    refine cx_keep rfl rfl ?_
    refine cx_seq ?_
    refine cx_ops ?_
    refine ax_q (q_mov rfl) ?_
    refine ax_q (q_ibin rfl rfl rfl) ?_
    refine ax_nil ?_
    refine cx_keep rfl rfl ?_
    refine cx_cond rfl (fun h9 => ?_) (fun h9 => ?_)
    ·
     have h9 := nT h9
     exact absurd rfl h9
    ·
     have h9 := nF h9
     refine cx_skip ?_
     refine cx_keep rfl rfl ?_
     refine cx_ops ?_
     refine ax_q (q_mov rfl) ?_
     refine ax_qe (r' := int ((k + 1 : Nat) : Int)) (q_ibin rfl rfl rfl) (by rw [wi (by omega) (by omega)]; rfl) ?_
     refine ax_q (q_mov rfl) ?_
     refine ax_nil ?_
     have hn : nxF l[k] w k S = .go (k + 1) (S ++ [colF w l[k].N]) := nx_2 h2
     have hge := nx_ge (l := l) hf.ok h0x hn
     exact ⟨_, (k + 1, S ++ [colF w l[k].N], (S ++ [colF w l[k].N]).length), by simp only; omega, ⟨by simp only; omega, rfl, stk_next hf h0x hS hw hn, hrun.trans (runA_go hok h0x hn), rfl⟩, by repeat (first | exact trivial | refine ⟨rfl, ?_⟩ | refine ⟨?_, ?_⟩)⟩
   ·
    have h2 := dF h2
    refine cx_seq ?_
    refine cx_ops ?_
    refine ax_q (q_ibin rfl rfl rfl) ?_
    refine ax_q (q_mov rfl) ?_
    refine ax_nil ?_
    refine cx_keep rfl rfl ?_
    refine cx_cond rfl (fun h3 => ?_) (fun h3 => ?_)
    ·
     have h3 := dT h3
     have hlw : lowI l[k] = 1 := by unfold lowI; rw [if_neg (by omega), if_neg (by omega)]
     refine cx_drawL 13 5000 (fun _ => false) (fun _ => true) [] ([(11, .rows 3 ((S.set (S.length - 1) (unF l[k].N (lastV S)).1).map GValue.row))]) [[6], [9], [8], [48], [6], [9], [50, 51], [52], [49, 53], [54], [45], [45], [46, 47], [55, 57]] [[], [], [], [], [], [], [], [], [], [], [], [11], [], [11]] rfl ?_
     first | refine ⟨_, .inr ⟨rfl, _, rfl, .inl rfl, loc_q (q_mov rfl)⟩, ?_⟩
     first | refine ⟨_, .inr ⟨rfl, _, rfl, .inl rfl, loc_q (q_mov rfl)⟩, ?_⟩
     first | refine ⟨_, .inr ⟨rfl, _, rfl, .inl rfl, loc_q (q_fadr_ptr rfl)⟩, ?_⟩
     first | refine ⟨_, .inr ⟨rfl, _, rfl, .inl rfl, loc_q (q_load1_ptr rfl rfl rfl)⟩, ?_⟩
     first | refine ⟨_, .inr ⟨rfl, _, rfl, .inl rfl, loc_q (q_mov rfl)⟩, ?_⟩
     first | refine ⟨_, .inr ⟨rfl, _, rfl, .inl rfl, loc_q (q_mov rfl)⟩, ?_⟩
     first | refine ⟨_, .inr ⟨rfl, _, rfl, .inl rfl, loc_q (q_ixoI rfl rfl (by omega) (by omega))⟩, ?_⟩
     first | refine ⟨_, .inr ⟨rfl, _, rfl, .inl rfl, loc_q (q_loadN_rptr rfl rfl (lastAt (by omega)) (by decide))⟩, ?_⟩
     have hrl := getD_rv (k := S.length - 1) hS.rv (by omega)
     have hrl : RV (lastV S) := hrl
     first | refine ⟨_, .inr ⟨rfl, _, rfl, .inl rfl, loc_call (fun i => 54 + 200 * i) false rfl (c_unary (op := l[k].N) (a := lastV S) (by first | assumption | omega | (simp; done) | (simp; omega))) hP (.inr ⟨rfl, rfl, rfl⟩) rfl rfl (fun h => by cases h)⟩, ?_⟩ | refine ⟨_, .inr ⟨rfl, _, rfl, .inl rfl, loc_call (fun i => 54 + 200 * i) true rfl (c_unary (op := l[k].N) (a := lastV S) (by first | assumption | omega | (simp; done) | (simp; omega))) hP (.inl ⟨rfl, (by repeat (first | exact lal_id _ rfl | exact LAL.nil | refine LAL.cons ?_ ?_ | exact la_id _ rfl | exact LA.lend (lend_whole rfl (by first | (simp; done) | (rw [List.length_map]; rfl))) | refine LA.agg ?_ | refine LA.fn ?_ | refine LA.lend ?_ | exact Lend.d _ | exact Lend.zs _ | exact lend_whole rfl (by first | (simp; done) | (rw [List.length_map]; rfl)) | refine Lend.ptr rfl ?_ | refine Lend.fn ?_ | exact LendL.nil | refine LendL.cons ?_ ?_))⟩) rfl rfl (fun _ => ⟨rfl, noisl_of (by repeat (first | exact trivial | refine ⟨noisl_map (fun _ => rfl), ?_⟩ | refine ⟨?_, ?_⟩))⟩)⟩, ?_⟩
     first | refine ⟨_, .inr ⟨rfl, _, rfl, .inl rfl, loc_q (q_mov rfl)⟩, ?_⟩
     first | refine ⟨_, .inr ⟨rfl, _, rfl, .inl rfl, loc_q (q_ext rfl rfl)⟩, ?_⟩
     first | refine ⟨_, .inr ⟨rfl, _, rfl, .inr ⟨rfl, rfl, .inr rfl, rfl, rfl⟩, loc_q (q_ext rfl rfl)⟩, ?_⟩
     first | refine ⟨_, .inr ⟨rfl, _, rfl, .inl rfl, loc_q (q_ixoI rfl rfl (by omega) (by omega))⟩, ?_⟩
     refine ⟨⟨5000, .dead, []⟩, .inl ⟨rfl, rfl, rfl, locl_str (q := GValue.row (unF l[k].N (lastV S)).1) (rs' := (S.set (S.length - 1) (unF l[k].N (lastV S)).1).map GValue.row) rfl rfl rfl rfl rfl rfl (lastAt (by omega)) rfl rfl setLast⟩, ?_⟩
     refine ⟨rfl, ?_⟩
     refine ax_q (q_mov rfl) ?_
     refine ax_nil ?_
     refine cx_keep rfl rfl ?_
     refine cx_seq ?_
     refine cx_ops ?_
     refine ax_q (q_mov rfl) ?_
     refine ax_q (q_ibin rfl rfl rfl) ?_
     refine ax_nil ?_
     refine cx_keep rfl rfl ?_
     refine cx_cond rfl (fun h9 => ?_) (fun h9 => ?_)
     ·
      have h9 := nT h9
      refine cx_seq ?_
      refine cx_ops ?_
      refine ax_q (q_build rfl) ?_
      refine ax_q (q_mov rfl) ?_
      refine ax_e (e_st rfl rfl rfl rfl rfl rfl rfl) ?_
      refine ax_q (q_mov rfl) ?_
      refine ax_nil ?_
      refine cx_keep rfl rfl ?_
      refine cx_ret (ret0 rfl rfl ?_)
      exact ⟨by rw [hrun, runA_no h0x (nx_3n h3 h9)]; rfl, rfl⟩
     ·
      have h9 := nF h9
      refine cx_skip ?_
      refine cx_keep rfl rfl ?_
      refine cx_ops ?_
      refine ax_q (q_mov rfl) ?_
      refine ax_qe (r' := int ((k + 1 : Nat) : Int)) (q_ibin rfl rfl rfl) (by rw [wi (by omega) (by omega)]; rfl) ?_
      refine ax_q (q_mov rfl) ?_
      refine ax_nil ?_
      have hn : nxF l[k] w k S = .go (k + 1) (S.set (S.length - 1) (unF l[k].N (lastV S)).1) := nx_3 h3 h9
      have hge := nx_ge (l := l) hf.ok h0x hn
      exact ⟨_, (k + 1, S.set (S.length - 1) (unF l[k].N (lastV S)).1, S.length), by simp only; omega, ⟨by simp only; omega, rfl, stk_next hf h0x hS hw hn, hrun.trans (runA_go hok h0x hn), by simp only [List.length_set]⟩, by repeat (first | exact trivial | refine ⟨rfl, ?_⟩ | refine ⟨?_, ?_⟩)⟩
    ·
     have h3 := dF h3
     refine cx_seq ?_
     refine cx_ops ?_
     refine ax_q (q_ibin rfl rfl rfl) ?_
     refine ax_q (q_mov rfl) ?_
     refine ax_nil ?_
     refine cx_keep rfl rfl ?_
     refine cx_cond rfl (fun h4 => ?_) (fun h4 => ?_)
     ·
      have h4 := dT h4
      have hlw : lowI l[k] = 2 := by unfold lowI; rw [if_neg (by omega), if_pos (by omega)]
      refine cx_seq ?_
      refine cx_drawL 19 5000 (fun _ => false) (fun _ => true) [] ([(11, .rows 3 ((S.set (S.length - 2) (binF l[k].N (last2 S) (lastV S)).1).map GValue.row))]) [[6], [9], [62], [8], [64], [6], [9], [67], [66, 68], [69], [6], [9], [71, 72], [73], [65, 70, 74], [75], [60], [60], [61, 63], [76, 78]] [[], [], [], [], [], [], [], [], [], [], [], [], [], [], [], [], [], [11], [], [11]] rfl ?_
      first | refine ⟨_, .inr ⟨rfl, _, rfl, .inl rfl, loc_q (q_mov rfl)⟩, ?_⟩
      first | refine ⟨_, .inr ⟨rfl, _, rfl, .inl rfl, loc_q (q_mov rfl)⟩, ?_⟩
      first | refine ⟨_, .inr ⟨rfl, _, rfl, .inl rfl, loc_q (q_sub rfl rfl (by omega))⟩, ?_⟩
      first | refine ⟨_, .inr ⟨rfl, _, rfl, .inl rfl, loc_q (q_fadr_ptr rfl)⟩, ?_⟩
      first | refine ⟨_, .inr ⟨rfl, _, rfl, .inl rfl, loc_q (q_load1_ptr rfl rfl rfl)⟩, ?_⟩
      first | refine ⟨_, .inr ⟨rfl, _, rfl, .inl rfl, loc_q (q_mov rfl)⟩, ?_⟩
      first | refine ⟨_, .inr ⟨rfl, _, rfl, .inl rfl, loc_q (q_mov rfl)⟩, ?_⟩
      first | refine ⟨_, .inr ⟨rfl, _, rfl, .inl rfl, loc_q (q_sub rfl rfl (by omega))⟩, ?_⟩
      first | refine ⟨_, .inr ⟨rfl, _, rfl, .inl rfl, loc_q (q_ixoI rfl rfl (by omega) (by omega))⟩, ?_⟩
      first | refine ⟨_, .inr ⟨rfl, _, rfl, .inl rfl, loc_q (q_loadN_rptr rfl rfl (last2At (by omega)) (by decide))⟩, ?_⟩
      first | refine ⟨_, .inr ⟨rfl, _, rfl, .inl rfl, loc_q (q_mov rfl)⟩, ?_⟩
      first | refine ⟨_, .inr ⟨rfl, _, rfl, .inl rfl, loc_q (q_mov rfl)⟩, ?_⟩
      first | refine ⟨_, .inr ⟨rfl, _, rfl, .inl rfl, loc_q (q_ixoI rfl rfl (by omega) (by omega))⟩, ?_⟩
      first | refine ⟨_, .inr ⟨rfl, _, rfl, .inl rfl, loc_q (q_loadN_rptr rfl rfl (lastAt (by omega)) (by decide))⟩, ?_⟩
      have hrl := getD_rv (k := S.length - 1) hS.rv (by omega)
      have hrl : RV (lastV S) := hrl
      have hrl2 := getD_rv (k := S.length - 2) hS.rv (by omega)
      have hrl2 : RV (last2 S) := hrl2
      first | refine ⟨_, .inr ⟨rfl, _, rfl, .inl rfl, loc_call (fun i => 75 + 200 * i) false rfl (c_binary (op := l[k].N) (a := last2 S) (b := lastV S) (by first | assumption | omega | (simp; done) | (simp; omega)) (by first | assumption | omega | (simp; done) | (simp; omega))) hP (.inr ⟨rfl, rfl, rfl⟩) rfl rfl (fun h => by cases h)⟩, ?_⟩ | refine ⟨_, .inr ⟨rfl, _, rfl, .inl rfl, loc_call (fun i => 75 + 200 * i) true rfl (c_binary (op := l[k].N) (a := last2 S) (b := lastV S) (by first | assumption | omega | (simp; done) | (simp; omega)) (by first | assumption | omega | (simp; done) | (simp; omega))) hP (.inl ⟨rfl, (by repeat (first | exact lal_id _ rfl | exact LAL.nil | refine LAL.cons ?_ ?_ | exact la_id _ rfl | exact LA.lend (lend_whole rfl (by first | (simp; done) | (rw [List.length_map]; rfl))) | refine LA.agg ?_ | refine LA.fn ?_ | refine LA.lend ?_ | exact Lend.d _ | exact Lend.zs _ | exact lend_whole rfl (by first | (simp; done) | (rw [List.length_map]; rfl)) | refine Lend.ptr rfl ?_ | refine Lend.fn ?_ | exact LendL.nil | refine LendL.cons ?_ ?_))⟩) rfl rfl (fun _ => ⟨rfl, noisl_of (by repeat (first | exact trivial | refine ⟨noisl_map (fun _ => rfl), ?_⟩ | refine ⟨?_, ?_⟩))⟩)⟩, ?_⟩
      first | refine ⟨_, .inr ⟨rfl, _, rfl, .inl rfl, loc_q (q_mov rfl)⟩, ?_⟩
      first | refine ⟨_, .inr ⟨rfl, _, rfl, .inl rfl, loc_q (q_ext rfl rfl)⟩, ?_⟩
      first | refine ⟨_, .inr ⟨rfl, _, rfl, .inr ⟨rfl, rfl, .inr rfl, rfl, rfl⟩, loc_q (q_ext rfl rfl)⟩, ?_⟩
      first | refine ⟨_, .inr ⟨rfl, _, rfl, .inl rfl, loc_q (q_ixoI rfl rfl (by omega) (by omega))⟩, ?_⟩
      refine ⟨⟨5000, .dead, []⟩, .inl ⟨rfl, rfl, rfl, locl_str (q := GValue.row (binF l[k].N (last2 S) (lastV S)).1) (rs' := (S.set (S.length - 2) (binF l[k].N (last2 S) (lastV S)).1).map GValue.row) rfl rfl rfl rfl rfl rfl (last2At (by omega)) rfl rfl setLast2⟩, ?_⟩
      refine ⟨rfl, ?_⟩
      refine ax_q (q_mov rfl) ?_
      refine ax_nil ?_
      refine cx_keep rfl rfl ?_
      refine cx_ops ?_
      refine ax_q (q_mov rfl) ?_
      refine ax_q (q_mov rfl) ?_
      refine ax_qe (r' := .osl 11 3 0 ((S.set (S.length - 2) (binF l[k].N (last2 S) (lastV S)).1).take (S.length - 1)).length) (q_slc_osl rfl rfl rfl (by omega) (by omega) (by omega)) (oslE rfl (by rw [List.length_take, List.length_set]; omega)) ?_
      refine ax_wk (wk_rows 11 (rs' := ((S.set (S.length - 2) (binF l[k].N (last2 S) (lastV S)).1).take (S.length - 1)).map GValue.row) rfl take_more) ?_
      refine ax_q (q_mov rfl) ?_
      refine ax_nil ?_
      refine cx_keep rfl rfl ?_
      refine cx_seq ?_
      refine cx_ops ?_
      refine ax_q (q_mov rfl) ?_
      refine ax_q (q_ibin rfl rfl rfl) ?_
      refine ax_nil ?_
      refine cx_keep rfl rfl ?_
      refine cx_cond rfl (fun h9 => ?_) (fun h9 => ?_)
      ·
       have h9 := nT h9
       refine cx_seq ?_
       refine cx_ops ?_
       refine ax_q (q_build rfl) ?_
       refine ax_q (q_mov rfl) ?_
       refine ax_e (e_st rfl rfl rfl rfl rfl rfl rfl) ?_
       refine ax_q (q_mov rfl) ?_
       refine ax_nil ?_
       refine cx_keep rfl rfl ?_
       refine cx_ret (ret0 rfl rfl ?_)
       exact ⟨by rw [hrun, runA_no h0x (nx_4n h4 h9)]; rfl, rfl⟩
      ·
       have h9 := nF h9
       refine cx_skip ?_
       refine cx_keep rfl rfl ?_
       refine cx_ops ?_
       refine ax_q (q_mov rfl) ?_
       refine ax_qe (r' := int ((k + 1 : Nat) : Int)) (q_ibin rfl rfl rfl) (by rw [wi (by omega) (by omega)]; rfl) ?_
       refine ax_q (q_mov rfl) ?_
       refine ax_nil ?_
       have hn : nxF l[k] w k S = .go (k + 1) ((S.set (S.length - 2) (binF l[k].N (last2 S) (lastV S)).1).take (S.length - 1)) := nx_4 h4 h9
       have hge := nx_ge (l := l) hf.ok h0x hn
       exact ⟨_, (k + 1, (S.set (S.length - 2) (binF l[k].N (last2 S) (lastV S)).1).take (S.length - 1), ((S.set (S.length - 2) (binF l[k].N (last2 S) (lastV S)).1).take (S.length - 1)).length), by simp only; omega, ⟨by simp only; omega, rfl, stk_next hf h0x hS hw hn, hrun.trans (runA_go hok h0x hn), rfl⟩, by repeat (first | exact trivial | refine ⟨rfl, ?_⟩ | refine ⟨?_, ?_⟩)⟩
     ·
      have h4 := dF h4
      refine cx_seq ?_
      refine cx_ops ?_
      refine ax_q (q_ibin rfl rfl rfl) ?_
      refine ax_q (q_mov rfl) ?_
      refine ax_nil ?_
      refine cx_keep rfl rfl ?_
      refine cx_cond rfl (fun h5 => ?_) (fun h5 => ?_)
      ·
       have h5 := dT h5
       have hlw : lowI l[k] = 1 := by unfold lowI; rw [if_neg (by omega), if_neg (by omega)]
       refine cx_seq ?_
       refine cx_ops ?_
       refine ax_q (q_mov rfl) ?_
       refine ax_q (q_mov rfl) ?_
       have hrl := getD_rv (k := S.length - 1) hS.rv (by omega)
       have hrl : RV (lastV S) := hrl
       refine ax_q (q_ixoI rfl rfl (by omega) (by omega)) ?_
       refine ax_q (q_loadN_rptr rfl rfl (lastAt (by omega)) (by decide)) ?_
       first | refine ax_call rfl (vc_pure0 (c_isZero (v := lastV S) ?_) hP rfl rfl ?_) | refine ax_call rfl (vc_lend0 (c_isZero (v := lastV S) ?_) hP (by repeat (first | exact lal_id _ rfl | exact LAL.nil | refine LAL.cons ?_ ?_ | exact la_id _ rfl | exact LA.lend (lend_whole rfl (by first | (simp; done) | (rw [List.length_map]; rfl))) | refine LA.agg ?_ | refine LA.fn ?_ | refine LA.lend ?_ | exact Lend.d _ | exact Lend.zs _ | exact lend_whole rfl (by first | (simp; done) | (rw [List.length_map]; rfl)) | refine Lend.ptr rfl ?_ | refine Lend.fn ?_ | exact LendL.nil | refine LendL.cons ?_ ?_)) rfl rfl ?_)
       ·
        first | assumption | omega | (simp; done) | (simp; omega)
       refine ax_nil ?_
       refine cx_keep rfl rfl ?_
       refine cx_cond rfl (fun h6 => ?_) (fun h6 => ?_)
       ·
        skip
        refine cx_ops ?_
        refine ax_q (q_fadr_ptr rfl) ?_
        refine ax_q (q_load1_ptr rfl rfl rfl) ?_
        have hjn := hins.2.2.2.2 (.inl h5)
        refine ax_q (q_sub rfl rfl (by omega)) ?_
        refine ax_q (q_mov rfl) ?_
        refine ax_nil ?_
        refine cx_keep rfl rfl ?_
        refine cx_seq ?_
        refine cx_ops ?_
        refine ax_q (q_mov rfl) ?_
        refine ax_q (q_ibin rfl rfl rfl) ?_
        refine ax_nil ?_
        refine cx_keep rfl rfl ?_
        refine cx_cond rfl (fun h9 => ?_) (fun h9 => ?_)
        ·
         have h9 := nT h9
         exact absurd rfl h9
        ·
         have h9 := nF h9
         refine cx_skip ?_
         refine cx_keep rfl rfl ?_
         refine cx_ops ?_
         refine ax_q (q_mov rfl) ?_
         refine ax_qe (r' := int ((l[k].N.toNat : Nat) : Int)) (q_ibin rfl rfl rfl) (by
          rw [wi (by omega) (by omega)]
          exact congrArg (fun z => AV.d (D.int .i64 z)) (by omega)) ?_
         refine ax_q (q_mov rfl) ?_
         refine ax_nil ?_
         have hn : nxF l[k] w k S = .go (l[k].N.toNat) (S) := nx_5 h5 h6
         have hge := nx_ge (l := l) hf.ok h0x hn
         exact ⟨_, (l[k].N.toNat, S, (S).length), by simp only; omega, ⟨by simp only; omega, rfl, stk_next hf h0x hS hw hn, hrun.trans (runA_go hok h0x hn), rfl⟩, by repeat (first | exact trivial | refine ⟨rfl, ?_⟩ | refine ⟨?_, ?_⟩)⟩
       ·
        skip
        refine cx_skip ?_
        refine cx_keep rfl rfl ?_
        refine cx_seq ?_
        refine cx_ops ?_
        refine ax_q (q_mov rfl) ?_
        refine ax_q (q_ibin rfl rfl rfl) ?_
        refine ax_nil ?_
        refine cx_keep rfl rfl ?_
        refine cx_cond rfl (fun h9 => ?_) (fun h9 => ?_)
        ·
         have h9 := nT h9
         exact absurd rfl h9
        ·
         have h9 := nF h9
         refine cx_skip ?_
         refine cx_keep rfl rfl ?_
         refine cx_ops ?_
         refine ax_q (q_mov rfl) ?_
         refine ax_qe (r' := int ((k + 1 : Nat) : Int)) (q_ibin rfl rfl rfl) (by rw [wi (by omega) (by omega)]; rfl) ?_
         refine ax_q (q_mov rfl) ?_
         refine ax_nil ?_
         have hn : nxF l[k] w k S = .go (k + 1) (S) := nx_5n h5 h6
         have hge := nx_ge (l := l) hf.ok h0x hn
         exact ⟨_, (k + 1, S, (S).length), by simp only; omega, ⟨by simp only; omega, rfl, stk_next hf h0x hS hw hn, hrun.trans (runA_go hok h0x hn), rfl⟩, by repeat (first | exact trivial | refine ⟨rfl, ?_⟩ | refine ⟨?_, ?_⟩)⟩
      ·
       have h5 := dF h5
       refine cx_seq ?_
       refine cx_ops ?_
       refine ax_q (q_ibin rfl rfl rfl) ?_
       refine ax_q (q_mov rfl) ?_
       refine ax_nil ?_
       refine cx_keep rfl rfl ?_
       refine cx_cond rfl (fun h7 => ?_) (fun h7 => ?_)
       ·
        have h7 := dT h7
        have hlw : lowI l[k] = 1 := by unfold lowI; rw [if_neg (by omega), if_neg (by omega)]
        refine cx_seq ?_
        refine cx_ops ?_
        refine ax_q (q_mov rfl) ?_
        refine ax_q (q_mov rfl) ?_
        refine ax_q (q_ixoI rfl rfl (by omega) (by omega)) ?_
        refine ax_q (q_loadN_rptr rfl rfl (lastAt (by omega)) (by decide)) ?_
        first | refine ax_call rfl (vc_pure0 (c_isOther (v := lastV S) ) hP rfl rfl ?_) | refine ax_call rfl (vc_lend0 (c_isOther (v := lastV S) ) hP (by repeat (first | exact lal_id _ rfl | exact LAL.nil | refine LAL.cons ?_ ?_ | exact la_id _ rfl | exact LA.lend (lend_whole rfl (by first | (simp; done) | (rw [List.length_map]; rfl))) | refine LA.agg ?_ | refine LA.fn ?_ | refine LA.lend ?_ | exact Lend.d _ | exact Lend.zs _ | exact lend_whole rfl (by first | (simp; done) | (rw [List.length_map]; rfl)) | refine Lend.ptr rfl ?_ | refine Lend.fn ?_ | exact LendL.nil | refine LendL.cons ?_ ?_)) rfl rfl ?_)
        refine ax_nil ?_
        refine cx_keep rfl rfl ?_
        refine cx_cond rfl (fun h8 => ?_) (fun h8 => ?_)
        ·
         skip
         refine cx_seq ?_
         refine cx_ops ?_
         refine ax_q (q_mov rfl) ?_
         refine ax_q (q_mov rfl) ?_
         have hjn := hins.2.2.2.2 (.inr h7)
         first | refine ax_call rfl (vc_pure0 (c_truth  ) hP rfl rfl ?_) | refine ax_call rfl (vc_lend0 (c_truth  ) hP (by repeat (first | exact lal_id _ rfl | exact LAL.nil | refine LAL.cons ?_ ?_ | exact la_id _ rfl | exact LA.lend (lend_whole rfl (by first | (simp; done) | (rw [List.length_map]; rfl))) | refine LA.agg ?_ | refine LA.fn ?_ | refine LA.lend ?_ | exact Lend.d _ | exact Lend.zs _ | exact lend_whole rfl (by first | (simp; done) | (rw [List.length_map]; rfl)) | refine Lend.ptr rfl ?_ | refine Lend.fn ?_ | exact LendL.nil | refine LendL.cons ?_ ?_)) rfl rfl ?_)
         refine ax_q (q_ixoI rfl rfl (by omega) (by omega)) ?_
         refine ax_e (e_str (q := GValue.row (vI 1)) (rs' := (S.set (S.length - 1) (vI 1)).map GValue.row) rfl rfl rfl rfl rfl rfl (lastAt (by omega)) rfl rfl setLast) ?_
         refine ax_nil ?_
         refine cx_keep rfl rfl ?_
         refine cx_ops ?_
         refine ax_q (q_fadr_ptr rfl) ?_
         refine ax_q (q_load1_ptr rfl rfl rfl) ?_
         refine ax_q (q_sub rfl rfl (by omega)) ?_
         refine ax_q (q_mov rfl) ?_
         refine ax_nil ?_
         refine cx_keep rfl rfl ?_
         refine cx_seq ?_
         refine cx_ops ?_
         refine ax_q (q_mov rfl) ?_
         refine ax_q (q_ibin rfl rfl rfl) ?_
         refine ax_nil ?_
         refine cx_keep rfl rfl ?_
         refine cx_cond rfl (fun h9 => ?_) (fun h9 => ?_)
         ·
          have h9 := nT h9
          exact absurd rfl h9
         ·
          have h9 := nF h9
          refine cx_skip ?_
          refine cx_keep rfl rfl ?_
          refine cx_ops ?_
          refine ax_q (q_mov rfl) ?_
          refine ax_qe (r' := int ((l[k].N.toNat : Nat) : Int)) (q_ibin rfl rfl rfl) (by
           rw [wi (by omega) (by omega)]
           exact congrArg (fun z => AV.d (D.int .i64 z)) (by omega)) ?_
          refine ax_q (q_mov rfl) ?_
          refine ax_nil ?_
          have hn : nxF l[k] w k S = .go (l[k].N.toNat) (S.set (S.length - 1) (vI 1)) := nx_6 h7 h8
          have hge := nx_ge (l := l) hf.ok h0x hn
          exact ⟨_, (l[k].N.toNat, S.set (S.length - 1) (vI 1), S.length), by simp only; omega, ⟨by simp only; omega, rfl, stk_next hf h0x hS hw hn, hrun.trans (runA_go hok h0x hn), by simp only [List.length_set]⟩, by repeat (first | exact trivial | refine ⟨rfl, ?_⟩ | refine ⟨?_, ?_⟩)⟩
        ·
         skip
         refine cx_skip ?_
         refine cx_keep rfl rfl ?_
         refine cx_seq ?_
         refine cx_ops ?_
         refine ax_q (q_mov rfl) ?_
         refine ax_q (q_ibin rfl rfl rfl) ?_
         refine ax_nil ?_
         refine cx_keep rfl rfl ?_
         refine cx_cond rfl (fun h9 => ?_) (fun h9 => ?_)
         ·
          have h9 := nT h9
          exact absurd rfl h9
         ·
          have h9 := nF h9
          refine cx_skip ?_
          refine cx_keep rfl rfl ?_
          refine cx_ops ?_
          refine ax_q (q_mov rfl) ?_
          refine ax_qe (r' := int ((k + 1 : Nat) : Int)) (q_ibin rfl rfl rfl) (by rw [wi (by omega) (by omega)]; rfl) ?_
          refine ax_q (q_mov rfl) ?_
          refine ax_nil ?_
          have hn : nxF l[k] w k S = .go (k + 1) (S) := nx_6n h7 h8
          have hge := nx_ge (l := l) hf.ok h0x hn
          exact ⟨_, (k + 1, S, (S).length), by simp only; omega, ⟨by simp only; omega, rfl, stk_next hf h0x hS hw hn, hrun.trans (runA_go hok h0x hn), rfl⟩, by repeat (first | exact trivial | refine ⟨rfl, ?_⟩ | refine ⟨?_, ?_⟩)⟩
       ·
        have h7 := dF h7
        exfalso; omega
 ·
  have h0 := dF h0
  have h0x : k = l.length := by omega
  subst h0x
  refine cx_exit rfl ?_
  refine cx_keep rfl rfl ?_
  refine cx_seq ?_
  refine cx_ops ?_
  refine ax_q (q_mov rfl) ?_
  refine ax_q (q_ixoI rfl rfl (by omega) (by omega)) ?_
  refine ax_q (q_loadN_rptr rfl rfl (headAt (by omega)) (by decide)) ?_
  refine ax_e (e_st rfl rfl rfl rfl rfl rfl rfl) ?_
  refine ax_q (q_mov rfl) ?_
  refine ax_nil ?_
  refine cx_keep rfl rfl ?_
  refine cx_ret (ret0 rfl rfl ?_)
  exact ⟨by rw [hrun, runA_end]; rfl, rfl⟩


/- loop.example/g00332/impl.RunCode -/
def k_c_RunCode : XCode :=
 .seq (.ops [.op (some 3) (.box (.t 1)),
   .op (some 4) (.alloc [.int .i64 0, .int .i64 0, .str []]),
   .op (some 5) (.mov (.k (.int .i64 0)))])
 (.keep [0, 3, 4] (.seq (.block 0 (.seq (.ops [.op (some 7) (.mov (.t 0)),
    .op (some 8) (.lenS (.t 7)),
    .op (some 9) (.bin .gtr (.t 8) (.k (.int .i64 4096))),
    .op (some 6) (.mov (.t 9))])
  (.keep [0, 3, 4, 6] (.cond (.t 6)
   (.seq (.ops [.op (some 10) (.build [.int .i64 0, .int .i64 0, .str []] []),
     .op none (.store 3 (.t 4) (.t 10)),
     .op (some 5) (.mov (.k (.int .i64 2)))])
   (.keep [4, 5] (.ret)))
   (.seq (.ops [.op (some 12) (.mov (.t 0)),
     .call (some 13) 13 [.t 12],
     .op (some 14) (.not (.t 13)),
     .op (some 15) (.mov (.t 14)),
     .andor 19 false 3 15 [.op (some 16) (.loadN 7 (.t 3)), .call (some 17) 53 [.t 16], .op (some 18) (.not (.t 17))] (.t 18),
     .op (some 11) (.mov (.t 19))])
   (.keep [0, 3, 4, 11] (.cond (.t 11)
    (.seq (.ops [.op (some 20) (.build [.int .i64 0, .int .i64 0, .str []] []),
      .op none (.store 3 (.t 4) (.t 20)),
      .op (some 5) (.mov (.k (.int .i64 1)))])
    (.keep [4, 5] (.ret)))
    (.skip))))))))
 (.keep [0, 3, 4] (.seq (.ops [.op (some 21) (.mov (.t 0)),
   .op (some 22) (.loadN 7 (.t 3)),
   .call (some 23) 68 [.t 21, .t 22],
   .op (some 24) (.ext (.t 23) 0),
   .op (some 25) (.ext (.t 23) 1),
   .op none (.store 3 (.t 4) (.t 24)),
   .op (some 5) (.mov (.t 25))])
 (.keep [4, 5] (.ret))))))
theorem k_c_RunCode_fits : fitsF Try.prog 36 ⟨26, k_c_RunCode, [.cN 4 3, .t 5]⟩ = true := by kernel_rfl
theorem c_RunCode {l : List GIns} {w : GRow} (hw : l.length ≤ 1048576) (hv : ∀ x ∈ l, x.V.T.length ≤ 1048576) (hr1 : w.N.T.length ≤ 1048576) (hr2 : w.Name.T.length ≤ 1048576) : Con Try.prog noMv 36 [.d (.sl 5 (l.map GIns.row)), w.av] [] (fun r h => r = .tup [(rcF l w).1.av, int (rcF l w).2] ∧ h = []) := by
 refine con_of2 k_c_RunCode_fits rfl fun C hP hmv => ?_
 unfold k_c_RunCode
 refine cx_seq ?_
 refine cx_ops ?_
 refine ax_e (e_box rfl rfl (by decide) rfl rfl rfl) ?_
 refine ax_e (e_alloc (by decide) rfl rfl) ?_
 refine ax_q (q_mov rfl) ?_
 refine ax_nil ?_
 refine cx_keep rfl rfl ?_
 refine cx_seq ?_
 refine cx_block ?_
 refine cx_seq ?_
 refine cx_ops ?_
 refine ax_q (q_mov rfl) ?_
 first | refine ax_q (q_lenS_map rfl) ?_ | refine ax_q (q_lenS_osl rfl) ?_ | refine ax_q (q_lenS_zs rfl) ?_ | refine ax_q (q_lenS rfl) ?_
 refine ax_q (q_ibin rfl rfl rfl) ?_
 refine ax_q (q_mov rfl) ?_
 refine ax_nil ?_
 refine cx_keep rfl rfl ?_
 refine cx_cond rfl (fun h0 => ?_) (fun h0 => ?_)
 ·
  have h0 := dT h0
  refine cx_seq ?_
  refine cx_ops ?_
  refine ax_q (q_build rfl) ?_
  refine ax_e (e_st rfl rfl rfl rfl rfl rfl rfl) ?_
  refine ax_q (q_mov rfl) ?_
  refine ax_nil ?_
  refine cx_keep rfl rfl ?_
  refine cx_ret (ret0 rfl rfl ?_)
  exact ⟨by rw [rcF_0 (by omega)]; rfl, rfl⟩
 ·
  have h0 := dF h0
  refine cx_seq ?_
  refine cx_ops ?_
  refine ax_q (q_mov rfl) ?_
  first | refine ax_call rfl (vc_pure0 (c_CodeOK  ?_ ?_) hP rfl rfl ?_) | refine ax_call rfl (vc_lend0 (c_CodeOK  ?_ ?_) hP (by repeat (first | exact lal_id _ rfl | exact LAL.nil | refine LAL.cons ?_ ?_ | exact la_id _ rfl | exact LA.lend (lend_whole rfl (by first | (simp; done) | (rw [List.length_map]; rfl))) | refine LA.agg ?_ | refine LA.fn ?_ | refine LA.lend ?_ | exact Lend.d _ | exact Lend.zs _ | exact lend_whole rfl (by first | (simp; done) | (rw [List.length_map]; rfl)) | refine Lend.ptr rfl ?_ | refine Lend.fn ?_ | exact LendL.nil | refine LendL.cons ?_ ?_)) rfl rfl ?_)
  ·
   first | assumption | omega | (simp; done) | (simp; omega)
  ·
   first | assumption | omega | (simp; done) | (simp; omega)
  refine ax_q (q_not rfl) ?_
  refine ax_q (q_mov rfl) ?_
  apply ax_or rfl rfl
  ·
   intro g
   have g := bF g
   refine ax_q (q_ldN rfl rfl rfl) ?_
   first | refine ax_call rfl (vc_pure0 (c_rowOK (a := w) ?_ ?_) hP rfl rfl ?_) | refine ax_call rfl (vc_lend0 (c_rowOK (a := w) ?_ ?_) hP (by repeat (first | exact lal_id _ rfl | exact LAL.nil | refine LAL.cons ?_ ?_ | exact la_id _ rfl | exact LA.lend (lend_whole rfl (by first | (simp; done) | (rw [List.length_map]; rfl))) | refine LA.agg ?_ | refine LA.fn ?_ | refine LA.lend ?_ | exact Lend.d _ | exact Lend.zs _ | exact lend_whole rfl (by first | (simp; done) | (rw [List.length_map]; rfl)) | refine Lend.ptr rfl ?_ | refine Lend.fn ?_ | exact LendL.nil | refine LendL.cons ?_ ?_)) rfl rfl ?_)
   ·
    first | assumption | omega | (simp; done) | (simp; omega)
   ·
    first | assumption | omega | (simp; done) | (simp; omega)
   refine ax_q (q_not rfl) ?_
   exact ax_nil ⟨rfl, by repeat (first | exact trivial | refine ⟨rfl, ?_⟩ | refine ⟨?_, ?_⟩)⟩
  refine ax_q (q_mov rfl) ?_
  refine ax_nil ?_
  refine cx_keep rfl rfl ?_
  refine cx_cond rfl (fun h1 => ?_) (fun h1 => ?_)
  ·
   have h1 := (fun h => (or_T h).imp bT bT) h1
   refine cx_seq ?_
   refine cx_ops ?_
   refine ax_q (q_build rfl) ?_
   refine ax_e (e_st rfl rfl rfl rfl rfl rfl rfl) ?_
   refine ax_q (q_mov rfl) ?_
   refine ax_nil ?_
   refine cx_keep rfl rfl ?_
   refine cx_ret (ret0 rfl rfl ?_)
   exact ⟨by rw [rcF_1 (by omega) h1]; rfl, rfl⟩
  ·
   have h1 := (fun h => And.intro (bF (or_F h).1) (bF (or_F h).2)) h1
   have hrr := RR.of h1.2
   have hco := h1.1
   refine cx_skip ?_
   refine cx_keep rfl rfl ?_
   refine cx_seq ?_
   refine cx_ops ?_
   refine ax_q (q_mov rfl) ?_
   refine ax_q (q_ldN rfl rfl rfl) ?_
   first | refine ax_call rfl (vc_pure0 (c_runCode (w := w) ?_ ?_) hP rfl rfl ?_) | refine ax_call rfl (vc_lend0 (c_runCode (w := w) ?_ ?_) hP (by repeat (first | exact lal_id _ rfl | exact LAL.nil | refine LAL.cons ?_ ?_ | exact la_id _ rfl | exact LA.lend (lend_whole rfl (by first | (simp; done) | (rw [List.length_map]; rfl))) | refine LA.agg ?_ | refine LA.fn ?_ | refine LA.lend ?_ | exact Lend.d _ | exact Lend.zs _ | exact lend_whole rfl (by first | (simp; done) | (rw [List.length_map]; rfl)) | refine Lend.ptr rfl ?_ | refine Lend.fn ?_ | exact LendL.nil | refine LendL.cons ?_ ?_)) rfl rfl ?_)
   ·
    first | assumption | omega | (simp; done) | (simp; omega)
   ·
    first | assumption | omega | (simp; done) | (simp; omega)
   refine ax_q (q_ext rfl rfl) ?_
   refine ax_q (q_ext rfl rfl) ?_
   refine ax_e (e_st rfl rfl rfl rfl rfl rfl rfl) ?_
   refine ax_q (q_mov rfl) ?_
   refine ax_nil ?_
   refine cx_keep rfl rfl ?_
   refine cx_ret (ret0 rfl rfl ?_)
   exact ⟨by rw [rcF_2 (by omega) h1]; rfl, rfl⟩


/- loop.example/g00332/spec.l00Source -/
def k_c_l00Source : XCode :=
 .seq (.ops [.op (some 2) (.mov (.k (.nilp)))])
 (.keep [0] (.seq (.ops [.op (some 3) (.mov (.t 0)),
   .op (some 4) (.mov (.t 0)),
   .op (some 5) (.lenS (.t 4)),
   .op (some 6) (.bin .rem (.t 5) (.k (.int .i64 1000))),
   .op (some 7) (.build [.nils 1, .int .i64 0, .int .i64 0] [(0, 1, .t 3), (2, 1, .t 6)]),
   .op (some 8) (.box (.t 7)),
   .op (some 2) (.mov (.t 8))])
 (.keep [2] (.ret))))
theorem k_c_l00Source_fits : fitsF Try.prog 69 ⟨9, k_c_l00Source, [.t 2]⟩ = true := by kernel_rfl
theorem c_l00Source {code : Str} (hl : code.length ≤ 1048576) : Con Try.prog noMv 69 [.d (.sl 1 (code.map byteRow))] [] (fun r h => r = .ptr 0 0 ∧ h = (srcOf code).h 0) := by
 refine con_of2 k_c_l00Source_fits rfl fun C hP hmv => ?_
 unfold k_c_l00Source
 refine cx_seq ?_
 refine cx_ops ?_
 refine ax_q (q_mov rfl) ?_
 refine ax_nil ?_
 refine cx_keep rfl rfl ?_
 refine cx_seq ?_
 refine cx_ops ?_
 refine ax_q (q_mov rfl) ?_
 refine ax_q (q_mov rfl) ?_
 first | refine ax_q (q_lenS_map rfl) ?_ | refine ax_q (q_lenS_osl rfl) ?_ | refine ax_q (q_lenS_zs rfl) ?_ | refine ax_q (q_lenS rfl) ?_
 refine ax_q (q_mod rfl rfl (by omega) (by omega)) ?_
 refine ax_q (q_build rfl) ?_
 refine ax_e (e_box rfl rfl (by decide) rfl rfl rfl) ?_
 refine ax_q (q_mov rfl) ?_
 refine ax_nil ?_
 refine cx_keep rfl rfl ?_
 refine cx_ret (retN (fun _ => 0) [8] rfl rfl rfl rfl rfl ?_)
 exact ⟨rfl, rfl⟩

end Go.Proofs.Ytalnddcijlkklaa
