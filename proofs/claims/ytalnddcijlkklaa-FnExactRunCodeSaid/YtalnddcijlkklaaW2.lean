/- The walks: what each function computes, as a contract without a world (part 2). -/
import Derived.Test.YtalnddcijlkklaaProg
import Derived.Test.YtalnddcijlkklaaW1
namespace Go.Proofs.Ytalnddcijlkklaa
open Go Go.AM
set_option maxRecDepth 10000
set_option linter.unusedVariables false
/- loop.example/g00332/impl.arith -/
def k_c_arith : XCode :=
  .seq (.ops [.op (some 6) (.alloc [.int .i64 0, .int .i64 0, .str []]),
     .op (some 7) (.mov (.k (.int .i64 0)))])
  (.keep [0, 1, 2, 6] (.seq (.ops [.op (some 8) (.mov (.k (.int .i64 0)))])
  (.keep [0, 1, 2, 6] (.seq (.seq (.ops [.op (some 9) (.mov (.t 0))])
   (.keep [1, 2, 6, 9] (.block 0 (.seq (.ops [.op (some 17) (.bin .eql (.t 9) (.k (.int .i64 6))),
       .op (some 16) (.mov (.t 17))])
    (.keep [1, 2, 6, 9, 16] (.cond (.t 16)
     (.ops [.op (some 18) (.mov (.t 1)),
        .op (some 19) (.mov (.t 2)),
        .op (some 20) (.bin .add (.t 18) (.t 19)),
        .op (some 8) (.mov (.t 20))])
     (.seq (.ops [.op (some 22) (.bin .eql (.t 9) (.k (.int .i64 7))),
         .op (some 21) (.mov (.t 22))])
      (.keep [1, 2, 6, 9, 21] (.cond (.t 21)
       (.ops [.op (some 23) (.mov (.t 1)),
          .op (some 24) (.mov (.t 2)),
          .op (some 25) (.bin .sub (.t 23) (.t 24)),
          .op (some 8) (.mov (.t 25))])
       (.seq (.ops [.op (some 27) (.bin .eql (.t 9) (.k (.int .i64 8))),
           .op (some 26) (.mov (.t 27))])
        (.keep [1, 2, 6, 26] (.cond (.t 26)
         (.ops [.op (some 28) (.mov (.t 1)),
            .op (some 29) (.mov (.t 2)),
            .op (some 30) (.bin .mul (.t 28) (.t 29)),
            .op (some 8) (.mov (.t 30))])
         (.seq (.seq (.ops [.op (some 10) (.mov (.t 2)),
              .op (some 11) (.bin .eql (.t 10) (.k (.int .i64 0)))])
           (.keep [1, 2, 6, 11] (.cond (.t 11)
            (.seq (.ops [.op (some 12) (.build [.int .i64 0, .int .i64 0, .str []] []),
                .op none (.store 3 (.t 6) (.t 12)),
                .op (some 7) (.mov (.k (.int .i64 11)))])
             (.keep [6, 7] (.ret)))
            (.skip))))
          (.keep [1, 2, 6] (.ops [.op (some 13) (.mov (.t 1)),
            .op (some 14) (.mov (.t 2)),
            .op (some 15) (.bin .quo (.t 13) (.t 14)),
            .op (some 8) (.mov (.t 15))])))))))))))))))
  (.keep [6, 8] (.seq (.seq (.ops [.op (some 31) (.mov (.t 8)),
      .call (some 32) 102 [.t 31],
      .op (some 33) (.not (.t 32))])
   (.keep [6, 8, 33] (.cond (.t 33)
    (.seq (.ops [.op (some 34) (.build [.int .i64 0, .int .i64 0, .str []] []),
        .op none (.store 3 (.t 6) (.t 34)),
        .op (some 7) (.mov (.k (.int .i64 12)))])
     (.keep [6, 7] (.ret)))
    (.skip))))
  (.keep [6, 8] (.seq (.ops [.op (some 35) (.mov (.t 8)),
     .call (some 36) 106 [.t 35],
     .op none (.store 3 (.t 6) (.t 36)),
     .op (some 7) (.mov (.k (.int .i64 0)))])
  (.keep [6, 7] (.ret))))))))))
theorem k_c_arith_fits : fitsF Try.prog 109 ⟨37, k_c_arith, [.cN 6 3, .t 7]⟩ = true := by kernel_rfl
theorem c_arith {op a b : Int} (hn : -1000000000 ≤ a ∧ a ≤ 1000000000) (hm : -1000000000 ≤ b ∧ b ≤ 1000000000) : Con Try.prog noMv 109 [int op, int a, int b] [] (fun r h => r = .tup [(ariF op a b).1.av, int (ariF op a b).2] ∧ h = []) := by
  refine con_of2 k_c_arith_fits rfl fun C hP hmv => ?_
  unfold k_c_arith
  have hmul := mulB hn hm
  refine cx_seq ?_
  refine cx_ops ?_
  refine ax_e (e_alloc (by decide) rfl rfl) ?_
  refine ax_q (q_mov rfl) ?_
  refine ax_nil ?_
  refine cx_keep rfl rfl ?_
  refine cx_seq ?_
  refine cx_ops ?_
  refine ax_q (q_mov rfl) ?_
  refine ax_nil ?_
  refine cx_keep rfl rfl ?_
  refine cx_seq ?_
  refine cx_seq ?_
  refine cx_ops ?_
  refine ax_q (q_mov rfl) ?_
  refine ax_nil ?_
  refine cx_keep rfl rfl ?_
  refine cx_block ?_
  refine cx_seq ?_
  refine cx_ops ?_
  refine ax_q (q_ibin rfl rfl rfl) ?_
  refine ax_q (q_mov rfl) ?_
  refine ax_nil ?_
  refine cx_keep rfl rfl ?_
  refine cx_cond rfl (fun h0 => ?_) (fun h0 => ?_)
  · have h0 := dT h0
    refine cx_ops ?_
    refine ax_q (q_mov rfl) ?_
    refine ax_q (q_mov rfl) ?_
    refine ax_q (q_add rfl rfl (by omega)) ?_
    refine ax_q (q_mov rfl) ?_
    refine ax_nil ?_
    refine cx_keep rfl rfl ?_
    refine cx_seq ?_
    refine cx_seq ?_
    refine cx_ops ?_
    refine ax_q (q_mov rfl) ?_
    first | refine ax_call rfl (vc_pure0 (c_isNumber  ) hP rfl rfl ?_) | refine ax_call rfl (vc_lend0 (c_isNumber  ) hP (by repeat (first | exact lal_id _ rfl | exact LAL.nil | refine LAL.cons ?_ ?_ | exact la_id _ rfl | exact LA.lend (lend_whole rfl (by first | (simp; done) | (rw [List.length_map]; rfl))) | refine LA.agg ?_ | refine LA.fn ?_ | refine LA.lend ?_ | exact Lend.d _ | exact Lend.zs _ | exact lend_whole rfl (by first | (simp; done) | (rw [List.length_map]; rfl)) | refine Lend.ptr rfl ?_ | refine Lend.fn ?_ | exact LendL.nil | refine LendL.cons ?_ ?_)) rfl rfl ?_)
    refine ax_q (q_not rfl) ?_
    refine ax_nil ?_
    refine cx_keep rfl rfl ?_
    refine cx_cond rfl (fun h4 => ?_) (fun h4 => ?_)
    · have h4 := bT h4
      refine cx_seq ?_
      refine cx_ops ?_
      refine ax_q (q_build rfl) ?_
      refine ax_e (e_st rfl rfl rfl rfl rfl rfl rfl) ?_
      refine ax_q (q_mov rfl) ?_
      refine ax_nil ?_
      refine cx_keep rfl rfl ?_
      refine cx_ret (ret0 rfl rfl ?_)
      exact ⟨by rw [ari_6 h0, bnd_no h4]; rfl, rfl⟩
    · have h4 := bF h4
      refine cx_skip ?_
      refine cx_keep rfl rfl ?_
      refine cx_seq ?_
      refine cx_ops ?_
      refine ax_q (q_mov rfl) ?_
      first | refine ax_call rfl (vc_pure0 (c_numberValue  ) hP rfl rfl ?_) | refine ax_call rfl (vc_lend0 (c_numberValue  ) hP (by repeat (first | exact lal_id _ rfl | exact LAL.nil | refine LAL.cons ?_ ?_ | exact la_id _ rfl | exact LA.lend (lend_whole rfl (by first | (simp; done) | (rw [List.length_map]; rfl))) | refine LA.agg ?_ | refine LA.fn ?_ | refine LA.lend ?_ | exact Lend.d _ | exact Lend.zs _ | exact lend_whole rfl (by first | (simp; done) | (rw [List.length_map]; rfl)) | refine Lend.ptr rfl ?_ | refine Lend.fn ?_ | exact LendL.nil | refine LendL.cons ?_ ?_)) rfl rfl ?_)
      refine ax_e (e_st rfl rfl rfl rfl rfl rfl rfl) ?_
      refine ax_q (q_mov rfl) ?_
      refine ax_nil ?_
      refine cx_keep rfl rfl ?_
      refine cx_ret (ret0 rfl rfl ?_)
      exact ⟨by rw [ari_6 h0, bnd_yes h4]; rfl, rfl⟩
  · have h0 := dF h0
    refine cx_seq ?_
    refine cx_ops ?_
    refine ax_q (q_ibin rfl rfl rfl) ?_
    refine ax_q (q_mov rfl) ?_
    refine ax_nil ?_
    refine cx_keep rfl rfl ?_
    refine cx_cond rfl (fun h1 => ?_) (fun h1 => ?_)
    · have h1 := dT h1
      refine cx_ops ?_
      refine ax_q (q_mov rfl) ?_
      refine ax_q (q_mov rfl) ?_
      refine ax_q (q_sub rfl rfl (by omega)) ?_
      refine ax_q (q_mov rfl) ?_
      refine ax_nil ?_
      refine cx_keep rfl rfl ?_
      refine cx_seq ?_
      refine cx_seq ?_
      refine cx_ops ?_
      refine ax_q (q_mov rfl) ?_
      first | refine ax_call rfl (vc_pure0 (c_isNumber  ) hP rfl rfl ?_) | refine ax_call rfl (vc_lend0 (c_isNumber  ) hP (by repeat (first | exact lal_id _ rfl | exact LAL.nil | refine LAL.cons ?_ ?_ | exact la_id _ rfl | exact LA.lend (lend_whole rfl (by first | (simp; done) | (rw [List.length_map]; rfl))) | refine LA.agg ?_ | refine LA.fn ?_ | refine LA.lend ?_ | exact Lend.d _ | exact Lend.zs _ | exact lend_whole rfl (by first | (simp; done) | (rw [List.length_map]; rfl)) | refine Lend.ptr rfl ?_ | refine Lend.fn ?_ | exact LendL.nil | refine LendL.cons ?_ ?_)) rfl rfl ?_)
      refine ax_q (q_not rfl) ?_
      refine ax_nil ?_
      refine cx_keep rfl rfl ?_
      refine cx_cond rfl (fun h4 => ?_) (fun h4 => ?_)
      · have h4 := bT h4
        refine cx_seq ?_
        refine cx_ops ?_
        refine ax_q (q_build rfl) ?_
        refine ax_e (e_st rfl rfl rfl rfl rfl rfl rfl) ?_
        refine ax_q (q_mov rfl) ?_
        refine ax_nil ?_
        refine cx_keep rfl rfl ?_
        refine cx_ret (ret0 rfl rfl ?_)
        exact ⟨by rw [ari_7 h1, bnd_no h4]; rfl, rfl⟩
      · have h4 := bF h4
        refine cx_skip ?_
        refine cx_keep rfl rfl ?_
        refine cx_seq ?_
        refine cx_ops ?_
        refine ax_q (q_mov rfl) ?_
        first | refine ax_call rfl (vc_pure0 (c_numberValue  ) hP rfl rfl ?_) | refine ax_call rfl (vc_lend0 (c_numberValue  ) hP (by repeat (first | exact lal_id _ rfl | exact LAL.nil | refine LAL.cons ?_ ?_ | exact la_id _ rfl | exact LA.lend (lend_whole rfl (by first | (simp; done) | (rw [List.length_map]; rfl))) | refine LA.agg ?_ | refine LA.fn ?_ | refine LA.lend ?_ | exact Lend.d _ | exact Lend.zs _ | exact lend_whole rfl (by first | (simp; done) | (rw [List.length_map]; rfl)) | refine Lend.ptr rfl ?_ | refine Lend.fn ?_ | exact LendL.nil | refine LendL.cons ?_ ?_)) rfl rfl ?_)
        refine ax_e (e_st rfl rfl rfl rfl rfl rfl rfl) ?_
        refine ax_q (q_mov rfl) ?_
        refine ax_nil ?_
        refine cx_keep rfl rfl ?_
        refine cx_ret (ret0 rfl rfl ?_)
        exact ⟨by rw [ari_7 h1, bnd_yes h4]; rfl, rfl⟩
    · have h1 := dF h1
      refine cx_seq ?_
      refine cx_ops ?_
      refine ax_q (q_ibin rfl rfl rfl) ?_
      refine ax_q (q_mov rfl) ?_
      refine ax_nil ?_
      refine cx_keep rfl rfl ?_
      refine cx_cond rfl (fun h2 => ?_) (fun h2 => ?_)
      · have h2 := dT h2
        refine cx_ops ?_
        refine ax_q (q_mov rfl) ?_
        refine ax_q (q_mov rfl) ?_
        refine ax_q (q_mul rfl rfl (by omega)) ?_
        refine ax_q (q_mov rfl) ?_
        refine ax_nil ?_
        refine cx_keep rfl rfl ?_
        refine cx_seq ?_
        refine cx_seq ?_
        refine cx_ops ?_
        refine ax_q (q_mov rfl) ?_
        first | refine ax_call rfl (vc_pure0 (c_isNumber  ) hP rfl rfl ?_) | refine ax_call rfl (vc_lend0 (c_isNumber  ) hP (by repeat (first | exact lal_id _ rfl | exact LAL.nil | refine LAL.cons ?_ ?_ | exact la_id _ rfl | exact LA.lend (lend_whole rfl (by first | (simp; done) | (rw [List.length_map]; rfl))) | refine LA.agg ?_ | refine LA.fn ?_ | refine LA.lend ?_ | exact Lend.d _ | exact Lend.zs _ | exact lend_whole rfl (by first | (simp; done) | (rw [List.length_map]; rfl)) | refine Lend.ptr rfl ?_ | refine Lend.fn ?_ | exact LendL.nil | refine LendL.cons ?_ ?_)) rfl rfl ?_)
        refine ax_q (q_not rfl) ?_
        refine ax_nil ?_
        refine cx_keep rfl rfl ?_
        refine cx_cond rfl (fun h4 => ?_) (fun h4 => ?_)
        · have h4 := bT h4
          refine cx_seq ?_
          refine cx_ops ?_
          refine ax_q (q_build rfl) ?_
          refine ax_e (e_st rfl rfl rfl rfl rfl rfl rfl) ?_
          refine ax_q (q_mov rfl) ?_
          refine ax_nil ?_
          refine cx_keep rfl rfl ?_
          refine cx_ret (ret0 rfl rfl ?_)
          exact ⟨by rw [ari_8 h2, bnd_no h4]; rfl, rfl⟩
        · have h4 := bF h4
          refine cx_skip ?_
          refine cx_keep rfl rfl ?_
          refine cx_seq ?_
          refine cx_ops ?_
          refine ax_q (q_mov rfl) ?_
          first | refine ax_call rfl (vc_pure0 (c_numberValue  ) hP rfl rfl ?_) | refine ax_call rfl (vc_lend0 (c_numberValue  ) hP (by repeat (first | exact lal_id _ rfl | exact LAL.nil | refine LAL.cons ?_ ?_ | exact la_id _ rfl | exact LA.lend (lend_whole rfl (by first | (simp; done) | (rw [List.length_map]; rfl))) | refine LA.agg ?_ | refine LA.fn ?_ | refine LA.lend ?_ | exact Lend.d _ | exact Lend.zs _ | exact lend_whole rfl (by first | (simp; done) | (rw [List.length_map]; rfl)) | refine Lend.ptr rfl ?_ | refine Lend.fn ?_ | exact LendL.nil | refine LendL.cons ?_ ?_)) rfl rfl ?_)
          refine ax_e (e_st rfl rfl rfl rfl rfl rfl rfl) ?_
          refine ax_q (q_mov rfl) ?_
          refine ax_nil ?_
          refine cx_keep rfl rfl ?_
          refine cx_ret (ret0 rfl rfl ?_)
          exact ⟨by rw [ari_8 h2, bnd_yes h4]; rfl, rfl⟩
      · have h2 := dF h2
        refine cx_seq ?_
        refine cx_seq ?_
        refine cx_ops ?_
        refine ax_q (q_mov rfl) ?_
        refine ax_q (q_ibin rfl rfl rfl) ?_
        refine ax_nil ?_
        refine cx_keep rfl rfl ?_
        refine cx_cond rfl (fun h3 => ?_) (fun h3 => ?_)
        · have h3 := dT h3
          refine cx_seq ?_
          refine cx_ops ?_
          refine ax_q (q_build rfl) ?_
          refine ax_e (e_st rfl rfl rfl rfl rfl rfl rfl) ?_
          refine ax_q (q_mov rfl) ?_
          refine ax_nil ?_
          refine cx_keep rfl rfl ?_
          refine cx_ret (ret0 rfl rfl ?_)
          exact ⟨by rw [ari_0 h0 h1 h2 h3]; rfl, rfl⟩
        · have h3 := dF h3
          refine cx_skip ?_
          refine cx_keep rfl rfl ?_
          refine cx_ops ?_
          refine ax_q (q_mov rfl) ?_
          refine ax_q (q_mov rfl) ?_
          refine ax_qe (r' := int (a.tdiv b)) (q_idiv rfl rfl rfl (by omega)) (by have := tdivB (a := a) (b := b) hn; rw [wi (by omega) (by omega)]) ?_
          refine ax_q (q_mov rfl) ?_
          refine ax_nil ?_
          refine cx_keep rfl rfl ?_
          refine cx_seq ?_
          refine cx_seq ?_
          refine cx_ops ?_
          refine ax_q (q_mov rfl) ?_
          first | refine ax_call rfl (vc_pure0 (c_isNumber  ) hP rfl rfl ?_) | refine ax_call rfl (vc_lend0 (c_isNumber  ) hP (by repeat (first | exact lal_id _ rfl | exact LAL.nil | refine LAL.cons ?_ ?_ | exact la_id _ rfl | exact LA.lend (lend_whole rfl (by first | (simp; done) | (rw [List.length_map]; rfl))) | refine LA.agg ?_ | refine LA.fn ?_ | refine LA.lend ?_ | exact Lend.d _ | exact Lend.zs _ | exact lend_whole rfl (by first | (simp; done) | (rw [List.length_map]; rfl)) | refine Lend.ptr rfl ?_ | refine Lend.fn ?_ | exact LendL.nil | refine LendL.cons ?_ ?_)) rfl rfl ?_)
          refine ax_q (q_not rfl) ?_
          refine ax_nil ?_
          refine cx_keep rfl rfl ?_
          refine cx_cond rfl (fun h4 => ?_) (fun h4 => ?_)
          · have h4 := bT h4
            refine cx_seq ?_
            refine cx_ops ?_
            refine ax_q (q_build rfl) ?_
            refine ax_e (e_st rfl rfl rfl rfl rfl rfl rfl) ?_
            refine ax_q (q_mov rfl) ?_
            refine ax_nil ?_
            refine cx_keep rfl rfl ?_
            refine cx_ret (ret0 rfl rfl ?_)
            exact ⟨by rw [ari_d h0 h1 h2 h3, bnd_no h4]; rfl, rfl⟩
          · have h4 := bF h4
            refine cx_skip ?_
            refine cx_keep rfl rfl ?_
            refine cx_seq ?_
            refine cx_ops ?_
            refine ax_q (q_mov rfl) ?_
            first | refine ax_call rfl (vc_pure0 (c_numberValue  ) hP rfl rfl ?_) | refine ax_call rfl (vc_lend0 (c_numberValue  ) hP (by repeat (first | exact lal_id _ rfl | exact LAL.nil | refine LAL.cons ?_ ?_ | exact la_id _ rfl | exact LA.lend (lend_whole rfl (by first | (simp; done) | (rw [List.length_map]; rfl))) | refine LA.agg ?_ | refine LA.fn ?_ | refine LA.lend ?_ | exact Lend.d _ | exact Lend.zs _ | exact lend_whole rfl (by first | (simp; done) | (rw [List.length_map]; rfl)) | refine Lend.ptr rfl ?_ | refine Lend.fn ?_ | exact LendL.nil | refine LendL.cons ?_ ?_)) rfl rfl ?_)
            refine ax_e (e_st rfl rfl rfl rfl rfl rfl rfl) ?_
            refine ax_q (q_mov rfl) ?_
            refine ax_nil ?_
            refine cx_keep rfl rfl ?_
            refine cx_ret (ret0 rfl rfl ?_)
            exact ⟨by rw [ari_d h0 h1 h2 h3, bnd_yes h4]; rfl, rfl⟩


/- loop.example/g00332/impl.binary -/
def k_c_binary : XCode :=
  .seq (.ops [.op (some 4) (.box (.t 1)),
     .op (some 5) (.box (.t 2)),
     .op (some 6) (.alloc [.int .i64 0, .int .i64 0, .str []]),
     .op (some 7) (.mov (.k (.int .i64 0)))])
  (.keep [0, 4, 5, 6] (.seq (.seq (.ops [.op (some 9) (.mov (.t 0)),
      .op (some 10) (.bin .eql (.t 9) (.k (.int .i64 12))),
      .op (some 11) (.mov (.t 10)),
      .andor 14 false 2 11 [.op (some 12) (.mov (.t 0)), .op (some 13) (.bin .eql (.t 12) (.k (.int .i64 13)))] (.t 13)])
   (.keep [0, 4, 5, 6, 14] (.cond (.t 14)
    (.seq (.ops [.op (some 15) (.mov (.t 0)),
        .op (some 16) (.loadN 3 (.t 4)),
        .op (some 17) (.loadN 3 (.t 5)),
        .call (some 18) 107 [.t 15, .t 16, .t 17],
        .op (some 19) (.ext (.t 18) 0),
        .op (some 20) (.ext (.t 18) 1),
        .op none (.store 3 (.t 6) (.t 19)),
        .op (some 7) (.mov (.t 20))])
     (.keep [6, 7] (.ret)))
    (.skip))))
  (.keep [0, 4, 5, 6] (.seq (.ops [.op (some 21) (.mov (.t 0)),
     .op (some 22) (.bin .eql (.t 21) (.k (.int .i64 10))),
     .op (some 23) (.mov (.t 22)),
     .andor 26 false 2 23 [.op (some 24) (.mov (.t 0)), .op (some 25) (.bin .eql (.t 24) (.k (.int .i64 11)))] (.t 25),
     .op (some 8) (.mov (.t 26))])
  (.keep [0, 4, 5, 6, 8] (.seq (.block 0 (.seq (.ops [.op (some 28) (.mov (.t 8)),
       .op (some 29) (.not (.t 28)),
       .op (some 30) (.mov (.t 29)),
       .andor 39 true 2 30 [.op (some 31) (.fadr (.t 4) 0), .op (some 32) (.load1 (.t 31)), .op (some 33) (.bin .eql (.t 32) (.k (.int .i64 2))), .op (some 34) (.mov (.t 33)), .andor 38 false 6 34 [.op (some 35) (.fadr (.t 5) 0), .op (some 36) (.load1 (.t 35)), .op (some 37) (.bin .eql (.t 36) (.k (.int .i64 2)))] (.t 37)] (.t 38),
       .op (some 27) (.mov (.t 39))])
    (.keep [0, 4, 5, 6, 27] (.cond (.t 27)
     (.seq (.ops [.op (some 40) (.build [.int .i64 0, .int .i64 0, .str []] []),
         .op none (.store 3 (.t 6) (.t 40)),
         .op (some 7) (.mov (.k (.int .i64 10)))])
      (.keep [6, 7] (.ret)))
     (.seq (.ops [.op (some 42) (.fadr (.t 4) 0),
         .op (some 43) (.load1 (.t 42)),
         .op (some 44) (.bin .eql (.t 43) (.k (.int .i64 0))),
         .op (some 45) (.mov (.t 44)),
         .andor 49 false 3 45 [.op (some 46) (.fadr (.t 5) 0), .op (some 47) (.load1 (.t 46)), .op (some 48) (.bin .eql (.t 47) (.k (.int .i64 0)))] (.t 48),
         .op (some 41) (.mov (.t 49))])
      (.keep [0, 4, 5, 6, 41] (.cond (.t 41)
       (.seq (.ops [.op (some 50) (.build [.int .i64 0, .int .i64 0, .str []] []),
           .op none (.store 3 (.t 6) (.t 50)),
           .op (some 7) (.mov (.k (.int .i64 0)))])
        (.keep [6, 7] (.ret)))
       (.seq (.ops [.op (some 52) (.fadr (.t 4) 0),
           .op (some 53) (.load1 (.t 52)),
           .op (some 54) (.fadr (.t 5) 0),
           .op (some 55) (.load1 (.t 54)),
           .op (some 56) (.bin .neq (.t 53) (.t 55)),
           .op (some 51) (.mov (.t 56))])
        (.keep [0, 4, 5, 6, 51] (.cond (.t 51)
         (.seq (.ops [.op (some 57) (.build [.int .i64 0, .int .i64 0, .str []] []),
             .op none (.store 3 (.t 6) (.t 57)),
             .op (some 7) (.mov (.k (.int .i64 10)))])
          (.keep [6, 7] (.ret)))
         (.seq (.ops [.op (some 59) (.mov (.t 0)),
             .op (some 60) (.bin .eql (.t 59) (.k (.int .i64 10))),
             .op (some 58) (.mov (.t 60))])
          (.keep [0, 4, 5, 6, 58] (.cond (.t 58)
           (.seq (.ops [.op (some 61) (.loadN 3 (.t 4)),
               .op (some 62) (.loadN 3 (.t 5)),
               .op (some 63) (.eqs false [0, 0, 2] (.t 61) (.t 62)),
               .call (some 64) 94 [.t 63],
               .op none (.store 3 (.t 6) (.t 64)),
               .op (some 7) (.mov (.k (.int .i64 0)))])
            (.keep [6, 7] (.ret)))
           (.seq (.ops [.op (some 66) (.mov (.t 0)),
               .op (some 67) (.bin .eql (.t 66) (.k (.int .i64 11))),
               .op (some 65) (.mov (.t 67))])
            (.keep [0, 4, 5, 6, 65] (.cond (.t 65)
             (.seq (.ops [.op (some 68) (.loadN 3 (.t 4)),
                 .op (some 69) (.loadN 3 (.t 5)),
                 .call (some 70) 108 [.t 68, .t 69],
                 .op (some 71) (.bin .lss (.t 70) (.k (.int .i64 0))),
                 .call (some 72) 94 [.t 71],
                 .op none (.store 3 (.t 6) (.t 72)),
                 .op (some 7) (.mov (.k (.int .i64 0)))])
              (.keep [6, 7] (.ret)))
             (.skip)))))))))))))))))
  (.keep [0, 4, 5, 6] (.seq (.ops [.op (some 73) (.mov (.t 0)),
     .op (some 74) (.fadr (.t 4) 1),
     .op (some 75) (.load1 (.t 74)),
     .op (some 76) (.fadr (.t 5) 1),
     .op (some 77) (.load1 (.t 76)),
     .call (some 78) 109 [.t 73, .t 75, .t 77],
     .op (some 79) (.ext (.t 78) 0),
     .op (some 80) (.ext (.t 78) 1),
     .op none (.store 3 (.t 6) (.t 79)),
     .op (some 7) (.mov (.t 80))])
  (.keep [6, 7] (.ret))))))))))
theorem k_c_binary_fits : fitsF Try.prog 91 ⟨81, k_c_binary, [.cN 6 3, .t 7]⟩ = true := by kernel_rfl
theorem c_binary {op : Int} {a b : GValue} (ha : RV a) (hb : RV b) : Con Try.prog noMv 91 [int op, a.av, b.av] [] (fun r h => r = .tup [(binF op a b).1.av, int (binF op a b).2] ∧ h = []) := by
  refine con_of2 k_c_binary_fits rfl fun C hP hmv => ?_
  unfold k_c_binary
  have hn := ha.n; have hm := hb.n; have hmul := mulB hn hm; have hka := ha.k; have hkb := hb.k
  refine cx_seq ?_
  refine cx_ops ?_
  refine ax_e (e_box rfl rfl (by decide) rfl rfl rfl) ?_
  refine ax_e (e_box rfl rfl (by decide) rfl rfl rfl) ?_
  refine ax_e (e_alloc (by decide) rfl rfl) ?_
  refine ax_q (q_mov rfl) ?_
  refine ax_nil ?_
  refine cx_keep rfl rfl ?_
  refine cx_seq ?_
  refine cx_seq ?_
  refine cx_ops ?_
  refine ax_q (q_mov rfl) ?_
  refine ax_q (q_ibin rfl rfl rfl) ?_
  refine ax_q (q_mov rfl) ?_
  apply ax_or rfl rfl
  · intro g
    have g := dF g
    refine ax_q (q_mov rfl) ?_
    refine ax_q (q_ibin rfl rfl rfl) ?_
    exact ax_nil ⟨rfl, by repeat (first | exact trivial | refine ⟨rfl, ?_⟩ | refine ⟨?_, ?_⟩)⟩
  refine ax_nil ?_
  refine cx_keep rfl rfl ?_
  refine cx_cond rfl (fun h0 => ?_) (fun h0 => ?_)
  · have h0 := (fun h => (or_T h).imp dT dT) h0
    refine cx_seq ?_
    refine cx_ops ?_
    refine ax_q (q_mov rfl) ?_
    first | refine ax_q (q_ldN rfl rfl rfl) ?_ | refine ax_q (q_loadN_ip rfl (Nat.le_refl _)) ?_ | refine ax_q (q_loadN_ip rfl (by decide)) ?_ | refine ax_q (q_loadN_rptr rfl rfl (by assumption) (by decide)) ?_ | refine ax_q (q_loadN_rptr rfl rfl (mapAt (by first | assumption | omega)) (by decide)) ?_
    first | refine ax_q (q_ldN rfl rfl rfl) ?_ | refine ax_q (q_loadN_ip rfl (Nat.le_refl _)) ?_ | refine ax_q (q_loadN_ip rfl (by decide)) ?_ | refine ax_q (q_loadN_rptr rfl rfl (by assumption) (by decide)) ?_ | refine ax_q (q_loadN_rptr rfl rfl (mapAt (by first | assumption | omega)) (by decide)) ?_
    first | refine ax_call rfl (vc_pure0 (c_connect (a := a) (b := b) ?_ ?_) hP rfl rfl ?_) | refine ax_call rfl (vc_lend0 (c_connect (a := a) (b := b) ?_ ?_) hP (by repeat (first | exact lal_id _ rfl | exact LAL.nil | refine LAL.cons ?_ ?_ | exact la_id _ rfl | exact LA.lend (lend_whole rfl (by first | (simp; done) | (rw [List.length_map]; rfl))) | refine LA.agg ?_ | refine LA.fn ?_ | refine LA.lend ?_ | exact Lend.d _ | exact Lend.zs _ | exact lend_whole rfl (by first | (simp; done) | (rw [List.length_map]; rfl)) | refine Lend.ptr rfl ?_ | refine Lend.fn ?_ | exact LendL.nil | refine LendL.cons ?_ ?_)) rfl rfl ?_)
    · first | assumption | omega | (simp; done) | (simp; omega)
    · first | assumption | omega | (simp; done) | (simp; omega)
    refine ax_q (q_ext rfl rfl) ?_
    refine ax_q (q_ext rfl rfl) ?_
    refine ax_e (e_st rfl rfl rfl rfl rfl rfl rfl) ?_
    refine ax_q (q_mov rfl) ?_
    refine ax_nil ?_
    refine cx_keep rfl rfl ?_
    refine cx_ret (ret0 rfl rfl ?_)
    have e : binF op a b = conF op a b := by unfold binF; rw [if_pos h0]
    exact ⟨by rw [e]; rfl, rfl⟩
  · have h0 := (fun h => And.intro (dF (or_F h).1) (dF (or_F h).2)) h0
    refine cx_skip ?_
    refine cx_keep rfl rfl ?_
    refine cx_seq ?_
    refine cx_ops ?_
    refine ax_q (q_mov rfl) ?_
    refine ax_q (q_ibin rfl rfl rfl) ?_
    refine ax_q (q_mov rfl) ?_
    apply ax_or rfl rfl
    · intro g
      have g := dF g
      refine ax_q (q_mov rfl) ?_
      refine ax_q (q_ibin rfl rfl rfl) ?_
      exact ax_nil ⟨rfl, by repeat (first | exact trivial | refine ⟨rfl, ?_⟩ | refine ⟨?_, ?_⟩)⟩
    refine ax_q (q_mov rfl) ?_
    refine ax_nil ?_
    refine cx_keep rfl rfl ?_
    refine cx_seq ?_
    refine cx_block ?_
    refine cx_seq ?_
    refine cx_ops ?_
    refine ax_q (q_mov rfl) ?_
    refine ax_q (q_not rfl) ?_
    refine ax_q (q_mov rfl) ?_
    apply ax_and rfl rfl
    · intro g
      have g := (fun h => (fun h => And.intro (dF (or_F h).1) (dF (or_F h).2)) (bT h)) g
      first | refine ax_q (q_fadr_ptr rfl) ?_ | refine ax_q (q_fadr_rptr rfl) ?_ | refine ax_q (q_fadr_ip rfl) ?_
      first | refine ax_q (q_load1_ptr rfl rfl rfl) ?_ | refine ax_q (q_load1_ip rfl) ?_ | refine ax_q (q_load1_rptr rfl rfl rfl rfl) ?_ | refine ax_q (q_load1_rptr rfl rfl (by assumption) rfl) ?_ | refine ax_q (q_load1_rptr rfl rfl (mapAt (by first | assumption | omega)) rfl) ?_
      refine ax_q (q_ibin rfl rfl rfl) ?_
      refine ax_q (q_mov rfl) ?_
      apply ax_or rfl rfl
      · intro g
        have g := dF g
        first | refine ax_q (q_fadr_ptr rfl) ?_ | refine ax_q (q_fadr_rptr rfl) ?_ | refine ax_q (q_fadr_ip rfl) ?_
        first | refine ax_q (q_load1_ptr rfl rfl rfl) ?_ | refine ax_q (q_load1_ip rfl) ?_ | refine ax_q (q_load1_rptr rfl rfl rfl rfl) ?_ | refine ax_q (q_load1_rptr rfl rfl (by assumption) rfl) ?_ | refine ax_q (q_load1_rptr rfl rfl (mapAt (by first | assumption | omega)) rfl) ?_
        refine ax_q (q_ibin rfl rfl rfl) ?_
        exact ax_nil ⟨rfl, by repeat (first | exact trivial | refine ⟨rfl, ?_⟩ | refine ⟨?_, ?_⟩)⟩
      exact ax_nil ⟨rfl, by repeat (first | exact trivial | refine ⟨rfl, ?_⟩ | refine ⟨?_, ?_⟩)⟩
    refine ax_q (q_mov rfl) ?_
    refine ax_nil ?_
    refine cx_keep rfl rfl ?_
    refine cx_cond rfl (fun h1 => ?_) (fun h1 => ?_)
    · have h1 := (fun h => And.intro ((fun h => (fun h => And.intro (dF (or_F h).1) (dF (or_F h).2)) (bT h)) (and_T h).1) ((fun h => (or_T h).imp dT dT) (and_T h).2)) h1
      refine cx_seq ?_
      refine cx_ops ?_
      refine ax_q (q_build rfl) ?_
      refine ax_e (e_st rfl rfl rfl rfl rfl rfl rfl) ?_
      refine ax_q (q_mov rfl) ?_
      refine ax_nil ?_
      refine cx_keep rfl rfl ?_
      refine cx_ret (ret0 rfl rfl ?_)
      have e : binF op a b = (.zero, 10) := by unfold binF; rw [if_neg (by omega), if_pos (by omega)]
      exact ⟨by rw [e]; rfl, rfl⟩
    · have h1 := (fun h => (and_F h).imp (fun h => (fun h => (or_T h).imp dT dT) (bF h)) (fun h => And.intro (dF (or_F h).1) (dF (or_F h).2))) h1
      refine cx_seq ?_
      refine cx_ops ?_
      first | refine ax_q (q_fadr_ptr rfl) ?_ | refine ax_q (q_fadr_rptr rfl) ?_ | refine ax_q (q_fadr_ip rfl) ?_
      first | refine ax_q (q_load1_ptr rfl rfl rfl) ?_ | refine ax_q (q_load1_ip rfl) ?_ | refine ax_q (q_load1_rptr rfl rfl rfl rfl) ?_ | refine ax_q (q_load1_rptr rfl rfl (by assumption) rfl) ?_ | refine ax_q (q_load1_rptr rfl rfl (mapAt (by first | assumption | omega)) rfl) ?_
      refine ax_q (q_ibin rfl rfl rfl) ?_
      refine ax_q (q_mov rfl) ?_
      apply ax_or rfl rfl
      · intro g
        have g := dF g
        first | refine ax_q (q_fadr_ptr rfl) ?_ | refine ax_q (q_fadr_rptr rfl) ?_ | refine ax_q (q_fadr_ip rfl) ?_
        first | refine ax_q (q_load1_ptr rfl rfl rfl) ?_ | refine ax_q (q_load1_ip rfl) ?_ | refine ax_q (q_load1_rptr rfl rfl rfl rfl) ?_ | refine ax_q (q_load1_rptr rfl rfl (by assumption) rfl) ?_ | refine ax_q (q_load1_rptr rfl rfl (mapAt (by first | assumption | omega)) rfl) ?_
        refine ax_q (q_ibin rfl rfl rfl) ?_
        exact ax_nil ⟨rfl, by repeat (first | exact trivial | refine ⟨rfl, ?_⟩ | refine ⟨?_, ?_⟩)⟩
      refine ax_q (q_mov rfl) ?_
      refine ax_nil ?_
      refine cx_keep rfl rfl ?_
      refine cx_cond rfl (fun h2 => ?_) (fun h2 => ?_)
      · have h2 := (fun h => (or_T h).imp dT dT) h2
        refine cx_seq ?_
        refine cx_ops ?_
        refine ax_q (q_build rfl) ?_
        refine ax_e (e_st rfl rfl rfl rfl rfl rfl rfl) ?_
        refine ax_q (q_mov rfl) ?_
        refine ax_nil ?_
        refine cx_keep rfl rfl ?_
        refine cx_ret (ret0 rfl rfl ?_)
        have e : binF op a b = (.zero, 0) := by unfold binF; rw [if_neg (by omega), if_neg (by omega), if_pos (by omega)]
        exact ⟨by rw [e]; rfl, rfl⟩
      · have h2 := (fun h => And.intro (dF (or_F h).1) (dF (or_F h).2)) h2
        refine cx_seq ?_
        refine cx_ops ?_
        first | refine ax_q (q_fadr_ptr rfl) ?_ | refine ax_q (q_fadr_rptr rfl) ?_ | refine ax_q (q_fadr_ip rfl) ?_
        first | refine ax_q (q_load1_ptr rfl rfl rfl) ?_ | refine ax_q (q_load1_ip rfl) ?_ | refine ax_q (q_load1_rptr rfl rfl rfl rfl) ?_ | refine ax_q (q_load1_rptr rfl rfl (by assumption) rfl) ?_ | refine ax_q (q_load1_rptr rfl rfl (mapAt (by first | assumption | omega)) rfl) ?_
        first | refine ax_q (q_fadr_ptr rfl) ?_ | refine ax_q (q_fadr_rptr rfl) ?_ | refine ax_q (q_fadr_ip rfl) ?_
        first | refine ax_q (q_load1_ptr rfl rfl rfl) ?_ | refine ax_q (q_load1_ip rfl) ?_ | refine ax_q (q_load1_rptr rfl rfl rfl rfl) ?_ | refine ax_q (q_load1_rptr rfl rfl (by assumption) rfl) ?_ | refine ax_q (q_load1_rptr rfl rfl (mapAt (by first | assumption | omega)) rfl) ?_
        refine ax_q (q_ibin rfl rfl rfl) ?_
        refine ax_q (q_mov rfl) ?_
        refine ax_nil ?_
        refine cx_keep rfl rfl ?_
        refine cx_cond rfl (fun h3 => ?_) (fun h3 => ?_)
        · have h3 := nT h3
          refine cx_seq ?_
          refine cx_ops ?_
          refine ax_q (q_build rfl) ?_
          refine ax_e (e_st rfl rfl rfl rfl rfl rfl rfl) ?_
          refine ax_q (q_mov rfl) ?_
          refine ax_nil ?_
          refine cx_keep rfl rfl ?_
          refine cx_ret (ret0 rfl rfl ?_)
          have e : binF op a b = (.zero, 10) := by unfold binF; rw [if_neg (by omega), if_neg (by omega), if_neg (by omega), if_pos (by omega)]
          exact ⟨by rw [e]; rfl, rfl⟩
        · have h3 := nF h3
          refine cx_seq ?_
          refine cx_ops ?_
          refine ax_q (q_mov rfl) ?_
          refine ax_q (q_ibin rfl rfl rfl) ?_
          refine ax_q (q_mov rfl) ?_
          refine ax_nil ?_
          refine cx_keep rfl rfl ?_
          refine cx_cond rfl (fun h4 => ?_) (fun h4 => ?_)
          · have h4 := dT h4
            refine cx_seq ?_
            refine cx_ops ?_
            first | refine ax_q (q_ldN rfl rfl rfl) ?_ | refine ax_q (q_loadN_ip rfl (Nat.le_refl _)) ?_ | refine ax_q (q_loadN_ip rfl (by decide)) ?_ | refine ax_q (q_loadN_rptr rfl rfl (by assumption) (by decide)) ?_ | refine ax_q (q_loadN_rptr rfl rfl (mapAt (by first | assumption | omega)) (by decide)) ?_
            first | refine ax_q (q_ldN rfl rfl rfl) ?_ | refine ax_q (q_loadN_ip rfl (Nat.le_refl _)) ?_ | refine ax_q (q_loadN_ip rfl (by decide)) ?_ | refine ax_q (q_loadN_rptr rfl rfl (by assumption) (by decide)) ?_ | refine ax_q (q_loadN_rptr rfl rfl (mapAt (by first | assumption | omega)) (by decide)) ?_
            refine ax_qe (r' := bool (eqV a b)) (q_eqs rfl rfl rfl) (rfl) ?_
            first | refine ax_call rfl (vc_pure0 (c_truth  ) hP rfl rfl ?_) | refine ax_call rfl (vc_lend0 (c_truth  ) hP (by repeat (first | exact lal_id _ rfl | exact LAL.nil | refine LAL.cons ?_ ?_ | exact la_id _ rfl | exact LA.lend (lend_whole rfl (by first | (simp; done) | (rw [List.length_map]; rfl))) | refine LA.agg ?_ | refine LA.fn ?_ | refine LA.lend ?_ | exact Lend.d _ | exact Lend.zs _ | exact lend_whole rfl (by first | (simp; done) | (rw [List.length_map]; rfl)) | refine Lend.ptr rfl ?_ | refine Lend.fn ?_ | exact LendL.nil | refine LendL.cons ?_ ?_)) rfl rfl ?_)
            refine ax_e (e_st rfl rfl rfl rfl rfl rfl rfl) ?_
            refine ax_q (q_mov rfl) ?_
            refine ax_nil ?_
            refine cx_keep rfl rfl ?_
            refine cx_ret (ret0 rfl rfl ?_)
            have e : binF op a b = (vB (eqV a b), 0) := by unfold binF; rw [if_neg (by omega), if_neg (by omega), if_neg (by omega), if_neg (by omega), if_pos (by omega)]
            exact ⟨by rw [e]; rfl, rfl⟩
          · have h4 := dF h4
            refine cx_seq ?_
            refine cx_ops ?_
            refine ax_q (q_mov rfl) ?_
            refine ax_q (q_ibin rfl rfl rfl) ?_
            refine ax_q (q_mov rfl) ?_
            refine ax_nil ?_
            refine cx_keep rfl rfl ?_
            refine cx_cond rfl (fun h5 => ?_) (fun h5 => ?_)
            · have h5 := dT h5
              refine cx_seq ?_
              refine cx_ops ?_
              first | refine ax_q (q_ldN rfl rfl rfl) ?_ | refine ax_q (q_loadN_ip rfl (Nat.le_refl _)) ?_ | refine ax_q (q_loadN_ip rfl (by decide)) ?_ | refine ax_q (q_loadN_rptr rfl rfl (by assumption) (by decide)) ?_ | refine ax_q (q_loadN_rptr rfl rfl (mapAt (by first | assumption | omega)) (by decide)) ?_
              first | refine ax_q (q_ldN rfl rfl rfl) ?_ | refine ax_q (q_loadN_ip rfl (Nat.le_refl _)) ?_ | refine ax_q (q_loadN_ip rfl (by decide)) ?_ | refine ax_q (q_loadN_rptr rfl rfl (by assumption) (by decide)) ?_ | refine ax_q (q_loadN_rptr rfl rfl (mapAt (by first | assumption | omega)) (by decide)) ?_
              first | refine ax_call rfl (vc_pure0 (c_compareValues (a := a) (b := b) ) hP rfl rfl ?_) | refine ax_call rfl (vc_lend0 (c_compareValues (a := a) (b := b) ) hP (by repeat (first | exact lal_id _ rfl | exact LAL.nil | refine LAL.cons ?_ ?_ | exact la_id _ rfl | exact LA.lend (lend_whole rfl (by first | (simp; done) | (rw [List.length_map]; rfl))) | refine LA.agg ?_ | refine LA.fn ?_ | refine LA.lend ?_ | exact Lend.d _ | exact Lend.zs _ | exact lend_whole rfl (by first | (simp; done) | (rw [List.length_map]; rfl)) | refine Lend.ptr rfl ?_ | refine Lend.fn ?_ | exact LendL.nil | refine LendL.cons ?_ ?_)) rfl rfl ?_)
              refine ax_q (q_ibin rfl rfl rfl) ?_
              first | refine ax_call rfl (vc_pure0 (c_truth  ) hP rfl rfl ?_) | refine ax_call rfl (vc_lend0 (c_truth  ) hP (by repeat (first | exact lal_id _ rfl | exact LAL.nil | refine LAL.cons ?_ ?_ | exact la_id _ rfl | exact LA.lend (lend_whole rfl (by first | (simp; done) | (rw [List.length_map]; rfl))) | refine LA.agg ?_ | refine LA.fn ?_ | refine LA.lend ?_ | exact Lend.d _ | exact Lend.zs _ | exact lend_whole rfl (by first | (simp; done) | (rw [List.length_map]; rfl)) | refine Lend.ptr rfl ?_ | refine Lend.fn ?_ | exact LendL.nil | refine LendL.cons ?_ ?_)) rfl rfl ?_)
              refine ax_e (e_st rfl rfl rfl rfl rfl rfl rfl) ?_
              refine ax_q (q_mov rfl) ?_
              refine ax_nil ?_
              refine cx_keep rfl rfl ?_
              refine cx_ret (ret0 rfl rfl ?_)
              have e : binF op a b = (vB (decide (cmpV a b < 0)), 0) := by unfold binF; rw [if_neg (by omega), if_neg (by omega), if_neg (by omega), if_neg (by omega), if_neg (by omega), if_pos (by omega)]
              exact ⟨by rw [e]; rfl, rfl⟩
            · have h5 := dF h5
              refine cx_skip ?_
              refine cx_keep rfl rfl ?_
              refine cx_seq ?_
              refine cx_ops ?_
              refine ax_q (q_mov rfl) ?_
              first | refine ax_q (q_fadr_ptr rfl) ?_ | refine ax_q (q_fadr_rptr rfl) ?_ | refine ax_q (q_fadr_ip rfl) ?_
              first | refine ax_q (q_load1_ptr rfl rfl rfl) ?_ | refine ax_q (q_load1_ip rfl) ?_ | refine ax_q (q_load1_rptr rfl rfl rfl rfl) ?_ | refine ax_q (q_load1_rptr rfl rfl (by assumption) rfl) ?_ | refine ax_q (q_load1_rptr rfl rfl (mapAt (by first | assumption | omega)) rfl) ?_
              first | refine ax_q (q_fadr_ptr rfl) ?_ | refine ax_q (q_fadr_rptr rfl) ?_ | refine ax_q (q_fadr_ip rfl) ?_
              first | refine ax_q (q_load1_ptr rfl rfl rfl) ?_ | refine ax_q (q_load1_ip rfl) ?_ | refine ax_q (q_load1_rptr rfl rfl rfl rfl) ?_ | refine ax_q (q_load1_rptr rfl rfl (by assumption) rfl) ?_ | refine ax_q (q_load1_rptr rfl rfl (mapAt (by first | assumption | omega)) rfl) ?_
              first | refine ax_call rfl (vc_pure0 (c_arith  ?_ ?_) hP rfl rfl ?_) | refine ax_call rfl (vc_lend0 (c_arith  ?_ ?_) hP (by repeat (first | exact lal_id _ rfl | exact LAL.nil | refine LAL.cons ?_ ?_ | exact la_id _ rfl | exact LA.lend (lend_whole rfl (by first | (simp; done) | (rw [List.length_map]; rfl))) | refine LA.agg ?_ | refine LA.fn ?_ | refine LA.lend ?_ | exact Lend.d _ | exact Lend.zs _ | exact lend_whole rfl (by first | (simp; done) | (rw [List.length_map]; rfl)) | refine Lend.ptr rfl ?_ | refine Lend.fn ?_ | exact LendL.nil | refine LendL.cons ?_ ?_)) rfl rfl ?_)
              · first | assumption | omega | (simp; done) | (simp; omega)
              · first | assumption | omega | (simp; done) | (simp; omega)
              refine ax_q (q_ext rfl rfl) ?_
              refine ax_q (q_ext rfl rfl) ?_
              refine ax_e (e_st rfl rfl rfl rfl rfl rfl rfl) ?_
              refine ax_q (q_mov rfl) ?_
              refine ax_nil ?_
              refine cx_keep rfl rfl ?_
              refine cx_ret (ret0 rfl rfl ?_)
              have e : binF op a b = ariF op a.N b.N := by unfold binF; rw [if_neg (by omega), if_neg (by omega), if_neg (by omega), if_neg (by omega), if_neg (by omega), if_neg (by omega)]
              exact ⟨by rw [e]; rfl, rfl⟩


/- loop.example/g00332/impl.runCode -/
def k_c_runCode : XCode :=
  .seq (.ops [.op (some 3) (.box (.t 1)),
     .op (some 4) (.alloc [.int .i64 0, .int .i64 0, .str []]),
     .op (some 5) (.mov (.k (.int .i64 0)))])
  (.keep [0, 3, 4] (.seq (.ops [.op (some 11) (.bslice 3 []),
     .op (some 6) (.mov (.t 11))])
  (.keep [0, 3, 4, 6] (.seq (.seq (.ops [.op (some 7) (.mov (.k (.int .i64 0)))])
   (.keep [0, 3, 4, 6, 7] (.block 0 (.loop (.seq (.seq (.ops [.op (some 12) (.mov (.t 7)),
         .op (some 13) (.mov (.t 0)),
         .op (some 14) (.lenS (.t 13)),
         .op (some 15) (.bin .lss (.t 12) (.t 14))])
      (.keep [0, 3, 4, 6, 7, 15] (.cond (.t 15)
       (.skip)
       (.exit 0))))
     (.keep [0, 3, 4, 6, 7] (.seq (.block 1 (.seq (.ops [.op (some 18) (.mov (.t 0)),
          .op (some 19) (.mov (.t 7)),
          .op (some 20) (.iadr 5 (.t 18) (.t 19)),
          .op (some 21) (.loadN 5 (.t 20)),
          .op (some 22) (.mov (.t 6)),
          .op (some 23) (.lenS (.t 22)),
          .op (some 24) (.bin .sub (.t 23) (.k (.int .i64 1))),
          .op (some 8) (.alloc [.int .i64 0, .int .i64 0, .int .i64 0, .int .i64 0, .str []]),
          .op none (.store 5 (.t 8) (.t 21)),
          .op (some 9) (.mov (.t 24))])
       (.keep [0, 3, 4, 6, 7, 8, 9] (.seq (.ops [.op (some 10) (.mov (.k (.int .i64 0)))])
       (.keep [0, 3, 4, 6, 7, 8, 9, 10] (.seq (.seq (.ops [.op (some 25) (.fadr (.t 8) 0),
           .op (some 26) (.load1 (.t 25))])
        (.keep [0, 3, 4, 6, 7, 8, 9, 10, 26] (.block 2 (.seq (.ops [.op (some 28) (.bin .eql (.t 26) (.k (.int .i64 1))),
            .op (some 27) (.mov (.t 28))])
         (.keep [0, 3, 4, 6, 7, 8, 9, 10, 26, 27] (.cond (.t 27)
          (.ops [.op (some 29) (.mov (.t 6)),
             .op (some 30) (.fadr (.t 8) 2),
             .op (some 31) (.loadN 3 (.t 30)),
             .op (some 32) (.bslice 3 [.t 31]),
             .op (some 33) (.app 3 32 [.int .i64 0, .int .i64 0, .str []] (.t 29) (.t 32)),
             .op (some 6) (.mov (.t 33))])
          (.seq (.ops [.op (some 35) (.bin .eql (.t 26) (.k (.int .i64 2))),
              .op (some 34) (.mov (.t 35))])
           (.keep [0, 3, 4, 6, 7, 8, 9, 10, 26, 34] (.cond (.t 34)
            (.ops [.op (some 36) (.mov (.t 6)),
               .op (some 37) (.loadN 7 (.t 3)),
               .op (some 38) (.fadr (.t 8) 1),
               .op (some 39) (.load1 (.t 38)),
               .call (some 40) 89 [.t 37, .t 39],
               .op (some 41) (.bslice 3 [.t 40]),
               .op (some 42) (.app 3 32 [.int .i64 0, .int .i64 0, .str []] (.t 36) (.t 41)),
               .op (some 6) (.mov (.t 42))])
            (.seq (.ops [.op (some 44) (.bin .eql (.t 26) (.k (.int .i64 3))),
                .op (some 43) (.mov (.t 44))])
             (.keep [0, 3, 4, 6, 7, 8, 9, 10, 26, 43] (.cond (.t 43)
              (.drawE [[], [], [], [2], [], [], [4, 5], [4, 5, 6], [2, 3, 4, 5, 6, 7], [2, 3, 4, 5, 6, 7, 8], [2, 3, 4, 5, 6, 7, 8, 9], [2, 3, 4, 5, 6, 7, 8, 9], [0, 1, 2, 3, 4, 5, 6, 7, 8, 9, 10], [0, 1, 2, 3, 4, 5, 6, 7, 8, 9, 10, 12], [0, 1, 2, 3, 4, 5, 6, 7, 8, 9, 10, 11, 12, 13]] [.op (some 46) (.mov (.t 6)),
                 .op (some 47) (.mov (.t 9)),
                 .op (some 48) (.fadr (.t 8) 1),
                 .op (some 49) (.load1 (.t 48)),
                 .op (some 50) (.mov (.t 6)),
                 .op (some 51) (.mov (.t 9)),
                 .op (some 52) (.iadr 3 (.t 50) (.t 51)),
                 .op (some 53) (.loadN 3 (.t 52)),
                 .call (some 54) 90 [.t 49, .t 53],
                 .op (some 45) (.mov (.t 54)),
                 .op (some 55) (.ext (.t 45) 0),
                 .op (some 56) (.ext (.t 45) 1),
                 .op (some 57) (.iadr 3 (.t 46) (.t 47)),
                 .op none (.store 3 (.t 57) (.t 55))]
                [.op (some 10) (.mov (.t 56))])
              (.seq (.ops [.op (some 59) (.bin .eql (.t 26) (.k (.int .i64 4))),
                  .op (some 58) (.mov (.t 59))])
               (.keep [0, 3, 4, 6, 7, 8, 9, 10, 26, 58] (.cond (.t 58)
                (.seq (.drawE [[], [], [1], [], [3], [], [], [6], [5, 6, 7], [5, 6, 7, 8], [], [], [10, 11], [10, 11, 12], [3, 4, 5, 6, 7, 8, 9, 10, 11, 12, 13], [3, 4, 5, 6, 7, 8, 9, 10, 11, 12, 13, 14], [3, 4, 5, 6, 7, 8, 9, 10, 11, 12, 13, 14, 15], [3, 4, 5, 6, 7, 8, 9, 10, 11, 12, 13, 14, 15], [0, 1, 2, 3, 4, 5, 6, 7, 8, 9, 10, 11, 12, 13, 14, 15, 16], [0, 1, 2, 3, 4, 5, 6, 7, 8, 9, 10, 11, 12, 13, 14, 15, 16, 18], [0, 1, 2, 3, 4, 5, 6, 7, 8, 9, 10, 11, 12, 13, 14, 15, 16, 17, 18, 19]] [.op (some 61) (.mov (.t 6)),
                    .op (some 62) (.mov (.t 9)),
                    .op (some 63) (.bin .sub (.t 62) (.k (.int .i64 1))),
                    .op (some 64) (.fadr (.t 8) 1),
                    .op (some 65) (.load1 (.t 64)),
                    .op (some 66) (.mov (.t 6)),
                    .op (some 67) (.mov (.t 9)),
                    .op (some 68) (.bin .sub (.t 67) (.k (.int .i64 1))),
                    .op (some 69) (.iadr 3 (.t 66) (.t 68)),
                    .op (some 70) (.loadN 3 (.t 69)),
                    .op (some 71) (.mov (.t 6)),
                    .op (some 72) (.mov (.t 9)),
                    .op (some 73) (.iadr 3 (.t 71) (.t 72)),
                    .op (some 74) (.loadN 3 (.t 73)),
                    .call (some 75) 91 [.t 65, .t 70, .t 74],
                    .op (some 60) (.mov (.t 75)),
                    .op (some 76) (.ext (.t 60) 0),
                    .op (some 77) (.ext (.t 60) 1),
                    .op (some 78) (.iadr 3 (.t 61) (.t 63)),
                    .op none (.store 3 (.t 78) (.t 76))]
                   [.op (some 10) (.mov (.t 77))])
                 (.keep [0, 3, 4, 6, 7, 9, 10] (.ops [.op (some 79) (.mov (.t 6)),
                   .op (some 80) (.mov (.t 9)),
                   .op (some 81) (.slc 3 (.t 79) none (some (.t 80)) none),
                   .op (some 6) (.mov (.t 81))])))
                (.seq (.ops [.op (some 83) (.bin .eql (.t 26) (.k (.int .i64 5))),
                    .op (some 82) (.mov (.t 83))])
                 (.keep [0, 3, 4, 6, 7, 8, 9, 10, 26, 82] (.cond (.t 82)
                  (.seq (.ops [.op (some 84) (.mov (.t 6)),
                      .op (some 85) (.mov (.t 9)),
                      .op (some 86) (.iadr 3 (.t 84) (.t 85)),
                      .op (some 87) (.loadN 3 (.t 86)),
                      .call (some 88) 92 [.t 87]])
                   (.keep [0, 3, 4, 6, 7, 8, 10, 88] (.cond (.t 88)
                    (.ops [.op (some 89) (.fadr (.t 8) 1),
                       .op (some 90) (.load1 (.t 89)),
                       .op (some 91) (.bin .sub (.t 90) (.k (.int .i64 1))),
                       .op (some 7) (.mov (.t 91))])
                    (.skip))))
                  (.seq (.ops [.op (some 93) (.bin .eql (.t 26) (.k (.int .i64 6))),
                      .op (some 92) (.mov (.t 93))])
                   (.keep [0, 3, 4, 6, 7, 8, 9, 10, 92] (.cond (.t 92)
                    (.seq (.ops [.op (some 94) (.mov (.t 6)),
                        .op (some 95) (.mov (.t 9)),
                        .op (some 96) (.iadr 3 (.t 94) (.t 95)),
                        .op (some 97) (.loadN 3 (.t 96)),
                        .call (some 98) 93 [.t 97]])
                     (.keep [0, 3, 4, 6, 7, 8, 9, 10, 98] (.cond (.t 98)
                      (.seq (.ops [.op (some 99) (.mov (.t 6)),
                          .op (some 100) (.mov (.t 9)),
                          .call (some 101) 94 [.k (.bool true)],
                          .op (some 102) (.iadr 3 (.t 99) (.t 100)),
                          .op none (.store 3 (.t 102) (.t 101))])
                       (.keep [0, 3, 4, 6, 8, 10] (.ops [.op (some 103) (.fadr (.t 8) 1),
                         .op (some 104) (.load1 (.t 103)),
                         .op (some 105) (.bin .sub (.t 104) (.k (.int .i64 1))),
                         .op (some 7) (.mov (.t 105))])))
                      (.skip))))
                    (.skip))))))))))))))))))))))
       (.keep [0, 3, 4, 6, 7, 10] (.seq (.ops [.op (some 106) (.mov (.t 10)),
          .op (some 107) (.bin .neq (.t 106) (.k (.int .i64 0)))])
       (.keep [0, 3, 4, 6, 7, 10, 107] (.cond (.t 107)
        (.seq (.ops [.op (some 108) (.build [.int .i64 0, .int .i64 0, .str []] []),
            .op (some 109) (.mov (.t 10)),
            .op none (.store 3 (.t 4) (.t 108)),
            .op (some 5) (.mov (.t 109))])
         (.keep [4, 5] (.ret)))
        (.skip)))))))))))
     (.keep [0, 3, 4, 6, 7] (.ops [.op (some 16) (.mov (.t 7)),
       .op (some 17) (.bin .add (.t 16) (.k (.int .i64 1))),
       .op (some 7) (.mov (.t 17))])))))))))
  (.keep [4, 6] (.seq (.ops [.op (some 110) (.mov (.t 6)),
     .op (some 111) (.iadr 3 (.t 110) (.k (.int .i64 0))),
     .op (some 112) (.loadN 3 (.t 111)),
     .op none (.store 3 (.t 4) (.t 112)),
     .op (some 5) (.mov (.k (.int .i64 0)))])
  (.keep [4, 5] (.ret))))))))
theorem k_c_runCode_fits : fitsF Try.prog 68 ⟨113, k_c_runCode, [.cN 4 3, .t 5]⟩ = true := by kernel_rfl
set_option maxHeartbeats 8000000 in
theorem c_runCode {l : List GIns} {w : GRow} (hc : codeOK l = true) (hw : RR w) : Con Try.prog noMv 68 [.d (.sl 5 (l.map GIns.row)), w.av] [] (fun r h => r = .tup [(runA l w 0 []).1.av, int (runA l w 0 []).2] ∧ h = []) := by
  refine con_of2 k_c_runCode_fits rfl fun C hP hmv => ?_
  unfold k_c_runCode
  obtain ⟨hl, ds, hr, hF, hd1, hd0, hok, hdl, hg⟩ := code_fit hc
  refine cx_seq ?_
  refine cx_ops ?_
  refine ax_e (e_box rfl rfl (by decide) rfl rfl rfl) ?_
  refine ax_e (e_alloc (by decide) rfl rfl) ?_
  refine ax_q (q_mov rfl) ?_
  refine ax_nil ?_
  refine cx_keep rfl rfl ?_
  refine cx_seq ?_
  refine cx_ops ?_
  refine ax_e (e_bslice rfl (by decide) rfl rfl) ?_
  refine ax_q (q_mov rfl) ?_
  refine ax_nil ?_
  refine cx_keep rfl rfl ?_
  refine cx_seq ?_
  refine cx_seq ?_
  refine cx_ops ?_
  refine ax_q (q_mov rfl) ?_
  refine ax_nil ?_
  refine cx_keep rfl rfl ?_
  refine cx_block ?_
  refine cx_loopU (fun n (p : Nat × List GValue × Nat) => p.1 ≤ l.length ∧ n = l.length - p.1 ∧ Stk ds p.1 p.2.1 ∧ runA l w 0 [] = runA l w p.1 p.2.1 ∧ p.2.2 = p.2.1.length) (fun p => [(7, int p.1), (6, .osl 11 3 0 p.2.2)]) (fun p => [(11, .rows 3 (p.2.1.map GValue.row)), (3, .box [.d (.int .i64 w.Id), .d (.int .i64 w.N.Kind), .d (.int .i64 w.N.N), .d (.str w.N.T), .d (.int .i64 w.Name.Kind), .d (.int .i64 w.Name.N), .d (.str w.Name.T)]), (4, .box [.d (.int .i64 0), .d (.int .i64 0), .d (.str [])])]) ⟨_, (0, [], 0), ⟨Nat.zero_le _, rfl, ⟨hd0.symm, fun v hv => by cases hv⟩, rfl, rfl⟩, by repeat (first | exact trivial | refine ⟨rfl, ?_⟩ | refine ⟨?_, ?_⟩)⟩ ?_
  rintro n ⟨k, S, m⟩ ⟨hk, rfl, hS, hrun, hm⟩
  simp only at hk hS hrun hm ⊢
  subst hm
  have hsl := hS.len
  have hdk := dB hg (k := k) (by omega)
  refine cx_seq ?_
  refine cx_seq ?_
  refine cx_ops ?_
  refine ax_q (q_mov rfl) ?_
  refine ax_q (q_mov rfl) ?_
  first | refine ax_q (q_lenS_map rfl) ?_ | refine ax_q (q_lenS_osl rfl) ?_ | refine ax_q (q_lenS_zs rfl) ?_ | refine ax_q (q_lenS rfl) ?_
  refine ax_q (q_ibin rfl rfl rfl) ?_
  refine ax_nil ?_
  refine cx_keep rfl rfl ?_
  refine cx_cond rfl (fun h0 => ?_) (fun h0 => ?_)
  · have h0 := dT h0
    have h0x : k < l.length := by omega
    have hf := hF k h0x
    have hnn := hf.nn
    have hlow := hf.low
    have hins := ins_V hf.ok
    have hI := ins_low hf.ok
    refine cx_skip ?_
    refine cx_keep rfl rfl ?_
    refine cx_seq ?_
    refine cx_block ?_
    refine cx_seq ?_
    refine cx_ops ?_
    refine ax_q (q_mov rfl) ?_
    refine ax_q (q_mov rfl) ?_
    first | refine ax_q (q_ix rfl rfl (by assumption)) ?_ | refine ax_q (q_ix rfl rfl (mapAt (by first | assumption | omega))) ?_ | refine ax_q (q_ixo rfl rfl (by first | assumption | omega)) ?_ | refine ax_q (q_ixI rfl rfl (by omega) (mapAt (by first | assumption | omega))) ?_ | refine ax_q (q_ixoI rfl rfl (by omega) (by omega)) ?_
    first | refine ax_q (q_ldN rfl rfl rfl) ?_ | refine ax_q (q_loadN_ip rfl (Nat.le_refl _)) ?_ | refine ax_q (q_loadN_ip rfl (by decide)) ?_ | refine ax_q (q_loadN_rptr rfl rfl (by assumption) (by decide)) ?_ | refine ax_q (q_loadN_rptr rfl rfl (mapAt (by first | assumption | omega)) (by decide)) ?_
    refine ax_q (q_mov rfl) ?_
    first | refine ax_q (q_lenS_map rfl) ?_ | refine ax_q (q_lenS_osl rfl) ?_ | refine ax_q (q_lenS_zs rfl) ?_ | refine ax_q (q_lenS rfl) ?_
    refine ax_q (q_sub rfl rfl (by omega)) ?_
    refine ax_e (e_alloc (by decide) rfl rfl) ?_
    refine ax_e (e_st rfl rfl rfl rfl rfl rfl rfl) ?_
    refine ax_q (q_mov rfl) ?_
    refine ax_nil ?_
    refine cx_keep rfl rfl ?_
    refine cx_seq ?_
    refine cx_ops ?_
    refine ax_q (q_mov rfl) ?_
    refine ax_nil ?_
    refine cx_keep rfl rfl ?_
    refine cx_seq ?_
    refine cx_seq ?_
    refine cx_ops ?_
    first | refine ax_q (q_fadr_ptr rfl) ?_ | refine ax_q (q_fadr_rptr rfl) ?_ | refine ax_q (q_fadr_ip rfl) ?_
    first | refine ax_q (q_load1_ptr rfl rfl rfl) ?_ | refine ax_q (q_load1_ip rfl) ?_ | refine ax_q (q_load1_rptr rfl rfl rfl rfl) ?_ | refine ax_q (q_load1_rptr rfl rfl (by assumption) rfl) ?_ | refine ax_q (q_load1_rptr rfl rfl (mapAt (by first | assumption | omega)) rfl) ?_
    refine ax_nil ?_
    refine cx_keep rfl rfl ?_
    refine cx_block ?_
    refine cx_seq ?_
    refine cx_ops ?_
    refine ax_q (q_ibin rfl rfl rfl) ?_
    refine ax_q (q_mov rfl) ?_
    refine ax_nil ?_
    refine cx_keep rfl rfl ?_
    refine cx_cond rfl (fun h1 => ?_) (fun h1 => ?_)
    · have h1 := dT h1
      refine cx_ops ?_
      refine ax_q (q_mov rfl) ?_
      first | refine ax_q (q_fadr_ptr rfl) ?_ | refine ax_q (q_fadr_rptr rfl) ?_ | refine ax_q (q_fadr_ip rfl) ?_
      first | refine ax_q (q_ldN rfl rfl rfl) ?_ | refine ax_q (q_loadN_ip rfl (Nat.le_refl _)) ?_ | refine ax_q (q_loadN_ip rfl (by decide)) ?_ | refine ax_q (q_loadN_rptr rfl rfl (by assumption) (by decide)) ?_ | refine ax_q (q_loadN_rptr rfl rfl (mapAt (by first | assumption | omega)) (by decide)) ?_
      refine ax_e (e_bslice rfl (by decide) rfl rfl) ?_
      refine ax_e (e_appn (n' := (S ++ [l[k].V]).length) (rs' := (S ++ [l[k].V]).map GValue.row) rfl rfl (by simp) rfl (src_osl rfl (by simp)) (.inl (by decide)) (hbnd (by omega) (by simp) (by decide)) (by simp) (app1 rfl)) ?_
      refine ax_q (q_mov rfl) ?_
      refine ax_nil ?_
      refine cx_keep rfl rfl ?_
      refine cx_seq ?_
      refine cx_ops ?_
      refine ax_q (q_mov rfl) ?_
      refine ax_q (q_ibin rfl rfl rfl) ?_
      refine ax_nil ?_
      refine cx_keep rfl rfl ?_
      refine cx_cond rfl (fun h9 => ?_) (fun h9 => ?_)
      · have h9 := nT h9
        exact absurd rfl h9
      · have h9 := nF h9
        refine cx_skip ?_
        refine cx_keep rfl rfl ?_
        refine cx_ops ?_
        refine ax_q (q_mov rfl) ?_
        refine ax_qe (r' := int ((k + 1 : Nat) : Int)) (q_ibin rfl rfl rfl) (by rw [wi (by omega) (by omega)]; rfl) ?_
        refine ax_q (q_mov rfl) ?_
        refine ax_nil ?_
        have hn : nxF l[k] w k S = .go (k + 1) (S ++ [l[k].V]) := nx_1 h1
        have hge := nx_ge (l := l) hf.ok h0x hn
        exact ⟨_, (k + 1, S ++ [l[k].V], (S ++ [l[k].V]).length), by simp only; omega, ⟨by simp only; omega, rfl, stk_next hf h0x hS hw hn, hrun.trans (runA_go hok h0x hn), rfl⟩, by repeat (first | exact trivial | refine ⟨rfl, ?_⟩ | refine ⟨?_, ?_⟩)⟩
    · have h1 := dF h1
      refine cx_seq ?_
      refine cx_ops ?_
      refine ax_q (q_ibin rfl rfl rfl) ?_
      refine ax_q (q_mov rfl) ?_
      refine ax_nil ?_
      refine cx_keep rfl rfl ?_
      refine cx_cond rfl (fun h2 => ?_) (fun h2 => ?_)
      · have h2 := dT h2
        have hcol := hins.2.1 h2
        refine cx_ops ?_
        refine ax_q (q_mov rfl) ?_
        first | refine ax_q (q_ldN rfl rfl rfl) ?_ | refine ax_q (q_loadN_ip rfl (Nat.le_refl _)) ?_ | refine ax_q (q_loadN_ip rfl (by decide)) ?_ | refine ax_q (q_loadN_rptr rfl rfl (by assumption) (by decide)) ?_ | refine ax_q (q_loadN_rptr rfl rfl (mapAt (by first | assumption | omega)) (by decide)) ?_
        first | refine ax_q (q_fadr_ptr rfl) ?_ | refine ax_q (q_fadr_rptr rfl) ?_ | refine ax_q (q_fadr_ip rfl) ?_
        first | refine ax_q (q_load1_ptr rfl rfl rfl) ?_ | refine ax_q (q_load1_ip rfl) ?_ | refine ax_q (q_load1_rptr rfl rfl rfl rfl) ?_ | refine ax_q (q_load1_rptr rfl rfl (by assumption) rfl) ?_ | refine ax_q (q_load1_rptr rfl rfl (mapAt (by first | assumption | omega)) rfl) ?_
        first | refine ax_call rfl (vc_pure0 (c_columnOf (k := l[k].N) ?_) hP rfl rfl ?_) | refine ax_call rfl (vc_lend0 (c_columnOf (k := l[k].N) ?_) hP (by repeat (first | exact lal_id _ rfl | exact LAL.nil | refine LAL.cons ?_ ?_ | exact la_id _ rfl | exact LA.lend (lend_whole rfl (by first | (simp; done) | (rw [List.length_map]; rfl))) | refine LA.agg ?_ | refine LA.fn ?_ | refine LA.lend ?_ | exact Lend.d _ | exact Lend.zs _ | exact lend_whole rfl (by first | (simp; done) | (rw [List.length_map]; rfl)) | refine Lend.ptr rfl ?_ | refine Lend.fn ?_ | exact LendL.nil | refine LendL.cons ?_ ?_)) rfl rfl ?_)
        · first | assumption | omega | (simp; done) | (simp; omega)
        refine ax_e (e_bslice rfl (by decide) rfl rfl) ?_
        refine ax_e (e_appn (n' := (S ++ [colF w l[k].N]).length) (rs' := (S ++ [colF w l[k].N]).map GValue.row) rfl rfl (by simp) rfl (src_osl rfl (by simp)) (.inl (by decide)) (hbnd (by omega) (by simp) (by decide)) (by simp) (app1 rfl)) ?_
        refine ax_q (q_mov rfl) ?_
        refine ax_nil ?_
        refine cx_keep rfl rfl ?_
        refine cx_seq ?_
        refine cx_ops ?_
        refine ax_q (q_mov rfl) ?_
        refine ax_q (q_ibin rfl rfl rfl) ?_
        refine ax_nil ?_
        refine cx_keep rfl rfl ?_
        refine cx_cond rfl (fun h9 => ?_) (fun h9 => ?_)
        · have h9 := nT h9
          exact absurd rfl h9
        · have h9 := nF h9
          refine cx_skip ?_
          refine cx_keep rfl rfl ?_
          refine cx_ops ?_
          refine ax_q (q_mov rfl) ?_
          refine ax_qe (r' := int ((k + 1 : Nat) : Int)) (q_ibin rfl rfl rfl) (by rw [wi (by omega) (by omega)]; rfl) ?_
          refine ax_q (q_mov rfl) ?_
          refine ax_nil ?_
          have hn : nxF l[k] w k S = .go (k + 1) (S ++ [colF w l[k].N]) := nx_2 h2
          have hge := nx_ge (l := l) hf.ok h0x hn
          exact ⟨_, (k + 1, S ++ [colF w l[k].N], (S ++ [colF w l[k].N]).length), by simp only; omega, ⟨by simp only; omega, rfl, stk_next hf h0x hS hw hn, hrun.trans (runA_go hok h0x hn), rfl⟩, by repeat (first | exact trivial | refine ⟨rfl, ?_⟩ | refine ⟨?_, ?_⟩)⟩
      · have h2 := dF h2
        refine cx_seq ?_
        refine cx_ops ?_
        refine ax_q (q_ibin rfl rfl rfl) ?_
        refine ax_q (q_mov rfl) ?_
        refine ax_nil ?_
        refine cx_keep rfl rfl ?_
        refine cx_cond rfl (fun h3 => ?_) (fun h3 => ?_)
        · have h3 := dT h3
          have hlw : lowI l[k] = 1 := by unfold lowI; rw [if_neg (by omega), if_neg (by omega)]
          refine cx_drawL 13 5000 (fun _ => false) (fun _ => true) [] ([(11, .rows 3 ((S.set (S.length - 1) (unF l[k].N (lastV S)).1).map GValue.row))]) [[6], [9], [8], [48], [6], [9], [50, 51], [52], [49, 53], [54], [45], [45], [46, 47], [55, 57]] [[], [], [], [], [], [], [], [], [], [], [], [11], [], [11]] rfl ?_
          first | refine ⟨_, .inr ⟨rfl, _, rfl, .inl rfl, loc_q (q_mov rfl)⟩, ?_⟩
          first | refine ⟨_, .inr ⟨rfl, _, rfl, .inl rfl, loc_q (q_mov rfl)⟩, ?_⟩
          first | refine ⟨_, .inr ⟨rfl, _, rfl, .inl rfl, loc_q (q_fadr_ptr rfl)⟩, ?_⟩ | refine ⟨_, .inr ⟨rfl, _, rfl, .inl rfl, loc_q (q_fadr_rptr rfl)⟩, ?_⟩ | refine ⟨_, .inr ⟨rfl, _, rfl, .inl rfl, loc_q (q_fadr_ip rfl)⟩, ?_⟩
          first | refine ⟨_, .inr ⟨rfl, _, rfl, .inl rfl, loc_q (q_load1_ptr rfl rfl rfl)⟩, ?_⟩ | refine ⟨_, .inr ⟨rfl, _, rfl, .inl rfl, loc_q (q_load1_ip rfl)⟩, ?_⟩ | refine ⟨_, .inr ⟨rfl, _, rfl, .inl rfl, loc_q (q_load1_rptr rfl rfl rfl rfl)⟩, ?_⟩ | refine ⟨_, .inr ⟨rfl, _, rfl, .inl rfl, loc_q (q_load1_rptr rfl rfl (by assumption) rfl)⟩, ?_⟩ | refine ⟨_, .inr ⟨rfl, _, rfl, .inl rfl, loc_q (q_load1_rptr rfl rfl (mapAt (by first | assumption | omega)) rfl)⟩, ?_⟩
          first | refine ⟨_, .inr ⟨rfl, _, rfl, .inl rfl, loc_q (q_mov rfl)⟩, ?_⟩
          first | refine ⟨_, .inr ⟨rfl, _, rfl, .inl rfl, loc_q (q_mov rfl)⟩, ?_⟩
          first | refine ⟨_, .inr ⟨rfl, _, rfl, .inl rfl, loc_q (q_ixoI rfl rfl (by omega) (by omega))⟩, ?_⟩
          first | refine ⟨_, .inr ⟨rfl, _, rfl, .inl rfl, loc_q (q_loadN_rptr rfl rfl (lastAt (by omega)) (by decide))⟩, ?_⟩
          have hrl := getD_rv (k := S.length - 1) hS.rv (by omega)
          have hrl : RV (lastV S) := hrl
          first | refine ⟨_, .inr ⟨rfl, _, rfl, .inl rfl, loc_call (fun i => 54 + 200 * i) false rfl (c_unary (op := l[k].N) (a := lastV S) (by first | assumption | omega | (simp; done) | (simp; omega))) hP (.inr ⟨rfl, rfl, rfl⟩) rfl rfl (fun h => by cases h)⟩, ?_⟩ | refine ⟨_, .inr ⟨rfl, _, rfl, .inl rfl, loc_call (fun i => 54 + 200 * i) true rfl (c_unary (op := l[k].N) (a := lastV S) (by first | assumption | omega | (simp; done) | (simp; omega))) hP (.inl ⟨rfl, (by repeat (first | exact lal_id _ rfl | exact LAL.nil | refine LAL.cons ?_ ?_ | exact la_id _ rfl | exact LA.lend (lend_whole rfl (by first | (simp; done) | (rw [List.length_map]; rfl))) | refine LA.agg ?_ | refine LA.fn ?_ | refine LA.lend ?_ | exact Lend.d _ | exact Lend.zs _ | exact lend_whole rfl (by first | (simp; done) | (rw [List.length_map]; rfl)) | refine Lend.ptr rfl ?_ | refine Lend.fn ?_ | exact LendL.nil | refine LendL.cons ?_ ?_))⟩) rfl rfl (fun _ => ⟨rfl, noisl_of (by repeat (first | exact trivial | refine ⟨noisl_map (fun _ => rfl), ?_⟩ | refine ⟨?_, ?_⟩))⟩)⟩, ?_⟩
          first | refine ⟨_, .inr ⟨rfl, _, rfl, .inl rfl, loc_q (q_mov rfl)⟩, ?_⟩
          first | refine ⟨_, .inr ⟨rfl, _, rfl, .inl rfl, loc_q (q_ext rfl rfl)⟩, ?_⟩
          first | refine ⟨_, .inr ⟨rfl, _, rfl, .inr ⟨rfl, rfl, .inr rfl, rfl, rfl⟩, loc_q (q_ext rfl rfl)⟩, ?_⟩
          first | refine ⟨_, .inr ⟨rfl, _, rfl, .inl rfl, loc_q (q_ixoI rfl rfl (by omega) (by omega))⟩, ?_⟩
          refine ⟨⟨5000, .dead, []⟩, .inl ⟨rfl, rfl, rfl, locl_str (q := GValue.row (unF l[k].N (lastV S)).1) (rs' := (S.set (S.length - 1) (unF l[k].N (lastV S)).1).map GValue.row) rfl rfl rfl rfl rfl rfl (lastAt (by omega)) rfl rfl setLast⟩, ?_⟩
          refine ⟨rfl, ?_⟩
          refine ax_q (q_mov rfl) ?_
          refine ax_nil ?_
          refine cx_keep rfl rfl ?_
          refine cx_seq ?_
          refine cx_ops ?_
          refine ax_q (q_mov rfl) ?_
          refine ax_q (q_ibin rfl rfl rfl) ?_
          refine ax_nil ?_
          refine cx_keep rfl rfl ?_
          refine cx_cond rfl (fun h9 => ?_) (fun h9 => ?_)
          · have h9 := nT h9
            refine cx_seq ?_
            refine cx_ops ?_
            refine ax_q (q_build rfl) ?_
            refine ax_q (q_mov rfl) ?_
            refine ax_e (e_st rfl rfl rfl rfl rfl rfl rfl) ?_
            refine ax_q (q_mov rfl) ?_
            refine ax_nil ?_
            refine cx_keep rfl rfl ?_
            refine cx_ret (ret0 rfl rfl ?_)
            exact ⟨by rw [hrun, runA_no h0x (nx_3n h3 h9)]; rfl, rfl⟩
          · have h9 := nF h9
            refine cx_skip ?_
            refine cx_keep rfl rfl ?_
            refine cx_ops ?_
            refine ax_q (q_mov rfl) ?_
            refine ax_qe (r' := int ((k + 1 : Nat) : Int)) (q_ibin rfl rfl rfl) (by rw [wi (by omega) (by omega)]; rfl) ?_
            refine ax_q (q_mov rfl) ?_
            refine ax_nil ?_
            have hn : nxF l[k] w k S = .go (k + 1) (S.set (S.length - 1) (unF l[k].N (lastV S)).1) := nx_3 h3 h9
            have hge := nx_ge (l := l) hf.ok h0x hn
            exact ⟨_, (k + 1, S.set (S.length - 1) (unF l[k].N (lastV S)).1, S.length), by simp only; omega, ⟨by simp only; omega, rfl, stk_next hf h0x hS hw hn, hrun.trans (runA_go hok h0x hn), by simp only [List.length_set]⟩, by repeat (first | exact trivial | refine ⟨rfl, ?_⟩ | refine ⟨?_, ?_⟩)⟩
        · have h3 := dF h3
          refine cx_seq ?_
          refine cx_ops ?_
          refine ax_q (q_ibin rfl rfl rfl) ?_
          refine ax_q (q_mov rfl) ?_
          refine ax_nil ?_
          refine cx_keep rfl rfl ?_
          refine cx_cond rfl (fun h4 => ?_) (fun h4 => ?_)
          · have h4 := dT h4
            have hlw : lowI l[k] = 2 := by unfold lowI; rw [if_neg (by omega), if_pos (by omega)]
            refine cx_seq ?_
            refine cx_drawL 19 5000 (fun _ => false) (fun _ => true) [] ([(11, .rows 3 ((S.set (S.length - 2) (binF l[k].N (last2 S) (lastV S)).1).map GValue.row))]) [[6], [9], [62], [8], [64], [6], [9], [67], [66, 68], [69], [6], [9], [71, 72], [73], [65, 70, 74], [75], [60], [60], [61, 63], [76, 78]] [[], [], [], [], [], [], [], [], [], [], [], [], [], [], [], [], [], [11], [], [11]] rfl ?_
            first | refine ⟨_, .inr ⟨rfl, _, rfl, .inl rfl, loc_q (q_mov rfl)⟩, ?_⟩
            first | refine ⟨_, .inr ⟨rfl, _, rfl, .inl rfl, loc_q (q_mov rfl)⟩, ?_⟩
            first | refine ⟨_, .inr ⟨rfl, _, rfl, .inl rfl, loc_q (q_sub rfl rfl (by omega))⟩, ?_⟩
            first | refine ⟨_, .inr ⟨rfl, _, rfl, .inl rfl, loc_q (q_fadr_ptr rfl)⟩, ?_⟩ | refine ⟨_, .inr ⟨rfl, _, rfl, .inl rfl, loc_q (q_fadr_rptr rfl)⟩, ?_⟩ | refine ⟨_, .inr ⟨rfl, _, rfl, .inl rfl, loc_q (q_fadr_ip rfl)⟩, ?_⟩
            first | refine ⟨_, .inr ⟨rfl, _, rfl, .inl rfl, loc_q (q_load1_ptr rfl rfl rfl)⟩, ?_⟩ | refine ⟨_, .inr ⟨rfl, _, rfl, .inl rfl, loc_q (q_load1_ip rfl)⟩, ?_⟩ | refine ⟨_, .inr ⟨rfl, _, rfl, .inl rfl, loc_q (q_load1_rptr rfl rfl rfl rfl)⟩, ?_⟩ | refine ⟨_, .inr ⟨rfl, _, rfl, .inl rfl, loc_q (q_load1_rptr rfl rfl (by assumption) rfl)⟩, ?_⟩ | refine ⟨_, .inr ⟨rfl, _, rfl, .inl rfl, loc_q (q_load1_rptr rfl rfl (mapAt (by first | assumption | omega)) rfl)⟩, ?_⟩
            first | refine ⟨_, .inr ⟨rfl, _, rfl, .inl rfl, loc_q (q_mov rfl)⟩, ?_⟩
            first | refine ⟨_, .inr ⟨rfl, _, rfl, .inl rfl, loc_q (q_mov rfl)⟩, ?_⟩
            first | refine ⟨_, .inr ⟨rfl, _, rfl, .inl rfl, loc_q (q_sub rfl rfl (by omega))⟩, ?_⟩
            first | refine ⟨_, .inr ⟨rfl, _, rfl, .inl rfl, loc_q (q_ixoI rfl rfl (by omega) (by omega))⟩, ?_⟩
            first | refine ⟨_, .inr ⟨rfl, _, rfl, .inl rfl, loc_q (q_loadN_rptr rfl rfl (last2At (by omega)) (by decide))⟩, ?_⟩
            first | refine ⟨_, .inr ⟨rfl, _, rfl, .inl rfl, loc_q (q_mov rfl)⟩, ?_⟩
            first | refine ⟨_, .inr ⟨rfl, _, rfl, .inl rfl, loc_q (q_mov rfl)⟩, ?_⟩
            first | refine ⟨_, .inr ⟨rfl, _, rfl, .inl rfl, loc_q (q_ixoI rfl rfl (by omega) (by omega))⟩, ?_⟩
            first | refine ⟨_, .inr ⟨rfl, _, rfl, .inl rfl, loc_q (q_loadN_rptr rfl rfl (lastAt (by omega)) (by decide))⟩, ?_⟩
            have hrl := getD_rv (k := S.length - 1) hS.rv (by omega)
            have hrl : RV (lastV S) := hrl
            have hrl2 := getD_rv (k := S.length - 2) hS.rv (by omega)
            have hrl2 : RV (last2 S) := hrl2
            first | refine ⟨_, .inr ⟨rfl, _, rfl, .inl rfl, loc_call (fun i => 75 + 200 * i) false rfl (c_binary (op := l[k].N) (a := last2 S) (b := lastV S) (by first | assumption | omega | (simp; done) | (simp; omega)) (by first | assumption | omega | (simp; done) | (simp; omega))) hP (.inr ⟨rfl, rfl, rfl⟩) rfl rfl (fun h => by cases h)⟩, ?_⟩ | refine ⟨_, .inr ⟨rfl, _, rfl, .inl rfl, loc_call (fun i => 75 + 200 * i) true rfl (c_binary (op := l[k].N) (a := last2 S) (b := lastV S) (by first | assumption | omega | (simp; done) | (simp; omega)) (by first | assumption | omega | (simp; done) | (simp; omega))) hP (.inl ⟨rfl, (by repeat (first | exact lal_id _ rfl | exact LAL.nil | refine LAL.cons ?_ ?_ | exact la_id _ rfl | exact LA.lend (lend_whole rfl (by first | (simp; done) | (rw [List.length_map]; rfl))) | refine LA.agg ?_ | refine LA.fn ?_ | refine LA.lend ?_ | exact Lend.d _ | exact Lend.zs _ | exact lend_whole rfl (by first | (simp; done) | (rw [List.length_map]; rfl)) | refine Lend.ptr rfl ?_ | refine Lend.fn ?_ | exact LendL.nil | refine LendL.cons ?_ ?_))⟩) rfl rfl (fun _ => ⟨rfl, noisl_of (by repeat (first | exact trivial | refine ⟨noisl_map (fun _ => rfl), ?_⟩ | refine ⟨?_, ?_⟩))⟩)⟩, ?_⟩
            first | refine ⟨_, .inr ⟨rfl, _, rfl, .inl rfl, loc_q (q_mov rfl)⟩, ?_⟩
            first | refine ⟨_, .inr ⟨rfl, _, rfl, .inl rfl, loc_q (q_ext rfl rfl)⟩, ?_⟩
            first | refine ⟨_, .inr ⟨rfl, _, rfl, .inr ⟨rfl, rfl, .inr rfl, rfl, rfl⟩, loc_q (q_ext rfl rfl)⟩, ?_⟩
            first | refine ⟨_, .inr ⟨rfl, _, rfl, .inl rfl, loc_q (q_ixoI rfl rfl (by omega) (by omega))⟩, ?_⟩
            refine ⟨⟨5000, .dead, []⟩, .inl ⟨rfl, rfl, rfl, locl_str (q := GValue.row (binF l[k].N (last2 S) (lastV S)).1) (rs' := (S.set (S.length - 2) (binF l[k].N (last2 S) (lastV S)).1).map GValue.row) rfl rfl rfl rfl rfl rfl (last2At (by omega)) rfl rfl setLast2⟩, ?_⟩
            refine ⟨rfl, ?_⟩
            refine ax_q (q_mov rfl) ?_
            refine ax_nil ?_
            refine cx_keep rfl rfl ?_
            refine cx_ops ?_
            refine ax_q (q_mov rfl) ?_
            refine ax_q (q_mov rfl) ?_
            refine ax_qe (r' := .osl 11 3 0 ((S.set (S.length - 2) (binF l[k].N (last2 S) (lastV S)).1).take (S.length - 1)).length) (q_slc_osl rfl rfl rfl (by omega) (by omega) (by omega)) (oslE rfl (by rw [List.length_take, List.length_set]; omega)) ?_
            refine ax_wk (wk_rows 11 (rs' := ((S.set (S.length - 2) (binF l[k].N (last2 S) (lastV S)).1).take (S.length - 1)).map GValue.row) rfl take_more) ?_
            refine ax_q (q_mov rfl) ?_
            refine ax_nil ?_
            refine cx_keep rfl rfl ?_
            refine cx_seq ?_
            refine cx_ops ?_
            refine ax_q (q_mov rfl) ?_
            refine ax_q (q_ibin rfl rfl rfl) ?_
            refine ax_nil ?_
            refine cx_keep rfl rfl ?_
            refine cx_cond rfl (fun h9 => ?_) (fun h9 => ?_)
            · have h9 := nT h9
              refine cx_seq ?_
              refine cx_ops ?_
              refine ax_q (q_build rfl) ?_
              refine ax_q (q_mov rfl) ?_
              refine ax_e (e_st rfl rfl rfl rfl rfl rfl rfl) ?_
              refine ax_q (q_mov rfl) ?_
              refine ax_nil ?_
              refine cx_keep rfl rfl ?_
              refine cx_ret (ret0 rfl rfl ?_)
              exact ⟨by rw [hrun, runA_no h0x (nx_4n h4 h9)]; rfl, rfl⟩
            · have h9 := nF h9
              refine cx_skip ?_
              refine cx_keep rfl rfl ?_
              refine cx_ops ?_
              refine ax_q (q_mov rfl) ?_
              refine ax_qe (r' := int ((k + 1 : Nat) : Int)) (q_ibin rfl rfl rfl) (by rw [wi (by omega) (by omega)]; rfl) ?_
              refine ax_q (q_mov rfl) ?_
              refine ax_nil ?_
              have hn : nxF l[k] w k S = .go (k + 1) ((S.set (S.length - 2) (binF l[k].N (last2 S) (lastV S)).1).take (S.length - 1)) := nx_4 h4 h9
              have hge := nx_ge (l := l) hf.ok h0x hn
              exact ⟨_, (k + 1, (S.set (S.length - 2) (binF l[k].N (last2 S) (lastV S)).1).take (S.length - 1), ((S.set (S.length - 2) (binF l[k].N (last2 S) (lastV S)).1).take (S.length - 1)).length), by simp only; omega, ⟨by simp only; omega, rfl, stk_next hf h0x hS hw hn, hrun.trans (runA_go hok h0x hn), rfl⟩, by repeat (first | exact trivial | refine ⟨rfl, ?_⟩ | refine ⟨?_, ?_⟩)⟩
          · have h4 := dF h4
            refine cx_seq ?_
            refine cx_ops ?_
            refine ax_q (q_ibin rfl rfl rfl) ?_
            refine ax_q (q_mov rfl) ?_
            refine ax_nil ?_
            refine cx_keep rfl rfl ?_
            refine cx_cond rfl (fun h5 => ?_) (fun h5 => ?_)
            · have h5 := dT h5
              have hlw : lowI l[k] = 1 := by unfold lowI; rw [if_neg (by omega), if_neg (by omega)]
              refine cx_seq ?_
              refine cx_ops ?_
              refine ax_q (q_mov rfl) ?_
              refine ax_q (q_mov rfl) ?_
              have hrl := getD_rv (k := S.length - 1) hS.rv (by omega)
              have hrl : RV (lastV S) := hrl
              refine ax_q (q_ixoI rfl rfl (by omega) (by omega)) ?_
              refine ax_q (q_loadN_rptr rfl rfl (lastAt (by omega)) (by decide)) ?_
              first | refine ax_call rfl (vc_pure0 (c_isZero (v := lastV S) ?_) hP rfl rfl ?_) | refine ax_call rfl (vc_lend0 (c_isZero (v := lastV S) ?_) hP (by repeat (first | exact lal_id _ rfl | exact LAL.nil | refine LAL.cons ?_ ?_ | exact la_id _ rfl | exact LA.lend (lend_whole rfl (by first | (simp; done) | (rw [List.length_map]; rfl))) | refine LA.agg ?_ | refine LA.fn ?_ | refine LA.lend ?_ | exact Lend.d _ | exact Lend.zs _ | exact lend_whole rfl (by first | (simp; done) | (rw [List.length_map]; rfl)) | refine Lend.ptr rfl ?_ | refine Lend.fn ?_ | exact LendL.nil | refine LendL.cons ?_ ?_)) rfl rfl ?_)
              · first | assumption | omega | (simp; done) | (simp; omega)
              refine ax_nil ?_
              refine cx_keep rfl rfl ?_
              refine cx_cond rfl (fun h6 => ?_) (fun h6 => ?_)
              · skip
                refine cx_ops ?_
                first | refine ax_q (q_fadr_ptr rfl) ?_ | refine ax_q (q_fadr_rptr rfl) ?_ | refine ax_q (q_fadr_ip rfl) ?_
                first | refine ax_q (q_load1_ptr rfl rfl rfl) ?_ | refine ax_q (q_load1_ip rfl) ?_ | refine ax_q (q_load1_rptr rfl rfl rfl rfl) ?_ | refine ax_q (q_load1_rptr rfl rfl (by assumption) rfl) ?_ | refine ax_q (q_load1_rptr rfl rfl (mapAt (by first | assumption | omega)) rfl) ?_
                have hjn := hins.2.2.2.2 (.inl h5)
                refine ax_q (q_sub rfl rfl (by omega)) ?_
                refine ax_q (q_mov rfl) ?_
                refine ax_nil ?_
                refine cx_keep rfl rfl ?_
                refine cx_seq ?_
                refine cx_ops ?_
                refine ax_q (q_mov rfl) ?_
                refine ax_q (q_ibin rfl rfl rfl) ?_
                refine ax_nil ?_
                refine cx_keep rfl rfl ?_
                refine cx_cond rfl (fun h9 => ?_) (fun h9 => ?_)
                · have h9 := nT h9
                  exact absurd rfl h9
                · have h9 := nF h9
                  refine cx_skip ?_
                  refine cx_keep rfl rfl ?_
                  refine cx_ops ?_
                  refine ax_q (q_mov rfl) ?_
                  refine ax_qe (r' := int ((l[k].N.toNat : Nat) : Int)) (q_ibin rfl rfl rfl) (by
                    rw [wi (by omega) (by omega)]
                    exact congrArg (fun z => AV.d (D.int .i64 z)) (by omega)) ?_
                  refine ax_q (q_mov rfl) ?_
                  refine ax_nil ?_
                  have hn : nxF l[k] w k S = .go (l[k].N.toNat) (S) := nx_5 h5 h6
                  have hge := nx_ge (l := l) hf.ok h0x hn
                  exact ⟨_, (l[k].N.toNat, S, (S).length), by simp only; omega, ⟨by simp only; omega, rfl, stk_next hf h0x hS hw hn, hrun.trans (runA_go hok h0x hn), rfl⟩, by repeat (first | exact trivial | refine ⟨rfl, ?_⟩ | refine ⟨?_, ?_⟩)⟩
              · skip
                refine cx_skip ?_
                refine cx_keep rfl rfl ?_
                refine cx_seq ?_
                refine cx_ops ?_
                refine ax_q (q_mov rfl) ?_
                refine ax_q (q_ibin rfl rfl rfl) ?_
                refine ax_nil ?_
                refine cx_keep rfl rfl ?_
                refine cx_cond rfl (fun h9 => ?_) (fun h9 => ?_)
                · have h9 := nT h9
                  exact absurd rfl h9
                · have h9 := nF h9
                  refine cx_skip ?_
                  refine cx_keep rfl rfl ?_
                  refine cx_ops ?_
                  refine ax_q (q_mov rfl) ?_
                  refine ax_qe (r' := int ((k + 1 : Nat) : Int)) (q_ibin rfl rfl rfl) (by rw [wi (by omega) (by omega)]; rfl) ?_
                  refine ax_q (q_mov rfl) ?_
                  refine ax_nil ?_
                  have hn : nxF l[k] w k S = .go (k + 1) (S) := nx_5n h5 h6
                  have hge := nx_ge (l := l) hf.ok h0x hn
                  exact ⟨_, (k + 1, S, (S).length), by simp only; omega, ⟨by simp only; omega, rfl, stk_next hf h0x hS hw hn, hrun.trans (runA_go hok h0x hn), rfl⟩, by repeat (first | exact trivial | refine ⟨rfl, ?_⟩ | refine ⟨?_, ?_⟩)⟩
            · have h5 := dF h5
              refine cx_seq ?_
              refine cx_ops ?_
              refine ax_q (q_ibin rfl rfl rfl) ?_
              refine ax_q (q_mov rfl) ?_
              refine ax_nil ?_
              refine cx_keep rfl rfl ?_
              refine cx_cond rfl (fun h7 => ?_) (fun h7 => ?_)
              · have h7 := dT h7
                have hlw : lowI l[k] = 1 := by unfold lowI; rw [if_neg (by omega), if_neg (by omega)]
                refine cx_seq ?_
                refine cx_ops ?_
                refine ax_q (q_mov rfl) ?_
                refine ax_q (q_mov rfl) ?_
                refine ax_q (q_ixoI rfl rfl (by omega) (by omega)) ?_
                refine ax_q (q_loadN_rptr rfl rfl (lastAt (by omega)) (by decide)) ?_
                first | refine ax_call rfl (vc_pure0 (c_isOther (v := lastV S) ) hP rfl rfl ?_) | refine ax_call rfl (vc_lend0 (c_isOther (v := lastV S) ) hP (by repeat (first | exact lal_id _ rfl | exact LAL.nil | refine LAL.cons ?_ ?_ | exact la_id _ rfl | exact LA.lend (lend_whole rfl (by first | (simp; done) | (rw [List.length_map]; rfl))) | refine LA.agg ?_ | refine LA.fn ?_ | refine LA.lend ?_ | exact Lend.d _ | exact Lend.zs _ | exact lend_whole rfl (by first | (simp; done) | (rw [List.length_map]; rfl)) | refine Lend.ptr rfl ?_ | refine Lend.fn ?_ | exact LendL.nil | refine LendL.cons ?_ ?_)) rfl rfl ?_)
                refine ax_nil ?_
                refine cx_keep rfl rfl ?_
                refine cx_cond rfl (fun h8 => ?_) (fun h8 => ?_)
                · skip
                  refine cx_seq ?_
                  refine cx_ops ?_
                  refine ax_q (q_mov rfl) ?_
                  refine ax_q (q_mov rfl) ?_
                  have hjn := hins.2.2.2.2 (.inr h7)
                  first | refine ax_call rfl (vc_pure0 (c_truth  ) hP rfl rfl ?_) | refine ax_call rfl (vc_lend0 (c_truth  ) hP (by repeat (first | exact lal_id _ rfl | exact LAL.nil | refine LAL.cons ?_ ?_ | exact la_id _ rfl | exact LA.lend (lend_whole rfl (by first | (simp; done) | (rw [List.length_map]; rfl))) | refine LA.agg ?_ | refine LA.fn ?_ | refine LA.lend ?_ | exact Lend.d _ | exact Lend.zs _ | exact lend_whole rfl (by first | (simp; done) | (rw [List.length_map]; rfl)) | refine Lend.ptr rfl ?_ | refine Lend.fn ?_ | exact LendL.nil | refine LendL.cons ?_ ?_)) rfl rfl ?_)
                  refine ax_q (q_ixoI rfl rfl (by omega) (by omega)) ?_
                  refine ax_e (e_str (q := GValue.row (vI 1)) (rs' := (S.set (S.length - 1) (vI 1)).map GValue.row) rfl rfl rfl rfl rfl rfl (lastAt (by omega)) rfl rfl setLast) ?_
                  refine ax_nil ?_
                  refine cx_keep rfl rfl ?_
                  refine cx_ops ?_
                  first | refine ax_q (q_fadr_ptr rfl) ?_ | refine ax_q (q_fadr_rptr rfl) ?_ | refine ax_q (q_fadr_ip rfl) ?_
                  first | refine ax_q (q_load1_ptr rfl rfl rfl) ?_ | refine ax_q (q_load1_ip rfl) ?_ | refine ax_q (q_load1_rptr rfl rfl rfl rfl) ?_ | refine ax_q (q_load1_rptr rfl rfl (by assumption) rfl) ?_ | refine ax_q (q_load1_rptr rfl rfl (mapAt (by first | assumption | omega)) rfl) ?_
                  refine ax_q (q_sub rfl rfl (by omega)) ?_
                  refine ax_q (q_mov rfl) ?_
                  refine ax_nil ?_
                  refine cx_keep rfl rfl ?_
                  refine cx_seq ?_
                  refine cx_ops ?_
                  refine ax_q (q_mov rfl) ?_
                  refine ax_q (q_ibin rfl rfl rfl) ?_
                  refine ax_nil ?_
                  refine cx_keep rfl rfl ?_
                  refine cx_cond rfl (fun h9 => ?_) (fun h9 => ?_)
                  · have h9 := nT h9
                    exact absurd rfl h9
                  · have h9 := nF h9
                    refine cx_skip ?_
                    refine cx_keep rfl rfl ?_
                    refine cx_ops ?_
                    refine ax_q (q_mov rfl) ?_
                    refine ax_qe (r' := int ((l[k].N.toNat : Nat) : Int)) (q_ibin rfl rfl rfl) (by
                      rw [wi (by omega) (by omega)]
                      exact congrArg (fun z => AV.d (D.int .i64 z)) (by omega)) ?_
                    refine ax_q (q_mov rfl) ?_
                    refine ax_nil ?_
                    have hn : nxF l[k] w k S = .go (l[k].N.toNat) (S.set (S.length - 1) (vI 1)) := nx_6 h7 h8
                    have hge := nx_ge (l := l) hf.ok h0x hn
                    exact ⟨_, (l[k].N.toNat, S.set (S.length - 1) (vI 1), S.length), by simp only; omega, ⟨by simp only; omega, rfl, stk_next hf h0x hS hw hn, hrun.trans (runA_go hok h0x hn), by simp only [List.length_set]⟩, by repeat (first | exact trivial | refine ⟨rfl, ?_⟩ | refine ⟨?_, ?_⟩)⟩
                · skip
                  refine cx_skip ?_
                  refine cx_keep rfl rfl ?_
                  refine cx_seq ?_
                  refine cx_ops ?_
                  refine ax_q (q_mov rfl) ?_
                  refine ax_q (q_ibin rfl rfl rfl) ?_
                  refine ax_nil ?_
                  refine cx_keep rfl rfl ?_
                  refine cx_cond rfl (fun h9 => ?_) (fun h9 => ?_)
                  · have h9 := nT h9
                    exact absurd rfl h9
                  · have h9 := nF h9
                    refine cx_skip ?_
                    refine cx_keep rfl rfl ?_
                    refine cx_ops ?_
                    refine ax_q (q_mov rfl) ?_
                    refine ax_qe (r' := int ((k + 1 : Nat) : Int)) (q_ibin rfl rfl rfl) (by rw [wi (by omega) (by omega)]; rfl) ?_
                    refine ax_q (q_mov rfl) ?_
                    refine ax_nil ?_
                    have hn : nxF l[k] w k S = .go (k + 1) (S) := nx_6n h7 h8
                    have hge := nx_ge (l := l) hf.ok h0x hn
                    exact ⟨_, (k + 1, S, (S).length), by simp only; omega, ⟨by simp only; omega, rfl, stk_next hf h0x hS hw hn, hrun.trans (runA_go hok h0x hn), rfl⟩, by repeat (first | exact trivial | refine ⟨rfl, ?_⟩ | refine ⟨?_, ?_⟩)⟩
              · have h7 := dF h7
                exfalso; omega
  · have h0 := dF h0
    have h0x : k = l.length := by omega
    subst h0x
    refine cx_exit rfl ?_
    refine cx_keep rfl rfl ?_
    refine cx_seq ?_
    refine cx_ops ?_
    refine ax_q (q_mov rfl) ?_
    refine ax_q (q_ixoI rfl rfl (by omega) (by omega)) ?_
    refine ax_q (q_loadN_rptr rfl rfl (headAt (by omega)) (by decide)) ?_
    refine ax_e (e_st rfl rfl rfl rfl rfl rfl rfl) ?_
    refine ax_q (q_mov rfl) ?_
    refine ax_nil ?_
    refine cx_keep rfl rfl ?_
    refine cx_ret (ret0 rfl rfl ?_)
    exact ⟨by rw [hrun, runA_end]; rfl, rfl⟩


/- loop.example/g00332/impl.RunCode -/
def k_c_RunCode : XCode :=
  .seq (.ops [.op (some 3) (.box (.t 1)),
     .op (some 4) (.alloc [.int .i64 0, .int .i64 0, .str []]),
     .op (some 5) (.mov (.k (.int .i64 0)))])
  (.keep [0, 3, 4] (.seq (.block 0 (.seq (.ops [.op (some 7) (.mov (.t 0)),
       .op (some 8) (.lenS (.t 7)),
       .op (some 9) (.bin .gtr (.t 8) (.k (.int .i64 4096))),
       .op (some 6) (.mov (.t 9))])
    (.keep [0, 3, 4, 6] (.cond (.t 6)
     (.seq (.ops [.op (some 10) (.build [.int .i64 0, .int .i64 0, .str []] []),
         .op none (.store 3 (.t 4) (.t 10)),
         .op (some 5) (.mov (.k (.int .i64 2)))])
      (.keep [4, 5] (.ret)))
     (.seq (.ops [.op (some 12) (.mov (.t 0)),
         .call (some 13) 13 [.t 12],
         .op (some 14) (.not (.t 13)),
         .op (some 15) (.mov (.t 14)),
         .andor 19 false 3 15 [.op (some 16) (.loadN 7 (.t 3)), .call (some 17) 53 [.t 16], .op (some 18) (.not (.t 17))] (.t 18),
         .op (some 11) (.mov (.t 19))])
      (.keep [0, 3, 4, 11] (.cond (.t 11)
       (.seq (.ops [.op (some 20) (.build [.int .i64 0, .int .i64 0, .str []] []),
           .op none (.store 3 (.t 4) (.t 20)),
           .op (some 5) (.mov (.k (.int .i64 1)))])
        (.keep [4, 5] (.ret)))
       (.skip))))))))
  (.keep [0, 3, 4] (.seq (.ops [.op (some 21) (.mov (.t 0)),
     .op (some 22) (.loadN 7 (.t 3)),
     .call (some 23) 68 [.t 21, .t 22],
     .op (some 24) (.ext (.t 23) 0),
     .op (some 25) (.ext (.t 23) 1),
     .op none (.store 3 (.t 4) (.t 24)),
     .op (some 5) (.mov (.t 25))])
  (.keep [4, 5] (.ret))))))
theorem k_c_RunCode_fits : fitsF Try.prog 36 ⟨26, k_c_RunCode, [.cN 4 3, .t 5]⟩ = true := by kernel_rfl
theorem c_RunCode {l : List GIns} {w : GRow} (hw : l.length ≤ 1048576) (hv : ∀ x ∈ l, x.V.T.length ≤ 1048576) (hr1 : w.N.T.length ≤ 1048576) (hr2 : w.Name.T.length ≤ 1048576) : Con Try.prog noMv 36 [.d (.sl 5 (l.map GIns.row)), w.av] [] (fun r h => r = .tup [(rcF l w).1.av, int (rcF l w).2] ∧ h = []) := by
  refine con_of2 k_c_RunCode_fits rfl fun C hP hmv => ?_
  unfold k_c_RunCode
  refine cx_seq ?_
  refine cx_ops ?_
  refine ax_e (e_box rfl rfl (by decide) rfl rfl rfl) ?_
  refine ax_e (e_alloc (by decide) rfl rfl) ?_
  refine ax_q (q_mov rfl) ?_
  refine ax_nil ?_
  refine cx_keep rfl rfl ?_
  refine cx_seq ?_
  refine cx_block ?_
  refine cx_seq ?_
  refine cx_ops ?_
  refine ax_q (q_mov rfl) ?_
  first | refine ax_q (q_lenS_map rfl) ?_ | refine ax_q (q_lenS_osl rfl) ?_ | refine ax_q (q_lenS_zs rfl) ?_ | refine ax_q (q_lenS rfl) ?_
  refine ax_q (q_ibin rfl rfl rfl) ?_
  refine ax_q (q_mov rfl) ?_
  refine ax_nil ?_
  refine cx_keep rfl rfl ?_
  refine cx_cond rfl (fun h0 => ?_) (fun h0 => ?_)
  · have h0 := dT h0
    refine cx_seq ?_
    refine cx_ops ?_
    refine ax_q (q_build rfl) ?_
    refine ax_e (e_st rfl rfl rfl rfl rfl rfl rfl) ?_
    refine ax_q (q_mov rfl) ?_
    refine ax_nil ?_
    refine cx_keep rfl rfl ?_
    refine cx_ret (ret0 rfl rfl ?_)
    exact ⟨by rw [rcF_0 (by omega)]; rfl, rfl⟩
  · have h0 := dF h0
    refine cx_seq ?_
    refine cx_ops ?_
    refine ax_q (q_mov rfl) ?_
    first | refine ax_call rfl (vc_pure0 (c_CodeOK  ?_ ?_) hP rfl rfl ?_) | refine ax_call rfl (vc_lend0 (c_CodeOK  ?_ ?_) hP (by repeat (first | exact lal_id _ rfl | exact LAL.nil | refine LAL.cons ?_ ?_ | exact la_id _ rfl | exact LA.lend (lend_whole rfl (by first | (simp; done) | (rw [List.length_map]; rfl))) | refine LA.agg ?_ | refine LA.fn ?_ | refine LA.lend ?_ | exact Lend.d _ | exact Lend.zs _ | exact lend_whole rfl (by first | (simp; done) | (rw [List.length_map]; rfl)) | refine Lend.ptr rfl ?_ | refine Lend.fn ?_ | exact LendL.nil | refine LendL.cons ?_ ?_)) rfl rfl ?_)
    · first | assumption | omega | (simp; done) | (simp; omega)
    · first | assumption | omega | (simp; done) | (simp; omega)
    refine ax_q (q_not rfl) ?_
    refine ax_q (q_mov rfl) ?_
    apply ax_or rfl rfl
    · intro g
      have g := bF g
      first | refine ax_q (q_ldN rfl rfl rfl) ?_ | refine ax_q (q_loadN_ip rfl (Nat.le_refl _)) ?_ | refine ax_q (q_loadN_ip rfl (by decide)) ?_ | refine ax_q (q_loadN_rptr rfl rfl (by assumption) (by decide)) ?_ | refine ax_q (q_loadN_rptr rfl rfl (mapAt (by first | assumption | omega)) (by decide)) ?_
      first | refine ax_call rfl (vc_pure0 (c_rowOK (a := w) ?_ ?_) hP rfl rfl ?_) | refine ax_call rfl (vc_lend0 (c_rowOK (a := w) ?_ ?_) hP (by repeat (first | exact lal_id _ rfl | exact LAL.nil | refine LAL.cons ?_ ?_ | exact la_id _ rfl | exact LA.lend (lend_whole rfl (by first | (simp; done) | (rw [List.length_map]; rfl))) | refine LA.agg ?_ | refine LA.fn ?_ | refine LA.lend ?_ | exact Lend.d _ | exact Lend.zs _ | exact lend_whole rfl (by first | (simp; done) | (rw [List.length_map]; rfl)) | refine Lend.ptr rfl ?_ | refine Lend.fn ?_ | exact LendL.nil | refine LendL.cons ?_ ?_)) rfl rfl ?_)
      · first | assumption | omega | (simp; done) | (simp; omega)
      · first | assumption | omega | (simp; done) | (simp; omega)
      refine ax_q (q_not rfl) ?_
      exact ax_nil ⟨rfl, by repeat (first | exact trivial | refine ⟨rfl, ?_⟩ | refine ⟨?_, ?_⟩)⟩
    refine ax_q (q_mov rfl) ?_
    refine ax_nil ?_
    refine cx_keep rfl rfl ?_
    refine cx_cond rfl (fun h1 => ?_) (fun h1 => ?_)
    · have h1 := (fun h => (or_T h).imp bT bT) h1
      refine cx_seq ?_
      refine cx_ops ?_
      refine ax_q (q_build rfl) ?_
      refine ax_e (e_st rfl rfl rfl rfl rfl rfl rfl) ?_
      refine ax_q (q_mov rfl) ?_
      refine ax_nil ?_
      refine cx_keep rfl rfl ?_
      refine cx_ret (ret0 rfl rfl ?_)
      exact ⟨by rw [rcF_1 (by omega) h1]; rfl, rfl⟩
    · have h1 := (fun h => And.intro (bF (or_F h).1) (bF (or_F h).2)) h1
      have hrr := RR.of h1.2
      have hco := h1.1
      refine cx_skip ?_
      refine cx_keep rfl rfl ?_
      refine cx_seq ?_
      refine cx_ops ?_
      refine ax_q (q_mov rfl) ?_
      first | refine ax_q (q_ldN rfl rfl rfl) ?_ | refine ax_q (q_loadN_ip rfl (Nat.le_refl _)) ?_ | refine ax_q (q_loadN_ip rfl (by decide)) ?_ | refine ax_q (q_loadN_rptr rfl rfl (by assumption) (by decide)) ?_ | refine ax_q (q_loadN_rptr rfl rfl (mapAt (by first | assumption | omega)) (by decide)) ?_
      first | refine ax_call rfl (vc_pure0 (c_runCode (w := w) ?_ ?_) hP rfl rfl ?_) | refine ax_call rfl (vc_lend0 (c_runCode (w := w) ?_ ?_) hP (by repeat (first | exact lal_id _ rfl | exact LAL.nil | refine LAL.cons ?_ ?_ | exact la_id _ rfl | exact LA.lend (lend_whole rfl (by first | (simp; done) | (rw [List.length_map]; rfl))) | refine LA.agg ?_ | refine LA.fn ?_ | refine LA.lend ?_ | exact Lend.d _ | exact Lend.zs _ | exact lend_whole rfl (by first | (simp; done) | (rw [List.length_map]; rfl)) | refine Lend.ptr rfl ?_ | refine Lend.fn ?_ | exact LendL.nil | refine LendL.cons ?_ ?_)) rfl rfl ?_)
      · first | assumption | omega | (simp; done) | (simp; omega)
      · first | assumption | omega | (simp; done) | (simp; omega)
      refine ax_q (q_ext rfl rfl) ?_
      refine ax_q (q_ext rfl rfl) ?_
      refine ax_e (e_st rfl rfl rfl rfl rfl rfl rfl) ?_
      refine ax_q (q_mov rfl) ?_
      refine ax_nil ?_
      refine cx_keep rfl rfl ?_
      refine cx_ret (ret0 rfl rfl ?_)
      exact ⟨by rw [rcF_2 (by omega) h1]; rfl, rfl⟩

end Go.Proofs.Ytalnddcijlkklaa
