/- The walks: what each function computes, as a contract without a world (part 1). -/
import Derived.Test.YtljbgclkdfeegaaProg
import Derived.Test.YtljbgclkdfeegaaW0
namespace Go.Proofs.Ytljbgclkdfeegaa
open Go Go.AM
set_option maxRecDepth 10000
set_option linter.unusedVariables false
/- loop.example/g00332/impl.FreeLocks -/
def k_c_FreeLocks : XCode :=
  .seq (.ops [.op (some 2) (.box (.t 0)),
     .op (some 4) (.alloc [.nils 4, .nils 2]),
     .op (some 5) (.mov (.k (.int .i64 0)))])
  (.keep [1, 2, 4] (.seq (.block 0 (.seq (.ops [.op (some 8) (.loadN 2 (.t 2)),
       .call (some 9) 24 [.t 8],
       .op (some 10) (.not (.t 9)),
       .op (some 7) (.mov (.t 10))])
    (.keep [1, 2, 4, 7] (.cond (.t 7)
     (.seq (.ops [.op (some 11) (.build [.nils 4, .nils 2] []),
         .op none (.store 2 (.t 4) (.t 11)),
         .op (some 5) (.mov (.k (.int .i64 1)))])
      (.keep [4, 5] (.ret)))
     (.seq (.ops [.op (some 13) (.mov (.t 1)),
         .call (some 14) 29 [.t 13],
         .op (some 15) (.not (.t 14)),
         .op (some 12) (.mov (.t 15))])
      (.keep [1, 2, 4, 12] (.cond (.t 12)
       (.seq (.ops [.op (some 16) (.build [.nils 4, .nils 2] []),
           .op none (.store 2 (.t 4) (.t 16)),
           .op (some 5) (.mov (.k (.int .i64 4)))])
        (.keep [4, 5] (.ret)))
       (.skip))))))))
  (.keep [1, 2, 4] (.seq (.ops [.op (some 17) (.loadN 2 (.t 2)),
     .call (some 18) 30 [.t 17],
     .op (some 6) (.alloc [.nils 4, .nils 2]),
     .op none (.store 2 (.t 6) (.t 18))])
  (.keep [1, 4, 6] (.seq (.ops [.op (some 19) (.mov (.t 1)),
     .call (some 20) 31 [.t 6, .t 19]])
  (.keep [4, 6] (.seq (.ops [.op (some 21) (.loadN 2 (.t 6)),
     .call (some 22) 30 [.t 21],
     .op none (.store 2 (.t 4) (.t 22)),
     .op (some 5) (.mov (.k (.int .i64 0)))])
  (.keep [4, 5] (.ret))))))))))
theorem k_c_FreeLocks_fits : fitsF Try.prog 10 ⟨23, k_c_FreeLocks, [.cN 4 2, .t 5]⟩ = true := by kernel_rfl
theorem c_FreeLocks {l : GLocks} {tx : Int} (hw0 : l.Held.length ≤ 1048576) (hw1 : l.Waits.length ≤ 1048576) : Con Try.prog noMv 10 [l.av, int tx] [] (fun r h => r = .tup [(freeLocks l tx).1.avO 0 1, int (freeLocks l tx).2] ∧ h = (freeLocks l tx).1.hO 0 1) := by
  refine con_of2 k_c_FreeLocks_fits rfl fun C hP hmv => ?_
  unfold k_c_FreeLocks
  refine cx_seq ?_
  refine cx_ops ?_
  refine ax_e (e_box rfl rfl (by decide) rfl rfl rfl) ?_
  refine ax_e (e_alloc (by decide) rfl rfl) ?_
  refine ax_q (q_mov rfl) ?_
  refine ax_nil ?_
  refine cx_keep rfl rfl ?_
  refine cx_seq ?_
  refine cx_block ?_
  refine cx_seq ?_
  refine cx_ops ?_
  first | refine ax_q (q_ldN rfl rfl rfl) ?_ | refine ax_q (q_loadN_ip rfl (Nat.le_refl _)) ?_ | refine ax_q (q_loadN_ip rfl (by decide)) ?_ | refine ax_q (q_loadN_rptr rfl rfl (by assumption) (by decide)) ?_ | refine ax_q (q_loadN_rptr rfl rfl (mapAt (by first | assumption | omega)) (by decide)) ?_
  first | refine ax_call rfl (vc_pure0 (c_LocksOK  ?_ ?_) hP rfl rfl ?_) | refine ax_call rfl (vc_lend0 (c_LocksOK  ?_ ?_) hP (by repeat (first | exact lal_id _ rfl | exact LAL.nil | refine LAL.cons ?_ ?_ | exact la_id _ rfl | exact LA.lend (lend_whole rfl (by first | (simp; done) | (rw [List.length_map]; rfl))) | refine LA.agg ?_ | refine LA.fn ?_ | refine LA.lend ?_ | exact Lend.d _ | exact Lend.zs _ | exact lend_whole rfl (by first | (simp; done) | (rw [List.length_map]; rfl)) | refine Lend.ptr rfl ?_ | refine Lend.fn ?_ | exact LendL.nil | refine LendL.cons ?_ ?_)) rfl rfl ?_)
  · first | assumption | omega | (simp; done) | (simp; omega)
  · first | assumption | omega | (simp; done) | (simp; omega)
  refine ax_q (q_not rfl) ?_
  refine ax_q (q_mov rfl) ?_
  refine ax_nil ?_
  refine cx_keep rfl rfl ?_
  refine cx_cond rfl (fun h0 => ?_) (fun h0 => ?_)
  · have h0 := bT h0
    refine cx_seq ?_
    refine cx_ops ?_
    refine ax_q (q_build rfl) ?_
    refine ax_e (e_st rfl rfl rfl rfl rfl rfl rfl) ?_
    refine ax_q (q_mov rfl) ?_
    refine ax_nil ?_
    refine cx_keep rfl rfl ?_
    have e : freeLocks l tx = (.zero, 1) := by unfold freeLocks; rw [if_pos h0]
    refine cx_wk (wk_virt 900 4 rfl rfl rfl) ?_
    refine cx_wk (wk_zsb 4 900 0 rfl rfl rfl) ?_
    refine cx_wk (wk_virt 901 2 rfl rfl rfl) ?_
    refine cx_wk (wk_zsb 4 901 1 rfl rfl rfl) ?_
    refine cx_ret (retN (fun e => bif Nat.beq e 901 then 1 else 0) [900, 901] rfl rfl rfl rfl rfl ?_)
    rw [e]; exact ⟨rfl, rfl⟩
  · have h0 := bF h0
    refine cx_seq ?_
    refine cx_ops ?_
    refine ax_q (q_mov rfl) ?_
    first | refine ax_call rfl (vc_pure0 (c_isTx  ) hP rfl rfl ?_) | refine ax_call rfl (vc_lend0 (c_isTx  ) hP (by repeat (first | exact lal_id _ rfl | exact LAL.nil | refine LAL.cons ?_ ?_ | exact la_id _ rfl | exact LA.lend (lend_whole rfl (by first | (simp; done) | (rw [List.length_map]; rfl))) | refine LA.agg ?_ | refine LA.fn ?_ | refine LA.lend ?_ | exact Lend.d _ | exact Lend.zs _ | exact lend_whole rfl (by first | (simp; done) | (rw [List.length_map]; rfl)) | refine Lend.ptr rfl ?_ | refine Lend.fn ?_ | exact LendL.nil | refine LendL.cons ?_ ?_)) rfl rfl ?_)
    refine ax_q (q_not rfl) ?_
    refine ax_q (q_mov rfl) ?_
    refine ax_nil ?_
    refine cx_keep rfl rfl ?_
    refine cx_cond rfl (fun h1 => ?_) (fun h1 => ?_)
    · have h1 := bT h1
      refine cx_seq ?_
      refine cx_ops ?_
      refine ax_q (q_build rfl) ?_
      refine ax_e (e_st rfl rfl rfl rfl rfl rfl rfl) ?_
      refine ax_q (q_mov rfl) ?_
      refine ax_nil ?_
      refine cx_keep rfl rfl ?_
      have e : freeLocks l tx = (.zero, 4) := by unfold freeLocks; rw [if_neg (by rw [h0]; simp), if_pos (show isTx tx = false from h1)]
      refine cx_wk (wk_virt 900 4 rfl rfl rfl) ?_
      refine cx_wk (wk_zsb 4 900 0 rfl rfl rfl) ?_
      refine cx_wk (wk_virt 901 2 rfl rfl rfl) ?_
      refine cx_wk (wk_zsb 4 901 1 rfl rfl rfl) ?_
      refine cx_ret (retN (fun e => bif Nat.beq e 901 then 1 else 0) [900, 901] rfl rfl rfl rfl rfl ?_)
      rw [e]; exact ⟨rfl, rfl⟩
    · have h1 := bF h1
      refine cx_skip ?_
      refine cx_keep rfl rfl ?_
      refine cx_seq ?_
      refine cx_ops ?_
      first | refine ax_q (q_ldN rfl rfl rfl) ?_ | refine ax_q (q_loadN_ip rfl (Nat.le_refl _)) ?_ | refine ax_q (q_loadN_ip rfl (by decide)) ?_ | refine ax_q (q_loadN_rptr rfl rfl (by assumption) (by decide)) ?_ | refine ax_q (q_loadN_rptr rfl rfl (mapAt (by first | assumption | omega)) (by decide)) ?_
      first | refine ax_call rfl (vc_pure (c_cloneL  ?_ ?_) hP rfl ?_) | refine ax_call rfl (vc_lend (c_cloneL  ?_ ?_) hP (by repeat (first | exact lal_id _ rfl | exact LAL.nil | refine LAL.cons ?_ ?_ | exact la_id _ rfl | exact LA.lend (lend_whole rfl (by first | (simp; done) | (rw [List.length_map]; rfl))) | refine LA.agg ?_ | refine LA.fn ?_ | refine LA.lend ?_ | exact Lend.d _ | exact Lend.zs _ | exact lend_whole rfl (by first | (simp; done) | (rw [List.length_map]; rfl)) | refine Lend.ptr rfl ?_ | refine Lend.fn ?_ | exact LendL.nil | refine LendL.cons ?_ ?_)) ?_)
      · first | assumption | omega | (simp; done) | (simp; omega)
      · first | assumption | omega | (simp; done) | (simp; omega)
      rintro r h ⟨rfl, rfl⟩
      refine ⟨fun i => 18 + 200 * i, [0, 1], ⟨rfl, rfl, rfl, rfl, rfl, (by first | exact (fun h => absurd h Bool.false_ne_true) | exact (fun _ => ⟨rfl, (noisl_of (by repeat (first | exact trivial | refine ⟨noisl_map (fun _ => rfl), ?_⟩ | refine ⟨?_, ?_⟩)))⟩))⟩, ?_⟩
      skip
      refine ax_e (e_alloc (by decide) rfl rfl) ?_
      refine ax_e (e_st rfl rfl rfl rfl rfl rfl rfl) ?_
      refine ax_nil ?_
      refine cx_keep rfl rfl ?_
      refine cx_seq ?_
      refine cx_ops ?_
      refine ax_q (q_mov rfl) ?_
      refine ax_call rfl (vcall_own (c_freeL (l := l) (tx := tx) hw0 hw1) hP hmv false (fun e => bif Nat.beq e 1000 then 6 else bif Nat.beq e 1001 then 18 else 218) [1000, 1001, 1002] ⟨rfl, rfl, rfl, rfl, ⟨rfl, rfl, rfl, trivial⟩, rfl, rfl, rfl⟩ (.pass rfl rfl (.pass rfl rfl .nil)) ?_)
      rintro r h ⟨rfl, rfl⟩
      refine ⟨fun e => bif Nat.beq e 1000 then 6 else bif Nat.beq e 1001 then 18 else 218, [], ⟨rfl, rfl, rfl, rfl, (mem3 rfl rfl rfl), rfl, rfl, fun h => by cases h⟩, ?_⟩
      refine ax_nil ?_
      refine cx_keep rfl rfl ?_
      refine cx_seq ?_
      refine cx_ops ?_
      first | refine ax_q (q_ldN rfl rfl rfl) ?_ | refine ax_q (q_loadN_ip rfl (Nat.le_refl _)) ?_ | refine ax_q (q_loadN_ip rfl (by decide)) ?_ | refine ax_q (q_loadN_rptr rfl rfl (by assumption) (by decide)) ?_ | refine ax_q (q_loadN_rptr rfl rfl (mapAt (by first | assumption | omega)) (by decide)) ?_
      have hf0 : (freed l tx).Held.length ≤ l.Held.length := filter_len _ _
      have hf1 : (freed l tx).Waits.length ≤ l.Waits.length := filter_len _ _
      first | refine ax_call rfl (vc_pure (c_cloneL  ?_ ?_) hP rfl ?_) | refine ax_call rfl (vc_lend (c_cloneL  ?_ ?_) hP (by repeat (first | exact lal_id _ rfl | exact LAL.nil | refine LAL.cons ?_ ?_ | exact la_id _ rfl | exact LA.lend (lend_whole rfl (by first | (simp; done) | (rw [List.length_map]; rfl))) | refine LA.agg ?_ | refine LA.fn ?_ | refine LA.lend ?_ | exact Lend.d _ | exact Lend.zs _ | exact lend_whole rfl (by first | (simp; done) | (rw [List.length_map]; rfl)) | refine Lend.ptr rfl ?_ | refine Lend.fn ?_ | exact LendL.nil | refine LendL.cons ?_ ?_)) ?_)
      · first | assumption | omega | (simp; done) | (simp; omega)
      · first | assumption | omega | (simp; done) | (simp; omega)
      rintro r h ⟨rfl, rfl⟩
      refine ⟨fun i => 22 + 200 * i, [0, 1], ⟨rfl, rfl, rfl, rfl, rfl, (by first | exact (fun h => absurd h Bool.false_ne_true) | exact (fun _ => ⟨rfl, (noisl_of (by repeat (first | exact trivial | refine ⟨noisl_map (fun _ => rfl), ?_⟩ | refine ⟨?_, ?_⟩)))⟩))⟩, ?_⟩
      skip
      refine ax_e (e_st rfl rfl rfl rfl rfl rfl rfl) ?_
      refine ax_q (q_mov rfl) ?_
      refine ax_nil ?_
      refine cx_keep rfl rfl ?_
      refine cx_ret (retN (fun e => bif Nat.beq e 222 then 1 else 0) [22, 222] rfl rfl rfl rfl rfl ?_)
      rw [freeLocks_ok h0 h1]; exact ⟨rfl, rfl⟩


/- loop.example/g00332/spec.l01In -/
def k_c_l01In : XCode :=
  .seq (.ops [.op (some 6) (.mov (.k (.bool false)))])
  (.keep [0, 1, 2] (.seq (.ops [.op (some 7) (.mov (.t 1)),
     .op (some 8) (.mov (.t 0)),
     .op (some 9) (.bin .leq (.t 7) (.t 8)),
     .op (some 10) (.mov (.t 9)),
     .andor 14 true 3 10 [.op (some 11) (.mov (.t 0)), .op (some 12) (.mov (.t 2)), .op (some 13) (.bin .leq (.t 11) (.t 12))] (.t 13),
     .op (some 6) (.mov (.t 14))])
  (.keep [6] (.ret))))
theorem k_c_l01In_fits : fitsF Try.prog 33 ⟨15, k_c_l01In, [.t 6]⟩ = true := by kernel_rfl
theorem c_l01In {n lo hi : Int} : Con Try.prog noMv 33 [int n, int lo, int hi] [] (fun r h => r = bool (inR n lo hi) ∧ h = []) := by
  refine con_of2 k_c_l01In_fits rfl fun C hP hmv => ?_
  unfold k_c_l01In
  refine cx_seq ?_
  refine cx_ops ?_
  refine ax_q (q_mov rfl) ?_
  refine ax_nil ?_
  refine cx_keep rfl rfl ?_
  refine cx_seq ?_
  refine cx_ops ?_
  refine ax_q (q_mov rfl) ?_
  refine ax_q (q_mov rfl) ?_
  refine ax_q (q_ibin rfl rfl rfl) ?_
  refine ax_q (q_mov rfl) ?_
  apply ax_and rfl rfl
  · intro g
    have g := dT g
    refine ax_q (q_mov rfl) ?_
    refine ax_q (q_mov rfl) ?_
    refine ax_q (q_ibin rfl rfl rfl) ?_
    exact ax_nil ⟨rfl, by repeat (first | exact trivial | refine ⟨rfl, ?_⟩ | refine ⟨?_, ?_⟩)⟩
  refine ax_q (q_mov rfl) ?_
  refine ax_nil ?_
  refine cx_keep rfl rfl ?_
  refine cx_ret (ret0 rfl rfl ?_)
  exact ⟨rfl, rfl⟩


/- loop.example/g00332/spec.l06Ask -/
def k_c_l06Ask : XCode :=
  .seq (.ops [.op (some 8) (.mov (.k (.bool false)))])
  (.keep [0, 1, 2, 3] (.seq (.ops [.op (some 9) (.mov (.t 0)),
     .call (some 10) 33 [.t 9, .k (.int .i64 1), .k (.int .i64 60)],
     .op (some 11) (.mov (.t 10)),
     .andor 14 true 2 11 [.op (some 12) (.mov (.t 1)), .call (some 13) 33 [.t 12, .k (.int .i64 1), .k (.int .i64 3)]] (.t 13),
     .op (some 15) (.mov (.t 14)),
     .andor 18 true 6 15 [.op (some 16) (.mov (.t 2)), .call (some 17) 33 [.t 16, .k (.int .i64 (-1)), .k (.int .i64 1000)]] (.t 17),
     .op (some 19) (.mov (.t 18)),
     .andor 22 true 10 19 [.op (some 20) (.mov (.t 3)), .call (some 21) 33 [.t 20, .k (.int .i64 1), .k (.int .i64 4)]] (.t 21),
     .op (some 23) (.mov (.t 22)),
     .andor 30 true 14 23 [.op (some 24) (.mov (.t 2)), .op (some 25) (.bin .eql (.t 24) (.k (.int .i64 (-1)))), .op (some 26) (.mov (.t 25)), .andor 29 false 17 26 [.op (some 27) (.mov (.t 3)), .op (some 28) (.bin .geq (.t 27) (.k (.int .i64 3)))] (.t 28)] (.t 29),
     .op (some 8) (.mov (.t 30))])
  (.keep [8] (.ret))))
theorem k_c_l06Ask_fits : fitsF Try.prog 50 ⟨31, k_c_l06Ask, [.t 8]⟩ = true := by kernel_rfl
theorem c_l06Ask {a : GLock} : Con Try.prog noMv 50 [int a.Tx, int a.Table, int a.Row, int a.Mode] [] (fun r h => r = bool (lockOK a) ∧ h = []) := by
  refine con_of2 k_c_l06Ask_fits rfl fun C hP hmv => ?_
  unfold k_c_l06Ask
  refine cx_seq ?_
  refine cx_ops ?_
  refine ax_q (q_mov rfl) ?_
  refine ax_nil ?_
  refine cx_keep rfl rfl ?_
  refine cx_seq ?_
  refine cx_ops ?_
  refine ax_q (q_mov rfl) ?_
  first | refine ax_call rfl (vc_pure0 (c_l01In  ) hP rfl rfl ?_) | refine ax_call rfl (vc_lend0 (c_l01In  ) hP (by repeat (first | exact lal_id _ rfl | exact LAL.nil | refine LAL.cons ?_ ?_ | exact la_id _ rfl | exact LA.lend (lend_whole rfl (by first | (simp; done) | (rw [List.length_map]; rfl))) | refine LA.agg ?_ | refine LA.fn ?_ | refine LA.lend ?_ | exact Lend.d _ | exact Lend.zs _ | exact lend_whole rfl (by first | (simp; done) | (rw [List.length_map]; rfl)) | refine Lend.ptr rfl ?_ | refine Lend.fn ?_ | exact LendL.nil | refine LendL.cons ?_ ?_)) rfl rfl ?_)
  refine ax_q (q_mov rfl) ?_
  apply ax_and rfl rfl
  · intro g
    refine ax_q (q_mov rfl) ?_
    first | refine ax_call rfl (vc_pure0 (c_l01In  ) hP rfl rfl ?_) | refine ax_call rfl (vc_lend0 (c_l01In  ) hP (by repeat (first | exact lal_id _ rfl | exact LAL.nil | refine LAL.cons ?_ ?_ | exact la_id _ rfl | exact LA.lend (lend_whole rfl (by first | (simp; done) | (rw [List.length_map]; rfl))) | refine LA.agg ?_ | refine LA.fn ?_ | refine LA.lend ?_ | exact Lend.d _ | exact Lend.zs _ | exact lend_whole rfl (by first | (simp; done) | (rw [List.length_map]; rfl)) | refine Lend.ptr rfl ?_ | refine Lend.fn ?_ | exact LendL.nil | refine LendL.cons ?_ ?_)) rfl rfl ?_)
    exact ax_nil ⟨rfl, by repeat (first | exact trivial | refine ⟨rfl, ?_⟩ | refine ⟨?_, ?_⟩)⟩
  refine ax_q (q_mov rfl) ?_
  apply ax_and rfl rfl
  · intro g
    have g := (fun h => And.intro (id (and_T h).1) (id (and_T h).2)) g
    refine ax_q (q_mov rfl) ?_
    first | refine ax_call rfl (vc_pure0 (c_l01In  ) hP rfl rfl ?_) | refine ax_call rfl (vc_lend0 (c_l01In  ) hP (by repeat (first | exact lal_id _ rfl | exact LAL.nil | refine LAL.cons ?_ ?_ | exact la_id _ rfl | exact LA.lend (lend_whole rfl (by first | (simp; done) | (rw [List.length_map]; rfl))) | refine LA.agg ?_ | refine LA.fn ?_ | refine LA.lend ?_ | exact Lend.d _ | exact Lend.zs _ | exact lend_whole rfl (by first | (simp; done) | (rw [List.length_map]; rfl)) | refine Lend.ptr rfl ?_ | refine Lend.fn ?_ | exact LendL.nil | refine LendL.cons ?_ ?_)) rfl rfl ?_)
    exact ax_nil ⟨rfl, by repeat (first | exact trivial | refine ⟨rfl, ?_⟩ | refine ⟨?_, ?_⟩)⟩
  refine ax_q (q_mov rfl) ?_
  apply ax_and rfl rfl
  · intro g
    have g := (fun h => And.intro ((fun h => And.intro (id (and_T h).1) (id (and_T h).2)) (and_T h).1) (id (and_T h).2)) g
    refine ax_q (q_mov rfl) ?_
    first | refine ax_call rfl (vc_pure0 (c_l01In  ) hP rfl rfl ?_) | refine ax_call rfl (vc_lend0 (c_l01In  ) hP (by repeat (first | exact lal_id _ rfl | exact LAL.nil | refine LAL.cons ?_ ?_ | exact la_id _ rfl | exact LA.lend (lend_whole rfl (by first | (simp; done) | (rw [List.length_map]; rfl))) | refine LA.agg ?_ | refine LA.fn ?_ | refine LA.lend ?_ | exact Lend.d _ | exact Lend.zs _ | exact lend_whole rfl (by first | (simp; done) | (rw [List.length_map]; rfl)) | refine Lend.ptr rfl ?_ | refine Lend.fn ?_ | exact LendL.nil | refine LendL.cons ?_ ?_)) rfl rfl ?_)
    exact ax_nil ⟨rfl, by repeat (first | exact trivial | refine ⟨rfl, ?_⟩ | refine ⟨?_, ?_⟩)⟩
  refine ax_q (q_mov rfl) ?_
  apply ax_and rfl rfl
  · intro g
    have g := (fun h => And.intro ((fun h => And.intro ((fun h => And.intro (id (and_T h).1) (id (and_T h).2)) (and_T h).1) (id (and_T h).2)) (and_T h).1) (id (and_T h).2)) g
    refine ax_q (q_mov rfl) ?_
    refine ax_q (q_ibin rfl rfl rfl) ?_
    refine ax_q (q_mov rfl) ?_
    apply ax_or rfl rfl
    · intro g
      have g := dF g
      refine ax_q (q_mov rfl) ?_
      refine ax_q (q_ibin rfl rfl rfl) ?_
      exact ax_nil ⟨rfl, by repeat (first | exact trivial | refine ⟨rfl, ?_⟩ | refine ⟨?_, ?_⟩)⟩
    exact ax_nil ⟨rfl, by repeat (first | exact trivial | refine ⟨rfl, ?_⟩ | refine ⟨?_, ?_⟩)⟩
  refine ax_q (q_mov rfl) ?_
  refine ax_nil ?_
  refine cx_keep rfl rfl ?_
  refine cx_ret (ret0 rfl rfl ?_)
  exact ⟨congrArg AM.bool (by exact askEq a), rfl⟩


/- loop.example/g00332/spec.LocksOK -/
def k_c_sLocksOK : XCode :=
  .seq (.ops [.op (some 1) (.box (.t 0)),
     .op (some 2) (.mov (.k (.bool false)))])
  (.keep [1] (.seq (.seq (.ops [.op (some 9) (.fadr (.t 1) 0),
      .op (some 10) (.load1 (.t 9)),
      .op (some 11) (.lenS (.t 10)),
      .op (some 12) (.bin .gtr (.t 11) (.k (.int .i64 60))),
      .op (some 13) (.mov (.t 12)),
      .andor 18 false 4 13 [.op (some 14) (.fadr (.t 1) 1), .op (some 15) (.load1 (.t 14)), .op (some 16) (.lenS (.t 15)), .op (some 17) (.bin .gtr (.t 16) (.k (.int .i64 100)))] (.t 17)])
   (.keep [1, 18] (.cond (.t 18)
    (.seq (.ops [.op (some 2) (.mov (.k (.bool false)))])
     (.keep [2] (.ret)))
    (.skip))))
  (.keep [1] (.seq (.seq (.ops [.op (some 3) (.mov (.k (.int .i64 0)))])
   (.keep [1, 3] (.block 0 (.loop (.seq (.seq (.ops [.op (some 19) (.mov (.t 3)),
         .op (some 20) (.fadr (.t 1) 0),
         .op (some 21) (.load1 (.t 20)),
         .op (some 22) (.lenS (.t 21)),
         .op (some 23) (.bin .lss (.t 19) (.t 22))])
      (.keep [1, 3, 23] (.cond (.t 23)
       (.skip)
       (.exit 0))))
     (.keep [1, 3] (.seq (.block 1 (.seq (.ops [.op (some 26) (.fadr (.t 1) 0),
          .op (some 27) (.load1 (.t 26)),
          .op (some 28) (.mov (.t 3)),
          .op (some 29) (.iadr 4 (.t 27) (.t 28)),
          .op (some 30) (.loadN 4 (.t 29)),
          .op (some 4) (.alloc [.int .i64 0, .int .i64 0, .int .i64 0, .int .i64 0]),
          .op none (.store 4 (.t 4) (.t 30))])
       (.keep [1, 3, 4] (.seq (.seq (.ops [.op (some 31) (.fadr (.t 4) 0),
           .op (some 32) (.load1 (.t 31)),
           .op (some 33) (.fadr (.t 4) 1),
           .op (some 34) (.load1 (.t 33)),
           .op (some 35) (.fadr (.t 4) 2),
           .op (some 36) (.load1 (.t 35)),
           .op (some 37) (.fadr (.t 4) 3),
           .op (some 38) (.load1 (.t 37)),
           .call (some 39) 50 [.t 32, .t 34, .t 36, .t 38],
           .op (some 40) (.not (.t 39))])
        (.keep [1, 3, 4, 40] (.cond (.t 40)
         (.seq (.ops [.op (some 2) (.mov (.k (.bool false)))])
          (.keep [2] (.ret)))
         (.skip))))
       (.keep [1, 3, 4] (.seq (.ops [.op (some 5) (.mov (.k (.int .i64 0)))])
       (.keep [1, 3, 4, 5] (.block 2 (.loop (.seq (.seq (.ops [.op (some 41) (.mov (.t 5)),
             .op (some 42) (.mov (.t 3)),
             .op (some 43) (.bin .lss (.t 41) (.t 42))])
          (.keep [1, 3, 4, 5, 43] (.cond (.t 43)
           (.skip)
           (.exit 2))))
         (.keep [1, 3, 4, 5] (.seq (.block 3 (.seq (.ops [.op (some 46) (.fadr (.t 1) 0),
              .op (some 47) (.load1 (.t 46)),
              .op (some 48) (.mov (.t 5)),
              .op (some 49) (.iadr 4 (.t 47) (.t 48)),
              .op (some 50) (.loadN 4 (.t 49)),
              .op (some 6) (.alloc [.int .i64 0, .int .i64 0, .int .i64 0, .int .i64 0]),
              .op none (.store 4 (.t 6) (.t 50))])
           (.keep [1, 3, 4, 5, 6] (.seq (.ops [.op (some 51) (.fadr (.t 4) 1),
              .op (some 52) (.load1 (.t 51)),
              .op (some 53) (.fadr (.t 6) 1),
              .op (some 54) (.load1 (.t 53)),
              .op (some 55) (.bin .eql (.t 52) (.t 54)),
              .op (some 56) (.mov (.t 55)),
              .andor 62 true 5 56 [.op (some 57) (.fadr (.t 4) 2), .op (some 58) (.load1 (.t 57)), .op (some 59) (.fadr (.t 6) 2), .op (some 60) (.load1 (.t 59)), .op (some 61) (.bin .eql (.t 58) (.t 60))] (.t 61),
              .op (some 63) (.mov (.t 62)),
              .andor 82 true 12 63 [.op (some 64) (.loadN 4 (.t 4)), .op (some 65) (.loadN 4 (.t 6)), .op (some 66) (.eqs false [0, 0, 0, 0] (.t 64) (.t 65)), .op (some 67) (.mov (.t 66)), .andor 81 false 16 67 [.op (some 68) (.fadr (.t 4) 0), .op (some 69) (.load1 (.t 68)), .op (some 70) (.fadr (.t 6) 0), .op (some 71) (.load1 (.t 70)), .op (some 72) (.bin .neq (.t 69) (.t 71)), .op (some 73) (.mov (.t 72)), .andor 80 true 22 73 [.op (some 74) (.fadr (.t 4) 3), .op (some 75) (.load1 (.t 74)), .op (some 76) (.fadr (.t 6) 3), .op (some 77) (.load1 (.t 76)), .call (some 78) 70 [.t 75, .t 77], .op (some 79) (.not (.t 78))] (.t 79)] (.t 80)] (.t 81)])
           (.keep [1, 3, 4, 5, 82] (.cond (.t 82)
            (.seq (.ops [.op (some 2) (.mov (.k (.bool false)))])
             (.keep [2] (.ret)))
            (.skip)))))))
         (.keep [1, 3, 4, 5] (.ops [.op (some 44) (.mov (.t 5)),
           .op (some 45) (.bin .add (.t 44) (.k (.int .i64 1))),
           .op (some 5) (.mov (.t 45))]))))))))))))))
     (.keep [1, 3] (.ops [.op (some 24) (.mov (.t 3)),
       .op (some 25) (.bin .add (.t 24) (.k (.int .i64 1))),
       .op (some 3) (.mov (.t 25))])))))))))
  (.keep [1] (.seq (.seq (.ops [.op (some 7) (.mov (.k (.int .i64 0)))])
   (.keep [1, 7] (.block 4 (.loop (.seq (.seq (.ops [.op (some 83) (.mov (.t 7)),
         .op (some 84) (.fadr (.t 1) 1),
         .op (some 85) (.load1 (.t 84)),
         .op (some 86) (.lenS (.t 85)),
         .op (some 87) (.bin .lss (.t 83) (.t 86))])
      (.keep [1, 7, 87] (.cond (.t 87)
       (.skip)
       (.exit 4))))
     (.keep [1, 7] (.seq (.block 5 (.seq (.ops [.op (some 90) (.fadr (.t 1) 1),
          .op (some 91) (.load1 (.t 90)),
          .op (some 92) (.mov (.t 7)),
          .op (some 93) (.iadr 2 (.t 91) (.t 92)),
          .op (some 94) (.loadN 2 (.t 93)),
          .op (some 8) (.alloc [.int .i64 0, .int .i64 0]),
          .op none (.store 2 (.t 8) (.t 94))])
       (.keep [1, 7, 8] (.seq (.ops [.op (some 95) (.fadr (.t 8) 0),
          .op (some 96) (.load1 (.t 95)),
          .call (some 97) 33 [.t 96, .k (.int .i64 1), .k (.int .i64 60)],
          .op (some 98) (.not (.t 97)),
          .op (some 99) (.mov (.t 98)),
          .andor 104 false 4 99 [.op (some 100) (.fadr (.t 8) 1), .op (some 101) (.load1 (.t 100)), .call (some 102) 33 [.t 101, .k (.int .i64 1), .k (.int .i64 60)], .op (some 103) (.not (.t 102))] (.t 103),
          .op (some 105) (.mov (.t 104)),
          .andor 111 false 10 105 [.op (some 106) (.fadr (.t 8) 0), .op (some 107) (.load1 (.t 106)), .op (some 108) (.fadr (.t 8) 1), .op (some 109) (.load1 (.t 108)), .op (some 110) (.bin .eql (.t 107) (.t 109))] (.t 110)])
       (.keep [1, 7, 111] (.cond (.t 111)
        (.seq (.ops [.op (some 2) (.mov (.k (.bool false)))])
         (.keep [2] (.ret)))
        (.skip)))))))
     (.keep [1, 7] (.ops [.op (some 88) (.mov (.t 7)),
       .op (some 89) (.bin .add (.t 88) (.k (.int .i64 1))),
       .op (some 7) (.mov (.t 89))])))))))))
  (.keep [] (.seq (.ops [.op (some 2) (.mov (.k (.bool true)))])
  (.keep [2] (.ret))))))))))
theorem k_c_sLocksOK_fits : fitsF Try.prog 32 ⟨112, k_c_sLocksOK, [.t 2]⟩ = true := by kernel_rfl
theorem c_sLocksOK {l : GLocks} (hw0 : l.Held.length ≤ 1048576) (hw1 : l.Waits.length ≤ 1048576) (hl : wfL GLock.wf l.Held) : Con Try.prog noMv 32 [l.av] [] (fun r h => r = bool (locksOK l) ∧ h = []) := by
  refine con_of2 k_c_sLocksOK_fits rfl fun C hP hmv => ?_
  unfold k_c_sLocksOK
  refine cx_seq ?_
  refine cx_ops ?_
  refine ax_e (e_box rfl rfl (by decide) rfl rfl rfl) ?_
  refine ax_q (q_mov rfl) ?_
  refine ax_nil ?_
  refine cx_keep rfl rfl ?_
  refine cx_seq ?_
  refine cx_seq ?_
  refine cx_ops ?_
  first | refine ax_q (q_fadr_ptr rfl) ?_ | refine ax_q (q_fadr_rptr rfl) ?_ | refine ax_q (q_fadr_ip rfl) ?_
  first | refine ax_q (q_load1_ptr rfl rfl rfl) ?_ | refine ax_q (q_load1_ip rfl) ?_ | refine ax_q (q_load1_rptr rfl rfl (by assumption) rfl) ?_ | refine ax_q (q_load1_rptr rfl rfl (mapAt (by first | assumption | omega)) rfl) ?_
  first | refine ax_q (q_lenS_map rfl) ?_ | refine ax_q (q_lenS_osl rfl) ?_ | refine ax_q (q_lenS_zs rfl) ?_ | refine ax_q (q_lenS rfl) ?_
  refine ax_q (q_ibin rfl rfl rfl) ?_
  refine ax_q (q_mov rfl) ?_
  apply ax_or rfl rfl
  · intro g
    have g := dF g
    first | refine ax_q (q_fadr_ptr rfl) ?_ | refine ax_q (q_fadr_rptr rfl) ?_ | refine ax_q (q_fadr_ip rfl) ?_
    first | refine ax_q (q_load1_ptr rfl rfl rfl) ?_ | refine ax_q (q_load1_ip rfl) ?_ | refine ax_q (q_load1_rptr rfl rfl (by assumption) rfl) ?_ | refine ax_q (q_load1_rptr rfl rfl (mapAt (by first | assumption | omega)) rfl) ?_
    first | refine ax_q (q_lenS_map rfl) ?_ | refine ax_q (q_lenS_osl rfl) ?_ | refine ax_q (q_lenS_zs rfl) ?_ | refine ax_q (q_lenS rfl) ?_
    refine ax_q (q_ibin rfl rfl rfl) ?_
    exact ax_nil ⟨rfl, by repeat (first | exact trivial | refine ⟨rfl, ?_⟩ | refine ⟨?_, ?_⟩)⟩
  refine ax_nil ?_
  refine cx_keep rfl rfl ?_
  refine cx_cond rfl (fun h0 => ?_) (fun h0 => ?_)
  · have h0 := (fun h => (or_T h).imp dT dT) h0
    refine cx_seq ?_
    refine cx_ops ?_
    refine ax_q (q_mov rfl) ?_
    refine ax_nil ?_
    refine cx_keep rfl rfl ?_
    refine cx_ret (ret0 rfl rfl ?_)
    have e : locksOK l = false := by
      unfold locksOK
      rcases h0 with h | h
      · rw [decide_eq_false (show ¬ ((l.Held.length : Int) ≤ 60) from by omega)]; simp
      · rw [decide_eq_false (show ¬ ((l.Waits.length : Int) ≤ 100) from by omega)]; simp
    exact ⟨by rw [e]; rfl, rfl⟩
  · have h0 := (fun h => And.intro (dF (or_F h).1) (dF (or_F h).2)) h0
    refine cx_skip ?_
    refine cx_keep rfl rfl ?_
    refine cx_seq ?_
    refine cx_seq ?_
    refine cx_ops ?_
    refine ax_q (q_mov rfl) ?_
    refine ax_nil ?_
    refine cx_keep rfl rfl ?_
    refine cx_block ?_
    refine cx_loopU (fun n k => k ≤ l.Held.length ∧ n = l.Held.length - k ∧ allIx (okAt l.Held) k = true) (fun k : Nat => [(3, int k)]) (fun _ => [(1, .box [.d (.sl 4 (l.Held.map GLock.row)), .d (.sl 2 (l.Waits.map GWait.row))])]) ⟨_, 0, ⟨Nat.zero_le _, rfl, rfl⟩, by repeat (first | exact trivial | refine ⟨rfl, ?_⟩ | refine ⟨?_, ?_⟩)⟩ ?_
    rintro n k ⟨hk, rfl, ht⟩
    refine cx_seq ?_
    refine cx_seq ?_
    refine cx_ops ?_
    refine ax_q (q_mov rfl) ?_
    first | refine ax_q (q_fadr_ptr rfl) ?_ | refine ax_q (q_fadr_rptr rfl) ?_ | refine ax_q (q_fadr_ip rfl) ?_
    first | refine ax_q (q_load1_ptr rfl rfl rfl) ?_ | refine ax_q (q_load1_ip rfl) ?_ | refine ax_q (q_load1_rptr rfl rfl (by assumption) rfl) ?_ | refine ax_q (q_load1_rptr rfl rfl (mapAt (by first | assumption | omega)) rfl) ?_
    first | refine ax_q (q_lenS_map rfl) ?_ | refine ax_q (q_lenS_osl rfl) ?_ | refine ax_q (q_lenS_zs rfl) ?_ | refine ax_q (q_lenS rfl) ?_
    refine ax_q (q_ibin rfl rfl rfl) ?_
    refine ax_nil ?_
    refine cx_keep rfl rfl ?_
    refine cx_cond rfl (fun h1 => ?_) (fun h1 => ?_)
    · have h1 := dT h1
      have h1x : k < l.Held.length := by omega
      refine cx_skip ?_
      refine cx_keep rfl rfl ?_
      refine cx_seq ?_
      refine cx_block ?_
      refine cx_seq ?_
      refine cx_ops ?_
      first | refine ax_q (q_fadr_ptr rfl) ?_ | refine ax_q (q_fadr_rptr rfl) ?_ | refine ax_q (q_fadr_ip rfl) ?_
      first | refine ax_q (q_load1_ptr rfl rfl rfl) ?_ | refine ax_q (q_load1_ip rfl) ?_ | refine ax_q (q_load1_rptr rfl rfl (by assumption) rfl) ?_ | refine ax_q (q_load1_rptr rfl rfl (mapAt (by first | assumption | omega)) rfl) ?_
      refine ax_q (q_mov rfl) ?_
      refine ax_q (q_ix rfl rfl (mapAt h1x)) ?_
      first | refine ax_q (q_ldN rfl rfl rfl) ?_ | refine ax_q (q_loadN_ip rfl (Nat.le_refl _)) ?_ | refine ax_q (q_loadN_ip rfl (by decide)) ?_ | refine ax_q (q_loadN_rptr rfl rfl (by assumption) (by decide)) ?_ | refine ax_q (q_loadN_rptr rfl rfl (mapAt (by first | assumption | omega)) (by decide)) ?_
      refine ax_e (e_alloc (by decide) rfl rfl) ?_
      refine ax_e (e_st rfl rfl rfl rfl rfl rfl rfl) ?_
      refine ax_nil ?_
      refine cx_keep rfl rfl ?_
      refine cx_seq ?_
      refine cx_seq ?_
      refine cx_ops ?_
      first | refine ax_q (q_fadr_ptr rfl) ?_ | refine ax_q (q_fadr_rptr rfl) ?_ | refine ax_q (q_fadr_ip rfl) ?_
      first | refine ax_q (q_load1_ptr rfl rfl rfl) ?_ | refine ax_q (q_load1_ip rfl) ?_ | refine ax_q (q_load1_rptr rfl rfl (by assumption) rfl) ?_ | refine ax_q (q_load1_rptr rfl rfl (mapAt (by first | assumption | omega)) rfl) ?_
      first | refine ax_q (q_fadr_ptr rfl) ?_ | refine ax_q (q_fadr_rptr rfl) ?_ | refine ax_q (q_fadr_ip rfl) ?_
      first | refine ax_q (q_load1_ptr rfl rfl rfl) ?_ | refine ax_q (q_load1_ip rfl) ?_ | refine ax_q (q_load1_rptr rfl rfl (by assumption) rfl) ?_ | refine ax_q (q_load1_rptr rfl rfl (mapAt (by first | assumption | omega)) rfl) ?_
      first | refine ax_q (q_fadr_ptr rfl) ?_ | refine ax_q (q_fadr_rptr rfl) ?_ | refine ax_q (q_fadr_ip rfl) ?_
      first | refine ax_q (q_load1_ptr rfl rfl rfl) ?_ | refine ax_q (q_load1_ip rfl) ?_ | refine ax_q (q_load1_rptr rfl rfl (by assumption) rfl) ?_ | refine ax_q (q_load1_rptr rfl rfl (mapAt (by first | assumption | omega)) rfl) ?_
      first | refine ax_q (q_fadr_ptr rfl) ?_ | refine ax_q (q_fadr_rptr rfl) ?_ | refine ax_q (q_fadr_ip rfl) ?_
      first | refine ax_q (q_load1_ptr rfl rfl rfl) ?_ | refine ax_q (q_load1_ip rfl) ?_ | refine ax_q (q_load1_rptr rfl rfl (by assumption) rfl) ?_ | refine ax_q (q_load1_rptr rfl rfl (mapAt (by first | assumption | omega)) rfl) ?_
      first | refine ax_call rfl (vc_pure0 (c_l06Ask (a := l.Held[k]) ) hP rfl rfl ?_) | refine ax_call rfl (vc_lend0 (c_l06Ask (a := l.Held[k]) ) hP (by repeat (first | exact lal_id _ rfl | exact LAL.nil | refine LAL.cons ?_ ?_ | exact la_id _ rfl | exact LA.lend (lend_whole rfl (by first | (simp; done) | (rw [List.length_map]; rfl))) | refine LA.agg ?_ | refine LA.fn ?_ | refine LA.lend ?_ | exact Lend.d _ | exact Lend.zs _ | exact lend_whole rfl (by first | (simp; done) | (rw [List.length_map]; rfl)) | refine Lend.ptr rfl ?_ | refine Lend.fn ?_ | exact LendL.nil | refine LendL.cons ?_ ?_)) rfl rfl ?_)
      refine ax_q (q_not rfl) ?_
      refine ax_nil ?_
      refine cx_keep rfl rfl ?_
      refine cx_cond rfl (fun h2 => ?_) (fun h2 => ?_)
      · have h2 := bT h2
        refine cx_seq ?_
        refine cx_ops ?_
        refine ax_q (q_mov rfl) ?_
        refine ax_nil ?_
        refine cx_keep rfl rfl ?_
        refine cx_ret (ret0 rfl rfl ?_)
        exact ⟨by rw [show locksOK l = false from by unfold locksOK; rw [allIx_no h1x (by rw [okAt_get h1x, h2]; rfl)]; rfl]; rfl, rfl⟩
      · have h2 := bF h2
        refine cx_skip ?_
        refine cx_keep rfl rfl ?_
        refine cx_seq ?_
        refine cx_ops ?_
        refine ax_q (q_mov rfl) ?_
        refine ax_nil ?_
        refine cx_keep rfl rfl ?_
        refine cx_block ?_
        refine cx_loopU (fun n i => i ≤ k ∧ n = k - i ∧ ∀ j, j < i → ∀ x, l.Held[j]? = some x → twice l.Held[k] x = false) (fun i : Nat => [(5, int i)]) (fun _ => [(1, .box [.d (.sl 4 (l.Held.map GLock.row)), .d (.sl 2 (l.Waits.map GWait.row))]), (4, .box [.d (.int .i64 l.Held[k].Tx), .d (.int .i64 l.Held[k].Table), .d (.int .i64 l.Held[k].Row), .d (.int .i64 l.Held[k].Mode)])]) ⟨_, 0, ⟨Nat.zero_le _, rfl, fun j hj => by omega⟩, by repeat (first | exact trivial | refine ⟨rfl, ?_⟩ | refine ⟨?_, ?_⟩)⟩ ?_
        rintro n i ⟨hi, rfl, hb⟩
        refine cx_seq ?_
        refine cx_seq ?_
        refine cx_ops ?_
        refine ax_q (q_mov rfl) ?_
        refine ax_q (q_mov rfl) ?_
        refine ax_q (q_ibin rfl rfl rfl) ?_
        refine ax_nil ?_
        refine cx_keep rfl rfl ?_
        refine cx_cond rfl (fun h3 => ?_) (fun h3 => ?_)
        · have h3 := dT h3
          have h3x : i < l.Held.length := by omega
          refine cx_skip ?_
          refine cx_keep rfl rfl ?_
          refine cx_seq ?_
          refine cx_block ?_
          refine cx_seq ?_
          refine cx_ops ?_
          first | refine ax_q (q_fadr_ptr rfl) ?_ | refine ax_q (q_fadr_rptr rfl) ?_ | refine ax_q (q_fadr_ip rfl) ?_
          first | refine ax_q (q_load1_ptr rfl rfl rfl) ?_ | refine ax_q (q_load1_ip rfl) ?_ | refine ax_q (q_load1_rptr rfl rfl (by assumption) rfl) ?_ | refine ax_q (q_load1_rptr rfl rfl (mapAt (by first | assumption | omega)) rfl) ?_
          refine ax_q (q_mov rfl) ?_
          refine ax_q (q_ix rfl rfl (mapAt h3x)) ?_
          first | refine ax_q (q_ldN rfl rfl rfl) ?_ | refine ax_q (q_loadN_ip rfl (Nat.le_refl _)) ?_ | refine ax_q (q_loadN_ip rfl (by decide)) ?_ | refine ax_q (q_loadN_rptr rfl rfl (by assumption) (by decide)) ?_ | refine ax_q (q_loadN_rptr rfl rfl (mapAt (by first | assumption | omega)) (by decide)) ?_
          refine ax_e (e_alloc (by decide) rfl rfl) ?_
          refine ax_e (e_st rfl rfl rfl rfl rfl rfl rfl) ?_
          refine ax_nil ?_
          refine cx_keep rfl rfl ?_
          refine cx_seq ?_
          refine cx_ops ?_
          first | refine ax_q (q_fadr_ptr rfl) ?_ | refine ax_q (q_fadr_rptr rfl) ?_ | refine ax_q (q_fadr_ip rfl) ?_
          first | refine ax_q (q_load1_ptr rfl rfl rfl) ?_ | refine ax_q (q_load1_ip rfl) ?_ | refine ax_q (q_load1_rptr rfl rfl (by assumption) rfl) ?_ | refine ax_q (q_load1_rptr rfl rfl (mapAt (by first | assumption | omega)) rfl) ?_
          first | refine ax_q (q_fadr_ptr rfl) ?_ | refine ax_q (q_fadr_rptr rfl) ?_ | refine ax_q (q_fadr_ip rfl) ?_
          first | refine ax_q (q_load1_ptr rfl rfl rfl) ?_ | refine ax_q (q_load1_ip rfl) ?_ | refine ax_q (q_load1_rptr rfl rfl (by assumption) rfl) ?_ | refine ax_q (q_load1_rptr rfl rfl (mapAt (by first | assumption | omega)) rfl) ?_
          refine ax_q (q_ibin rfl rfl rfl) ?_
          refine ax_q (q_mov rfl) ?_
          apply ax_and rfl rfl
          · intro g
            have g := dT g
            first | refine ax_q (q_fadr_ptr rfl) ?_ | refine ax_q (q_fadr_rptr rfl) ?_ | refine ax_q (q_fadr_ip rfl) ?_
            first | refine ax_q (q_load1_ptr rfl rfl rfl) ?_ | refine ax_q (q_load1_ip rfl) ?_ | refine ax_q (q_load1_rptr rfl rfl (by assumption) rfl) ?_ | refine ax_q (q_load1_rptr rfl rfl (mapAt (by first | assumption | omega)) rfl) ?_
            first | refine ax_q (q_fadr_ptr rfl) ?_ | refine ax_q (q_fadr_rptr rfl) ?_ | refine ax_q (q_fadr_ip rfl) ?_
            first | refine ax_q (q_load1_ptr rfl rfl rfl) ?_ | refine ax_q (q_load1_ip rfl) ?_ | refine ax_q (q_load1_rptr rfl rfl (by assumption) rfl) ?_ | refine ax_q (q_load1_rptr rfl rfl (mapAt (by first | assumption | omega)) rfl) ?_
            refine ax_q (q_ibin rfl rfl rfl) ?_
            exact ax_nil ⟨rfl, by repeat (first | exact trivial | refine ⟨rfl, ?_⟩ | refine ⟨?_, ?_⟩)⟩
          refine ax_q (q_mov rfl) ?_
          apply ax_and rfl rfl
          · intro g
            have g := (fun h => And.intro (dT (and_T h).1) (dT (and_T h).2)) g
            first | refine ax_q (q_ldN rfl rfl rfl) ?_ | refine ax_q (q_loadN_ip rfl (Nat.le_refl _)) ?_ | refine ax_q (q_loadN_ip rfl (by decide)) ?_ | refine ax_q (q_loadN_rptr rfl rfl (by assumption) (by decide)) ?_ | refine ax_q (q_loadN_rptr rfl rfl (mapAt (by first | assumption | omega)) (by decide)) ?_
            first | refine ax_q (q_ldN rfl rfl rfl) ?_ | refine ax_q (q_loadN_ip rfl (Nat.le_refl _)) ?_ | refine ax_q (q_loadN_ip rfl (by decide)) ?_ | refine ax_q (q_loadN_rptr rfl rfl (by assumption) (by decide)) ?_ | refine ax_q (q_loadN_rptr rfl rfl (mapAt (by first | assumption | omega)) (by decide)) ?_
            first | refine ax_q (GLock.q_eqs rfl rfl) ?_ | refine ax_q (q_eqs rfl rfl rfl) ?_
            refine ax_q (q_mov rfl) ?_
            apply ax_or rfl rfl
            · intro g
              first | refine ax_q (q_fadr_ptr rfl) ?_ | refine ax_q (q_fadr_rptr rfl) ?_ | refine ax_q (q_fadr_ip rfl) ?_
              first | refine ax_q (q_load1_ptr rfl rfl rfl) ?_ | refine ax_q (q_load1_ip rfl) ?_ | refine ax_q (q_load1_rptr rfl rfl (by assumption) rfl) ?_ | refine ax_q (q_load1_rptr rfl rfl (mapAt (by first | assumption | omega)) rfl) ?_
              first | refine ax_q (q_fadr_ptr rfl) ?_ | refine ax_q (q_fadr_rptr rfl) ?_ | refine ax_q (q_fadr_ip rfl) ?_
              first | refine ax_q (q_load1_ptr rfl rfl rfl) ?_ | refine ax_q (q_load1_ip rfl) ?_ | refine ax_q (q_load1_rptr rfl rfl (by assumption) rfl) ?_ | refine ax_q (q_load1_rptr rfl rfl (mapAt (by first | assumption | omega)) rfl) ?_
              refine ax_q (q_ibin rfl rfl rfl) ?_
              refine ax_q (q_mov rfl) ?_
              apply ax_and rfl rfl
              · intro g
                have g := nT g
                first | refine ax_q (q_fadr_ptr rfl) ?_ | refine ax_q (q_fadr_rptr rfl) ?_ | refine ax_q (q_fadr_ip rfl) ?_
                first | refine ax_q (q_load1_ptr rfl rfl rfl) ?_ | refine ax_q (q_load1_ip rfl) ?_ | refine ax_q (q_load1_rptr rfl rfl (by assumption) rfl) ?_ | refine ax_q (q_load1_rptr rfl rfl (mapAt (by first | assumption | omega)) rfl) ?_
                first | refine ax_q (q_fadr_ptr rfl) ?_ | refine ax_q (q_fadr_rptr rfl) ?_ | refine ax_q (q_fadr_ip rfl) ?_
                first | refine ax_q (q_load1_ptr rfl rfl rfl) ?_ | refine ax_q (q_load1_ip rfl) ?_ | refine ax_q (q_load1_rptr rfl rfl (by assumption) rfl) ?_ | refine ax_q (q_load1_rptr rfl rfl (mapAt (by first | assumption | omega)) rfl) ?_
                first | refine ax_call rfl (vc_pure0 (c_l06Fit  ) hP rfl rfl ?_) | refine ax_call rfl (vc_lend0 (c_l06Fit  ) hP (by repeat (first | exact lal_id _ rfl | exact LAL.nil | refine LAL.cons ?_ ?_ | exact la_id _ rfl | exact LA.lend (lend_whole rfl (by first | (simp; done) | (rw [List.length_map]; rfl))) | refine LA.agg ?_ | refine LA.fn ?_ | refine LA.lend ?_ | exact Lend.d _ | exact Lend.zs _ | exact lend_whole rfl (by first | (simp; done) | (rw [List.length_map]; rfl)) | refine Lend.ptr rfl ?_ | refine Lend.fn ?_ | exact LendL.nil | refine LendL.cons ?_ ?_)) rfl rfl ?_)
                refine ax_q (q_not rfl) ?_
                exact ax_nil ⟨rfl, by repeat (first | exact trivial | refine ⟨rfl, ?_⟩ | refine ⟨?_, ?_⟩)⟩
              exact ax_nil ⟨rfl, by repeat (first | exact trivial | refine ⟨rfl, ?_⟩ | refine ⟨?_, ?_⟩)⟩
            exact ax_nil ⟨rfl, by repeat (first | exact trivial | refine ⟨rfl, ?_⟩ | refine ⟨?_, ?_⟩)⟩
          refine ax_nil ?_
          refine cx_keep rfl rfl ?_
          refine cx_cond rfl (fun h4 => ?_) (fun h4 => ?_)
          · have h4 : twice l.Held[k] l.Held[i] = true := by rw [← twice_eq]; exact h4
            refine cx_seq ?_
            refine cx_ops ?_
            refine ax_q (q_mov rfl) ?_
            refine ax_nil ?_
            refine cx_keep rfl rfl ?_
            refine cx_ret (ret0 rfl rfl ?_)
            exact ⟨by rw [show locksOK l = false from by unfold locksOK; rw [allIx_no h1x (by rw [okAt_get h1x, any_take_hit (by omega) h3x h4]; simp)]; rfl]; rfl, rfl⟩
          · have h4 : twice l.Held[k] l.Held[i] = false := by rw [← twice_eq]; exact h4
            refine cx_skip ?_
            refine cx_keep rfl rfl ?_
            refine cx_ops ?_
            refine ax_q (q_mov rfl) ?_
            refine ax_qe (r' := int ((i + 1 : Nat) : Int)) (q_ibin rfl rfl rfl) (by rw [wi (by omega) (by omega)]; rfl) ?_
            refine ax_q (q_mov rfl) ?_
            refine ax_nil ?_
            exact ⟨_, i + 1, by omega, ⟨by omega, rfl, before_step h3x hb h4⟩, by repeat (first | exact trivial | refine ⟨rfl, ?_⟩ | refine ⟨?_, ?_⟩)⟩
        · have h3 := dF h3
          refine cx_exit rfl ?_
          refine cx_keep rfl rfl ?_
          refine cx_ops ?_
          refine ax_q (q_mov rfl) ?_
          refine ax_qe (r' := int ((k + 1 : Nat) : Int)) (q_ibin rfl rfl rfl) (by rw [wi (by omega) (by omega)]; rfl) ?_
          refine ax_q (q_mov rfl) ?_
          refine ax_nil ?_
          have h9 : okAt l.Held k = true := by rw [okAt_get h1x, h2, any_take (fun j hj => hb j (by omega))]; rfl
          exact ⟨_, k + 1, by omega, ⟨by omega, rfl, allIx_step ht h9⟩, by repeat (first | exact trivial | refine ⟨rfl, ?_⟩ | refine ⟨?_, ?_⟩)⟩
    · have h1 := dF h1
      have h1x : k = l.Held.length := by omega
      subst h1x
      refine cx_exit rfl ?_
      refine cx_keep rfl rfl ?_
      refine cx_seq ?_
      refine cx_seq ?_
      refine cx_ops ?_
      refine ax_q (q_mov rfl) ?_
      refine ax_nil ?_
      refine cx_keep rfl rfl ?_
      refine cx_block ?_
      refine cx_loopU (fun n k => k ≤ l.Waits.length ∧ n = l.Waits.length - k ∧ ∀ j, j < k → ∀ x, l.Waits[j]? = some x → badWait x = false) (fun k : Nat => [(7, int k)]) (fun _ => [(1, .box [.d (.sl 4 (l.Held.map GLock.row)), .d (.sl 2 (l.Waits.map GWait.row))])]) ⟨_, 0, ⟨Nat.zero_le _, rfl, fun j hj => by omega⟩, by repeat (first | exact trivial | refine ⟨rfl, ?_⟩ | refine ⟨?_, ?_⟩)⟩ ?_
      rintro n k ⟨hk, rfl, hb⟩
      refine cx_seq ?_
      refine cx_seq ?_
      refine cx_ops ?_
      refine ax_q (q_mov rfl) ?_
      first | refine ax_q (q_fadr_ptr rfl) ?_ | refine ax_q (q_fadr_rptr rfl) ?_ | refine ax_q (q_fadr_ip rfl) ?_
      first | refine ax_q (q_load1_ptr rfl rfl rfl) ?_ | refine ax_q (q_load1_ip rfl) ?_ | refine ax_q (q_load1_rptr rfl rfl (by assumption) rfl) ?_ | refine ax_q (q_load1_rptr rfl rfl (mapAt (by first | assumption | omega)) rfl) ?_
      first | refine ax_q (q_lenS_map rfl) ?_ | refine ax_q (q_lenS_osl rfl) ?_ | refine ax_q (q_lenS_zs rfl) ?_ | refine ax_q (q_lenS rfl) ?_
      refine ax_q (q_ibin rfl rfl rfl) ?_
      refine ax_nil ?_
      refine cx_keep rfl rfl ?_
      refine cx_cond rfl (fun h5 => ?_) (fun h5 => ?_)
      · have h5 := dT h5
        have h5x : k < l.Waits.length := by omega
        refine cx_skip ?_
        refine cx_keep rfl rfl ?_
        refine cx_seq ?_
        refine cx_block ?_
        refine cx_seq ?_
        refine cx_ops ?_
        first | refine ax_q (q_fadr_ptr rfl) ?_ | refine ax_q (q_fadr_rptr rfl) ?_ | refine ax_q (q_fadr_ip rfl) ?_
        first | refine ax_q (q_load1_ptr rfl rfl rfl) ?_ | refine ax_q (q_load1_ip rfl) ?_ | refine ax_q (q_load1_rptr rfl rfl (by assumption) rfl) ?_ | refine ax_q (q_load1_rptr rfl rfl (mapAt (by first | assumption | omega)) rfl) ?_
        refine ax_q (q_mov rfl) ?_
        refine ax_q (q_ix rfl rfl (mapAt h5x)) ?_
        first | refine ax_q (q_ldN rfl rfl rfl) ?_ | refine ax_q (q_loadN_ip rfl (Nat.le_refl _)) ?_ | refine ax_q (q_loadN_ip rfl (by decide)) ?_ | refine ax_q (q_loadN_rptr rfl rfl (by assumption) (by decide)) ?_ | refine ax_q (q_loadN_rptr rfl rfl (mapAt (by first | assumption | omega)) (by decide)) ?_
        refine ax_e (e_alloc (by decide) rfl rfl) ?_
        refine ax_e (e_st rfl rfl rfl rfl rfl rfl rfl) ?_
        refine ax_nil ?_
        refine cx_keep rfl rfl ?_
        refine cx_seq ?_
        refine cx_ops ?_
        first | refine ax_q (q_fadr_ptr rfl) ?_ | refine ax_q (q_fadr_rptr rfl) ?_ | refine ax_q (q_fadr_ip rfl) ?_
        first | refine ax_q (q_load1_ptr rfl rfl rfl) ?_ | refine ax_q (q_load1_ip rfl) ?_ | refine ax_q (q_load1_rptr rfl rfl (by assumption) rfl) ?_ | refine ax_q (q_load1_rptr rfl rfl (mapAt (by first | assumption | omega)) rfl) ?_
        first | refine ax_call rfl (vc_pure0 (c_l01In  ) hP rfl rfl ?_) | refine ax_call rfl (vc_lend0 (c_l01In  ) hP (by repeat (first | exact lal_id _ rfl | exact LAL.nil | refine LAL.cons ?_ ?_ | exact la_id _ rfl | exact LA.lend (lend_whole rfl (by first | (simp; done) | (rw [List.length_map]; rfl))) | refine LA.agg ?_ | refine LA.fn ?_ | refine LA.lend ?_ | exact Lend.d _ | exact Lend.zs _ | exact lend_whole rfl (by first | (simp; done) | (rw [List.length_map]; rfl)) | refine Lend.ptr rfl ?_ | refine Lend.fn ?_ | exact LendL.nil | refine LendL.cons ?_ ?_)) rfl rfl ?_)
        refine ax_q (q_not rfl) ?_
        refine ax_q (q_mov rfl) ?_
        apply ax_or rfl rfl
        · intro g
          have g := bF g
          first | refine ax_q (q_fadr_ptr rfl) ?_ | refine ax_q (q_fadr_rptr rfl) ?_ | refine ax_q (q_fadr_ip rfl) ?_
          first | refine ax_q (q_load1_ptr rfl rfl rfl) ?_ | refine ax_q (q_load1_ip rfl) ?_ | refine ax_q (q_load1_rptr rfl rfl (by assumption) rfl) ?_ | refine ax_q (q_load1_rptr rfl rfl (mapAt (by first | assumption | omega)) rfl) ?_
          first | refine ax_call rfl (vc_pure0 (c_l01In  ) hP rfl rfl ?_) | refine ax_call rfl (vc_lend0 (c_l01In  ) hP (by repeat (first | exact lal_id _ rfl | exact LAL.nil | refine LAL.cons ?_ ?_ | exact la_id _ rfl | exact LA.lend (lend_whole rfl (by first | (simp; done) | (rw [List.length_map]; rfl))) | refine LA.agg ?_ | refine LA.fn ?_ | refine LA.lend ?_ | exact Lend.d _ | exact Lend.zs _ | exact lend_whole rfl (by first | (simp; done) | (rw [List.length_map]; rfl)) | refine Lend.ptr rfl ?_ | refine Lend.fn ?_ | exact LendL.nil | refine LendL.cons ?_ ?_)) rfl rfl ?_)
          refine ax_q (q_not rfl) ?_
          exact ax_nil ⟨rfl, by repeat (first | exact trivial | refine ⟨rfl, ?_⟩ | refine ⟨?_, ?_⟩)⟩
        refine ax_q (q_mov rfl) ?_
        apply ax_or rfl rfl
        · intro g
          have g := (fun h => And.intro (bF (or_F h).1) (bF (or_F h).2)) g
          first | refine ax_q (q_fadr_ptr rfl) ?_ | refine ax_q (q_fadr_rptr rfl) ?_ | refine ax_q (q_fadr_ip rfl) ?_
          first | refine ax_q (q_load1_ptr rfl rfl rfl) ?_ | refine ax_q (q_load1_ip rfl) ?_ | refine ax_q (q_load1_rptr rfl rfl (by assumption) rfl) ?_ | refine ax_q (q_load1_rptr rfl rfl (mapAt (by first | assumption | omega)) rfl) ?_
          first | refine ax_q (q_fadr_ptr rfl) ?_ | refine ax_q (q_fadr_rptr rfl) ?_ | refine ax_q (q_fadr_ip rfl) ?_
          first | refine ax_q (q_load1_ptr rfl rfl rfl) ?_ | refine ax_q (q_load1_ip rfl) ?_ | refine ax_q (q_load1_rptr rfl rfl (by assumption) rfl) ?_ | refine ax_q (q_load1_rptr rfl rfl (mapAt (by first | assumption | omega)) rfl) ?_
          refine ax_q (q_ibin rfl rfl rfl) ?_
          exact ax_nil ⟨rfl, by repeat (first | exact trivial | refine ⟨rfl, ?_⟩ | refine ⟨?_, ?_⟩)⟩
        refine ax_nil ?_
        refine cx_keep rfl rfl ?_
        refine cx_cond rfl (fun h6 => ?_) (fun h6 => ?_)
        · have h6 : badWait l.Waits[k] = true := h6
          refine cx_seq ?_
          refine cx_ops ?_
          refine ax_q (q_mov rfl) ?_
          refine ax_nil ?_
          refine cx_keep rfl rfl ?_
          refine cx_ret (ret0 rfl rfl ?_)
          exact ⟨by rw [show locksOK l = false from by unfold locksOK; rw [any_hit h5x h6]; simp]; rfl, rfl⟩
        · have h6 : badWait l.Waits[k] = false := h6
          refine cx_skip ?_
          refine cx_keep rfl rfl ?_
          refine cx_ops ?_
          refine ax_q (q_mov rfl) ?_
          refine ax_qe (r' := int ((k + 1 : Nat) : Int)) (q_ibin rfl rfl rfl) (by rw [wi (by omega) (by omega)]; rfl) ?_
          refine ax_q (q_mov rfl) ?_
          refine ax_nil ?_
          exact ⟨_, k + 1, by omega, ⟨by omega, rfl, before_step h5x hb h6⟩, by repeat (first | exact trivial | refine ⟨rfl, ?_⟩ | refine ⟨?_, ?_⟩)⟩
      · have h5 := dF h5
        have h5x : k = l.Waits.length := by omega
        refine cx_exit rfl ?_
        refine cx_keep rfl rfl ?_
        refine cx_seq ?_
        refine cx_ops ?_
        refine ax_q (q_mov rfl) ?_
        refine ax_nil ?_
        refine cx_keep rfl rfl ?_
        refine cx_ret (ret0 rfl rfl ?_)
        exact ⟨by rw [show locksOK l = true from by unfold locksOK; rw [ht, any_all (fun i hi => hb i (by omega)), decide_eq_true (show (l.Held.length : Int) ≤ 60 by omega), decide_eq_true (show (l.Waits.length : Int) ≤ 100 by omega)]; rfl]; rfl, rfl⟩


/- loop.example/g00332/spec.FreeLocks -/
def k_c_sFreeLocks : XCode :=
  .seq (.ops [.op (some 2) (.box (.t 0)),
     .op (some 4) (.alloc [.nils 4, .nils 2]),
     .op (some 5) (.mov (.k (.int .i64 0)))])
  (.keep [1, 2, 4] (.seq (.seq (.ops [.op (some 6) (.loadN 2 (.t 2)),
      .call (some 7) 32 [.t 6],
      .op (some 8) (.not (.t 7))])
   (.keep [1, 2, 4, 8] (.cond (.t 8)
    (.seq (.ops [.op (some 9) (.build [.nils 4, .nils 2] []),
        .op none (.store 2 (.t 4) (.t 9)),
        .op (some 5) (.mov (.k (.int .i64 1)))])
     (.keep [4, 5] (.ret)))
    (.skip))))
  (.keep [1, 2, 4] (.seq (.seq (.ops [.op (some 10) (.mov (.t 1)),
      .call (some 11) 33 [.t 10, .k (.int .i64 1), .k (.int .i64 60)],
      .op (some 12) (.not (.t 11))])
   (.keep [1, 2, 4, 12] (.cond (.t 12)
    (.seq (.ops [.op (some 13) (.build [.nils 4, .nils 2] []),
        .op none (.store 2 (.t 4) (.t 13)),
        .op (some 5) (.mov (.k (.int .i64 4)))])
     (.keep [4, 5] (.ret)))
    (.skip))))
  (.keep [1, 2, 4] (.seq (.ops [.op (some 14) (.loadN 2 (.t 2)),
     .op (some 15) (.mov (.t 1)),
     .call (some 16) 34 [.t 14, .t 15],
     .op none (.store 2 (.t 4) (.t 16)),
     .op (some 5) (.mov (.k (.int .i64 0)))])
  (.keep [4, 5] (.ret))))))))
theorem k_c_sFreeLocks_fits : fitsF Try.prog 11 ⟨17, k_c_sFreeLocks, [.cN 4 2, .t 5]⟩ = true := by kernel_rfl
theorem c_sFreeLocks {l : GLocks} {tx : Int} (hw0 : l.Held.length ≤ 1048576) (hw1 : l.Waits.length ≤ 1048576) (hl : wfL GLock.wf l.Held) : Con Try.prog noMv 11 [l.av, int tx] [] (fun r h => r = .tup [(freeLocks l tx).1.avO 0 1, int (freeLocks l tx).2] ∧ h = (freeLocks l tx).1.hO 0 1) := by
  refine con_of2 k_c_sFreeLocks_fits rfl fun C hP hmv => ?_
  unfold k_c_sFreeLocks
  refine cx_seq ?_
  refine cx_ops ?_
  refine ax_e (e_box rfl rfl (by decide) rfl rfl rfl) ?_
  refine ax_e (e_alloc (by decide) rfl rfl) ?_
  refine ax_q (q_mov rfl) ?_
  refine ax_nil ?_
  refine cx_keep rfl rfl ?_
  refine cx_seq ?_
  refine cx_seq ?_
  refine cx_ops ?_
  first | refine ax_q (q_ldN rfl rfl rfl) ?_ | refine ax_q (q_loadN_ip rfl (Nat.le_refl _)) ?_ | refine ax_q (q_loadN_ip rfl (by decide)) ?_ | refine ax_q (q_loadN_rptr rfl rfl (by assumption) (by decide)) ?_ | refine ax_q (q_loadN_rptr rfl rfl (mapAt (by first | assumption | omega)) (by decide)) ?_
  first | refine ax_call rfl (vc_pure0 (c_sLocksOK  ?_ ?_ ?_) hP rfl rfl ?_) | refine ax_call rfl (vc_lend0 (c_sLocksOK  ?_ ?_ ?_) hP (by repeat (first | exact lal_id _ rfl | exact LAL.nil | refine LAL.cons ?_ ?_ | exact la_id _ rfl | exact LA.lend (lend_whole rfl (by first | (simp; done) | (rw [List.length_map]; rfl))) | refine LA.agg ?_ | refine LA.fn ?_ | refine LA.lend ?_ | exact Lend.d _ | exact Lend.zs _ | exact lend_whole rfl (by first | (simp; done) | (rw [List.length_map]; rfl)) | refine Lend.ptr rfl ?_ | refine Lend.fn ?_ | exact LendL.nil | refine LendL.cons ?_ ?_)) rfl rfl ?_)
  · first | assumption | omega | (simp; done) | (simp; omega)
  · first | assumption | omega | (simp; done) | (simp; omega)
  · first | assumption | omega | (simp; done) | (simp; omega)
  refine ax_q (q_not rfl) ?_
  refine ax_nil ?_
  refine cx_keep rfl rfl ?_
  refine cx_cond rfl (fun h0 => ?_) (fun h0 => ?_)
  · have h0 := bT h0
    refine cx_seq ?_
    refine cx_ops ?_
    refine ax_q (q_build rfl) ?_
    refine ax_e (e_st rfl rfl rfl rfl rfl rfl rfl) ?_
    refine ax_q (q_mov rfl) ?_
    refine ax_nil ?_
    refine cx_keep rfl rfl ?_
    have e : freeLocks l tx = (.zero, 1) := by unfold freeLocks; rw [if_pos h0]
    refine cx_wk (wk_virt 900 4 rfl rfl rfl) ?_
    refine cx_wk (wk_zsb 4 900 0 rfl rfl rfl) ?_
    refine cx_wk (wk_virt 901 2 rfl rfl rfl) ?_
    refine cx_wk (wk_zsb 4 901 1 rfl rfl rfl) ?_
    refine cx_ret (retN (fun e => bif Nat.beq e 901 then 1 else 0) [900, 901] rfl rfl rfl rfl rfl ?_)
    rw [e]; exact ⟨rfl, rfl⟩
  · have h0 := bF h0
    refine cx_skip ?_
    refine cx_keep rfl rfl ?_
    refine cx_seq ?_
    refine cx_seq ?_
    refine cx_ops ?_
    refine ax_q (q_mov rfl) ?_
    first | refine ax_call rfl (vc_pure0 (c_l01In  ) hP rfl rfl ?_) | refine ax_call rfl (vc_lend0 (c_l01In  ) hP (by repeat (first | exact lal_id _ rfl | exact LAL.nil | refine LAL.cons ?_ ?_ | exact la_id _ rfl | exact LA.lend (lend_whole rfl (by first | (simp; done) | (rw [List.length_map]; rfl))) | refine LA.agg ?_ | refine LA.fn ?_ | refine LA.lend ?_ | exact Lend.d _ | exact Lend.zs _ | exact lend_whole rfl (by first | (simp; done) | (rw [List.length_map]; rfl)) | refine Lend.ptr rfl ?_ | refine Lend.fn ?_ | exact LendL.nil | refine LendL.cons ?_ ?_)) rfl rfl ?_)
    refine ax_q (q_not rfl) ?_
    refine ax_nil ?_
    refine cx_keep rfl rfl ?_
    refine cx_cond rfl (fun h1 => ?_) (fun h1 => ?_)
    · have h1 := bT h1
      refine cx_seq ?_
      refine cx_ops ?_
      refine ax_q (q_build rfl) ?_
      refine ax_e (e_st rfl rfl rfl rfl rfl rfl rfl) ?_
      refine ax_q (q_mov rfl) ?_
      refine ax_nil ?_
      refine cx_keep rfl rfl ?_
      have e : freeLocks l tx = (.zero, 4) := by unfold freeLocks; rw [if_neg (by rw [h0]; simp), if_pos (show isTx tx = false from h1)]
      refine cx_wk (wk_virt 900 4 rfl rfl rfl) ?_
      refine cx_wk (wk_zsb 4 900 0 rfl rfl rfl) ?_
      refine cx_wk (wk_virt 901 2 rfl rfl rfl) ?_
      refine cx_wk (wk_zsb 4 901 1 rfl rfl rfl) ?_
      refine cx_ret (retN (fun e => bif Nat.beq e 901 then 1 else 0) [900, 901] rfl rfl rfl rfl rfl ?_)
      rw [e]; exact ⟨rfl, rfl⟩
    · have h1 := bF h1
      refine cx_skip ?_
      refine cx_keep rfl rfl ?_
      refine cx_seq ?_
      refine cx_ops ?_
      first | refine ax_q (q_ldN rfl rfl rfl) ?_ | refine ax_q (q_loadN_ip rfl (Nat.le_refl _)) ?_ | refine ax_q (q_loadN_ip rfl (by decide)) ?_ | refine ax_q (q_loadN_rptr rfl rfl (by assumption) (by decide)) ?_ | refine ax_q (q_loadN_rptr rfl rfl (mapAt (by first | assumption | omega)) (by decide)) ?_
      refine ax_q (q_mov rfl) ?_
      first | refine ax_call rfl (vc_pure (c_l06Free  ?_ ?_) hP rfl ?_) | refine ax_call rfl (vc_lend (c_l06Free  ?_ ?_) hP (by repeat (first | exact lal_id _ rfl | exact LAL.nil | refine LAL.cons ?_ ?_ | exact la_id _ rfl | exact LA.lend (lend_whole rfl (by first | (simp; done) | (rw [List.length_map]; rfl))) | refine LA.agg ?_ | refine LA.fn ?_ | refine LA.lend ?_ | exact Lend.d _ | exact Lend.zs _ | exact lend_whole rfl (by first | (simp; done) | (rw [List.length_map]; rfl)) | refine Lend.ptr rfl ?_ | refine Lend.fn ?_ | exact LendL.nil | refine LendL.cons ?_ ?_)) ?_)
      · first | assumption | omega | (simp; done) | (simp; omega)
      · first | assumption | omega | (simp; done) | (simp; omega)
      rintro r h ⟨rfl, rfl⟩
      refine ⟨fun i => 16 + 200 * i, [0, 1], ⟨rfl, rfl, rfl, rfl, rfl, (by first | exact (fun h => absurd h Bool.false_ne_true) | exact (fun _ => ⟨rfl, (noisl_of (by repeat (first | exact trivial | refine ⟨noisl_map (fun _ => rfl), ?_⟩ | refine ⟨?_, ?_⟩)))⟩))⟩, ?_⟩
      skip
      refine ax_e (e_st rfl rfl rfl rfl rfl rfl rfl) ?_
      refine ax_q (q_mov rfl) ?_
      refine ax_nil ?_
      refine cx_keep rfl rfl ?_
      refine cx_ret (retN (fun e => bif Nat.beq e 216 then 1 else 0) [16, 216] rfl rfl rfl rfl rfl ?_)
      rw [freeLocks_ok h0 h1]; exact ⟨rfl, rfl⟩


/- loop.example/g00332/impl.LocksOfTx$1 -/
def k_c_LocksOfTx1 : XCode :=
  .seq (.ops [.op (some 2) (.box (.t 0)),
     .op (some 3) (.mov (.k (.bool false)))])
  (.keep [1, 2] (.seq (.ops [.op (some 4) (.fadr (.t 2) 0),
     .op (some 5) (.load1 (.t 4)),
     .op (some 6) (.load1 (.t 1)),
     .op (some 7) (.bin .neq (.t 5) (.t 6)),
     .op (some 3) (.mov (.t 7))])
  (.keep [3] (.ret))))
theorem k_c_LocksOfTx1_fits : fitsF Try.prog 37 ⟨8, k_c_LocksOfTx1, [.t 3]⟩ = true := by kernel_rfl
theorem c_LocksOfTx1 {a : GLock} {tx : Int} : Con Try.prog noMv 37 [a.av, .d (.ip [.int .i64 tx])] [] (fun r h => r = bool (!decide (a.Tx = tx)) ∧ h = []) := by
  refine con_of2 k_c_LocksOfTx1_fits rfl fun C hP hmv => ?_
  unfold k_c_LocksOfTx1
  refine cx_seq ?_
  refine cx_ops ?_
  refine ax_e (e_box rfl rfl (by decide) rfl rfl rfl) ?_
  refine ax_q (q_mov rfl) ?_
  refine ax_nil ?_
  refine cx_keep rfl rfl ?_
  refine cx_seq ?_
  refine cx_ops ?_
  first | refine ax_q (q_fadr_ptr rfl) ?_ | refine ax_q (q_fadr_rptr rfl) ?_ | refine ax_q (q_fadr_ip rfl) ?_
  first | refine ax_q (q_load1_ptr rfl rfl rfl) ?_ | refine ax_q (q_load1_ip rfl) ?_ | refine ax_q (q_load1_rptr rfl rfl (by assumption) rfl) ?_ | refine ax_q (q_load1_rptr rfl rfl (mapAt (by first | assumption | omega)) rfl) ?_
  first | refine ax_q (q_load1_ptr rfl rfl rfl) ?_ | refine ax_q (q_load1_ip rfl) ?_ | refine ax_q (q_load1_rptr rfl rfl (by assumption) rfl) ?_ | refine ax_q (q_load1_rptr rfl rfl (mapAt (by first | assumption | omega)) rfl) ?_
  refine ax_q (q_ibin rfl rfl rfl) ?_
  refine ax_q (q_mov rfl) ?_
  refine ax_nil ?_
  refine cx_keep rfl rfl ?_
  refine cx_ret (ret0 rfl rfl ?_)
  exact ⟨rfl, rfl⟩


/- loop.example/g00332/impl.LocksOfTx -/
def k_c_LocksOfTx : XCode :=
  .seq (.ops [.op (some 2) (.box (.t 0)),
     .op (some 3) (.box (.t 1)),
     .op (some 4) (.mov (.k (.nils 4))),
     .op (some 5) (.mov (.k (.int .i64 0)))])
  (.keep [2, 3] (.seq (.block 0 (.seq (.ops [.op (some 7) (.loadN 2 (.t 2)),
       .call (some 8) 24 [.t 7],
       .op (some 9) (.not (.t 8)),
       .op (some 6) (.mov (.t 9))])
    (.keep [2, 3, 6] (.cond (.t 6)
     (.seq (.ops [.op (some 4) (.mov (.k (.nils 4))),
         .op (some 5) (.mov (.k (.int .i64 1)))])
      (.keep [4, 5] (.ret)))
     (.seq (.ops [.op (some 11) (.load1 (.t 3)),
         .call (some 12) 29 [.t 11],
         .op (some 13) (.not (.t 12)),
         .op (some 10) (.mov (.t 13))])
      (.keep [2, 3, 10] (.cond (.t 10)
       (.seq (.ops [.op (some 4) (.mov (.k (.nils 4))),
           .op (some 5) (.mov (.k (.int .i64 4)))])
        (.keep [4, 5] (.ret)))
       (.skip))))))))
  (.keep [2, 3] (.seq (.ops [.op (some 14) (.fadr (.t 2) 0),
     .op (some 15) (.load1 (.t 14)),
     .call (some 16) 36 [.t 15],
     .op (some 17) (.mkfn 37 [.t 3]),
     .call (some 18) 35 [.t 16, .t 17],
     .op (some 4) (.mov (.t 18)),
     .op (some 5) (.mov (.k (.int .i64 0)))])
  (.keep [4, 5] (.ret))))))
theorem k_c_LocksOfTx_fits : fitsF Try.prog 12 ⟨19, k_c_LocksOfTx, [.t 4, .t 5]⟩ = true := by kernel_rfl
theorem c_LocksOfTx {l : GLocks} {tx : Int} (hw0 : l.Held.length ≤ 1048576) (hw1 : l.Waits.length ≤ 1048576) : Con Try.prog noMv 12 [l.av, int tx] [] (fun r h => r = .tup [.osl 0 4 0 (locksOfTx l tx).1.length, int (locksOfTx l tx).2] ∧ h = [(0, .rows 4 ((locksOfTx l tx).1.map GLock.row))]) := by
  refine con_of2 k_c_LocksOfTx_fits rfl fun C hP hmv => ?_
  unfold k_c_LocksOfTx
  refine cx_seq ?_
  refine cx_ops ?_
  refine ax_e (e_box rfl rfl (by decide) rfl rfl rfl) ?_
  refine ax_e (e_box rfl rfl (by decide) rfl rfl rfl) ?_
  refine ax_q (q_mov rfl) ?_
  refine ax_q (q_mov rfl) ?_
  refine ax_nil ?_
  refine cx_keep rfl rfl ?_
  refine cx_seq ?_
  refine cx_block ?_
  refine cx_seq ?_
  refine cx_ops ?_
  first | refine ax_q (q_ldN rfl rfl rfl) ?_ | refine ax_q (q_loadN_ip rfl (Nat.le_refl _)) ?_ | refine ax_q (q_loadN_ip rfl (by decide)) ?_ | refine ax_q (q_loadN_rptr rfl rfl (by assumption) (by decide)) ?_ | refine ax_q (q_loadN_rptr rfl rfl (mapAt (by first | assumption | omega)) (by decide)) ?_
  first | refine ax_call rfl (vc_pure0 (c_LocksOK  ?_ ?_) hP rfl rfl ?_) | refine ax_call rfl (vc_lend0 (c_LocksOK  ?_ ?_) hP (by repeat (first | exact lal_id _ rfl | exact LAL.nil | refine LAL.cons ?_ ?_ | exact la_id _ rfl | exact LA.lend (lend_whole rfl (by first | (simp; done) | (rw [List.length_map]; rfl))) | refine LA.agg ?_ | refine LA.fn ?_ | refine LA.lend ?_ | exact Lend.d _ | exact Lend.zs _ | exact lend_whole rfl (by first | (simp; done) | (rw [List.length_map]; rfl)) | refine Lend.ptr rfl ?_ | refine Lend.fn ?_ | exact LendL.nil | refine LendL.cons ?_ ?_)) rfl rfl ?_)
  · first | assumption | omega | (simp; done) | (simp; omega)
  · first | assumption | omega | (simp; done) | (simp; omega)
  refine ax_q (q_not rfl) ?_
  refine ax_q (q_mov rfl) ?_
  refine ax_nil ?_
  refine cx_keep rfl rfl ?_
  refine cx_cond rfl (fun h0 => ?_) (fun h0 => ?_)
  · have h0 := bT h0
    refine cx_seq ?_
    refine cx_ops ?_
    refine ax_q (q_mov rfl) ?_
    refine ax_q (q_mov rfl) ?_
    refine ax_nil ?_
    refine cx_keep rfl rfl ?_
    refine cx_wk (wk_virt 900 4 rfl rfl rfl) ?_
    refine cx_wk (wk_zs 4 900 [] rfl rfl) ?_
    refine cx_ret (retN (fun _ => 0) [900] rfl rfl rfl rfl rfl ?_)
    rw [locksOfTx_1 h0]; exact ⟨rfl, rfl⟩
  · have h0 := bF h0
    refine cx_seq ?_
    refine cx_ops ?_
    first | refine ax_q (q_load1_ptr rfl rfl rfl) ?_ | refine ax_q (q_load1_ip rfl) ?_ | refine ax_q (q_load1_rptr rfl rfl (by assumption) rfl) ?_ | refine ax_q (q_load1_rptr rfl rfl (mapAt (by first | assumption | omega)) rfl) ?_
    first | refine ax_call rfl (vc_pure0 (c_isTx  ) hP rfl rfl ?_) | refine ax_call rfl (vc_lend0 (c_isTx  ) hP (by repeat (first | exact lal_id _ rfl | exact LAL.nil | refine LAL.cons ?_ ?_ | exact la_id _ rfl | exact LA.lend (lend_whole rfl (by first | (simp; done) | (rw [List.length_map]; rfl))) | refine LA.agg ?_ | refine LA.fn ?_ | refine LA.lend ?_ | exact Lend.d _ | exact Lend.zs _ | exact lend_whole rfl (by first | (simp; done) | (rw [List.length_map]; rfl)) | refine Lend.ptr rfl ?_ | refine Lend.fn ?_ | exact LendL.nil | refine LendL.cons ?_ ?_)) rfl rfl ?_)
    refine ax_q (q_not rfl) ?_
    refine ax_q (q_mov rfl) ?_
    refine ax_nil ?_
    refine cx_keep rfl rfl ?_
    refine cx_cond rfl (fun h1 => ?_) (fun h1 => ?_)
    · have h1 := bT h1
      refine cx_seq ?_
      refine cx_ops ?_
      refine ax_q (q_mov rfl) ?_
      refine ax_q (q_mov rfl) ?_
      refine ax_nil ?_
      refine cx_keep rfl rfl ?_
      refine cx_wk (wk_virt 900 4 rfl rfl rfl) ?_
      refine cx_wk (wk_zs 4 900 [] rfl rfl) ?_
      refine cx_ret (retN (fun _ => 0) [900] rfl rfl rfl rfl rfl ?_)
      rw [locksOfTx_2 h0 h1]; exact ⟨rfl, rfl⟩
    · have h1 := bF h1
      refine cx_skip ?_
      refine cx_keep rfl rfl ?_
      refine cx_seq ?_
      refine cx_ops ?_
      first | refine ax_q (q_fadr_ptr rfl) ?_ | refine ax_q (q_fadr_rptr rfl) ?_ | refine ax_q (q_fadr_ip rfl) ?_
      first | refine ax_q (q_load1_ptr rfl rfl rfl) ?_ | refine ax_q (q_load1_ip rfl) ?_ | refine ax_q (q_load1_rptr rfl rfl (by assumption) rfl) ?_ | refine ax_q (q_load1_rptr rfl rfl (mapAt (by first | assumption | omega)) rfl) ?_
      first | refine ax_call rfl (vc_pure (c_Clone_Lock  ?_) hP rfl ?_) | refine ax_call rfl (vc_lend (c_Clone_Lock  ?_) hP (by repeat (first | exact lal_id _ rfl | exact LAL.nil | refine LAL.cons ?_ ?_ | exact la_id _ rfl | exact LA.lend (lend_whole rfl (by first | (simp; done) | (rw [List.length_map]; rfl))) | refine LA.agg ?_ | refine LA.fn ?_ | refine LA.lend ?_ | exact Lend.d _ | exact Lend.zs _ | exact lend_whole rfl (by first | (simp; done) | (rw [List.length_map]; rfl)) | refine Lend.ptr rfl ?_ | refine Lend.fn ?_ | exact LendL.nil | refine LendL.cons ?_ ?_)) ?_)
      · first | assumption | omega | (simp; done) | (simp; omega)
      rintro r h ⟨rfl, rfl⟩
      refine ⟨fun i => 16 + 200 * i, [0], ⟨rfl, rfl, rfl, rfl, rfl, (by first | exact (fun h => absurd h Bool.false_ne_true) | exact (fun _ => ⟨rfl, (noisl_of (by repeat (first | exact trivial | refine ⟨noisl_map (fun _ => rfl), ?_⟩ | refine ⟨?_, ?_⟩)))⟩))⟩, ?_⟩
      skip
      refine ax_q (q_mkfn rfl) ?_
      refine ax_call rfl (vcall_own (c_DeleteFunc_Lock (xs := l.Held) (ds := [.ip [.int .i64 tx]]) (fun x => !decide (x.Tx = tx)) (by omega) (by kernel_rfl) (fun s _ => c_LocksOfTx1)) hP hmv true (fun _ => 16) [1000] ⟨rfl, rfl, rfl, rfl, ⟨rfl, trivial⟩, rfl, rfl, rfl⟩ (.pass rfl rfl (.lend (.lend (.fn (.cons (.ptr rfl (by repeat (first | exact .nil | refine .cons (.d _) ?_))) .nil))) .nil)) ?_)
      rintro r h ⟨rfl, rfl⟩
      refine ⟨fun _ => 16, [], ⟨rfl, rfl, rfl, rfl, (mem1 rfl), rfl, rfl, fun _ => ⟨rfl, noisl_of ⟨noisl_map (fun _ => rfl), trivial⟩⟩⟩, ?_⟩
      refine ax_q (q_mov rfl) ?_
      refine ax_q (q_mov rfl) ?_
      refine ax_nil ?_
      refine cx_keep rfl rfl ?_
      refine cx_ret (retN (fun _ => 0) [16] rfl rfl rfl rfl rfl ?_)
      rw [locksOfTx_3 h0 h1]; exact ⟨rfl, rfl⟩


/- loop.example/g00332/laws.sameLocks -/
def k_c_sameLocks : XCode :=
  .seq (.ops [.op (some 2) (.box (.t 0)),
     .op (some 3) (.box (.t 1)),
     .op (some 4) (.mov (.k (.bool false)))])
  (.keep [2, 3] (.seq (.seq (.ops [.op (some 7) (.fadr (.t 2) 0),
      .op (some 8) (.load1 (.t 7)),
      .op (some 9) (.lenS (.t 8)),
      .op (some 10) (.fadr (.t 3) 0),
      .op (some 11) (.load1 (.t 10)),
      .op (some 12) (.lenS (.t 11)),
      .op (some 13) (.bin .neq (.t 9) (.t 12)),
      .op (some 14) (.mov (.t 13)),
      .andor 22 false 7 14 [.op (some 15) (.fadr (.t 2) 1), .op (some 16) (.load1 (.t 15)), .op (some 17) (.lenS (.t 16)), .op (some 18) (.fadr (.t 3) 1), .op (some 19) (.load1 (.t 18)), .op (some 20) (.lenS (.t 19)), .op (some 21) (.bin .neq (.t 17) (.t 20))] (.t 21)])
   (.keep [2, 3, 22] (.cond (.t 22)
    (.seq (.ops [.op (some 4) (.mov (.k (.bool false)))])
     (.keep [4] (.ret)))
    (.skip))))
  (.keep [2, 3] (.seq (.seq (.ops [.op (some 5) (.mov (.k (.int .i64 0)))])
   (.keep [2, 3, 5] (.block 0 (.loop (.seq (.seq (.ops [.op (some 23) (.mov (.t 5)),
         .op (some 24) (.fadr (.t 2) 0),
         .op (some 25) (.load1 (.t 24)),
         .op (some 26) (.lenS (.t 25)),
         .op (some 27) (.bin .lss (.t 23) (.t 26))])
      (.keep [2, 3, 5, 27] (.cond (.t 27)
       (.skip)
       (.exit 0))))
     (.keep [2, 3, 5] (.seq (.block 1 (.seq (.draw [.op (some 30) (.fadr (.t 2) 0),
          .op (some 31) (.load1 (.t 30)),
          .op (some 32) (.mov (.t 5)),
          .op (some 33) (.iadr 4 (.t 31) (.t 32)),
          .op (some 34) (.loadN 4 (.t 33)),
          .op (some 35) (.fadr (.t 3) 0),
          .op (some 36) (.load1 (.t 35)),
          .op (some 37) (.mov (.t 5)),
          .op (some 38) (.iadr 4 (.t 36) (.t 37)),
          .op (some 39) (.loadN 4 (.t 38)),
          .op (some 40) (.eqs true [0, 0, 0, 0] (.t 34) (.t 39))])
       (.keep [2, 3, 5, 40] (.cond (.t 40)
        (.seq (.ops [.op (some 4) (.mov (.k (.bool false)))])
         (.keep [4] (.ret)))
        (.skip)))))
     (.keep [2, 3, 5] (.ops [.op (some 28) (.mov (.t 5)),
       .op (some 29) (.bin .add (.t 28) (.k (.int .i64 1))),
       .op (some 5) (.mov (.t 29))])))))))))
  (.keep [2, 3] (.seq (.seq (.ops [.op (some 6) (.mov (.k (.int .i64 0)))])
   (.keep [2, 3, 6] (.block 2 (.loop (.seq (.seq (.ops [.op (some 41) (.mov (.t 6)),
         .op (some 42) (.fadr (.t 2) 1),
         .op (some 43) (.load1 (.t 42)),
         .op (some 44) (.lenS (.t 43)),
         .op (some 45) (.bin .lss (.t 41) (.t 44))])
      (.keep [2, 3, 6, 45] (.cond (.t 45)
       (.skip)
       (.exit 2))))
     (.keep [2, 3, 6] (.seq (.block 3 (.seq (.draw [.op (some 48) (.fadr (.t 2) 1),
          .op (some 49) (.load1 (.t 48)),
          .op (some 50) (.mov (.t 6)),
          .op (some 51) (.iadr 2 (.t 49) (.t 50)),
          .op (some 52) (.loadN 2 (.t 51)),
          .op (some 53) (.fadr (.t 3) 1),
          .op (some 54) (.load1 (.t 53)),
          .op (some 55) (.mov (.t 6)),
          .op (some 56) (.iadr 2 (.t 54) (.t 55)),
          .op (some 57) (.loadN 2 (.t 56)),
          .op (some 58) (.eqs true [0, 0] (.t 52) (.t 57))])
       (.keep [2, 3, 6, 58] (.cond (.t 58)
        (.seq (.ops [.op (some 4) (.mov (.k (.bool false)))])
         (.keep [4] (.ret)))
        (.skip)))))
     (.keep [2, 3, 6] (.ops [.op (some 46) (.mov (.t 6)),
       .op (some 47) (.bin .add (.t 46) (.k (.int .i64 1))),
       .op (some 6) (.mov (.t 47))])))))))))
  (.keep [] (.seq (.ops [.op (some 4) (.mov (.k (.bool true)))])
  (.keep [4] (.ret))))))))))
theorem k_c_sameLocks_fits : fitsF Try.prog 13 ⟨59, k_c_sameLocks, [.t 4]⟩ = true := by kernel_rfl
theorem c_sameLocks {a b : GLocks} (hw0 : a.Held.length ≤ 1048577) (hw1 : a.Waits.length ≤ 2097152) : Con Try.prog noMv 13 [a.av, b.av] [] (fun r h => r = bool (eqb a b) ∧ h = []) := by
  refine con_of2 k_c_sameLocks_fits rfl fun C hP hmv => ?_
  unfold k_c_sameLocks
  refine cx_seq ?_
  refine cx_ops ?_
  refine ax_e (e_box rfl rfl (by decide) rfl rfl rfl) ?_
  refine ax_e (e_box rfl rfl (by decide) rfl rfl rfl) ?_
  refine ax_q (q_mov rfl) ?_
  refine ax_nil ?_
  refine cx_keep rfl rfl ?_
  refine cx_seq ?_
  refine cx_seq ?_
  refine cx_ops ?_
  first | refine ax_q (q_fadr_ptr rfl) ?_ | refine ax_q (q_fadr_rptr rfl) ?_ | refine ax_q (q_fadr_ip rfl) ?_
  first | refine ax_q (q_load1_ptr rfl rfl rfl) ?_ | refine ax_q (q_load1_ip rfl) ?_ | refine ax_q (q_load1_rptr rfl rfl (by assumption) rfl) ?_ | refine ax_q (q_load1_rptr rfl rfl (mapAt (by first | assumption | omega)) rfl) ?_
  first | refine ax_q (q_lenS_map rfl) ?_ | refine ax_q (q_lenS_osl rfl) ?_ | refine ax_q (q_lenS_zs rfl) ?_ | refine ax_q (q_lenS rfl) ?_
  first | refine ax_q (q_fadr_ptr rfl) ?_ | refine ax_q (q_fadr_rptr rfl) ?_ | refine ax_q (q_fadr_ip rfl) ?_
  first | refine ax_q (q_load1_ptr rfl rfl rfl) ?_ | refine ax_q (q_load1_ip rfl) ?_ | refine ax_q (q_load1_rptr rfl rfl (by assumption) rfl) ?_ | refine ax_q (q_load1_rptr rfl rfl (mapAt (by first | assumption | omega)) rfl) ?_
  first | refine ax_q (q_lenS_map rfl) ?_ | refine ax_q (q_lenS_osl rfl) ?_ | refine ax_q (q_lenS_zs rfl) ?_ | refine ax_q (q_lenS rfl) ?_
  refine ax_q (q_ibin rfl rfl rfl) ?_
  refine ax_q (q_mov rfl) ?_
  apply ax_or rfl rfl
  · intro g
    have g := nF g
    first | refine ax_q (q_fadr_ptr rfl) ?_ | refine ax_q (q_fadr_rptr rfl) ?_ | refine ax_q (q_fadr_ip rfl) ?_
    first | refine ax_q (q_load1_ptr rfl rfl rfl) ?_ | refine ax_q (q_load1_ip rfl) ?_ | refine ax_q (q_load1_rptr rfl rfl (by assumption) rfl) ?_ | refine ax_q (q_load1_rptr rfl rfl (mapAt (by first | assumption | omega)) rfl) ?_
    first | refine ax_q (q_lenS_map rfl) ?_ | refine ax_q (q_lenS_osl rfl) ?_ | refine ax_q (q_lenS_zs rfl) ?_ | refine ax_q (q_lenS rfl) ?_
    first | refine ax_q (q_fadr_ptr rfl) ?_ | refine ax_q (q_fadr_rptr rfl) ?_ | refine ax_q (q_fadr_ip rfl) ?_
    first | refine ax_q (q_load1_ptr rfl rfl rfl) ?_ | refine ax_q (q_load1_ip rfl) ?_ | refine ax_q (q_load1_rptr rfl rfl (by assumption) rfl) ?_ | refine ax_q (q_load1_rptr rfl rfl (mapAt (by first | assumption | omega)) rfl) ?_
    first | refine ax_q (q_lenS_map rfl) ?_ | refine ax_q (q_lenS_osl rfl) ?_ | refine ax_q (q_lenS_zs rfl) ?_ | refine ax_q (q_lenS rfl) ?_
    refine ax_q (q_ibin rfl rfl rfl) ?_
    exact ax_nil ⟨rfl, by repeat (first | exact trivial | refine ⟨rfl, ?_⟩ | refine ⟨?_, ?_⟩)⟩
  refine ax_nil ?_
  refine cx_keep rfl rfl ?_
  refine cx_cond rfl (fun h0 => ?_) (fun h0 => ?_)
  · have h0 := (fun h => (or_T h).imp nT nT) h0
    refine cx_seq ?_
    refine cx_ops ?_
    refine ax_q (q_mov rfl) ?_
    refine ax_nil ?_
    refine cx_keep rfl rfl ?_
    refine cx_ret (ret0 rfl rfl ?_)
    exact ⟨congrArg AM.bool (eqb_f (fun h => by subst h; rcases h0 with h0 | h0 <;> exact h0 rfl)).symm, rfl⟩
  · have h0 := (fun h => And.intro (nF (or_F h).1) (nF (or_F h).2)) h0
    have hl0 : a.Held.length = b.Held.length := by omega
    have hl1 : a.Waits.length = b.Waits.length := by omega
    refine cx_skip ?_
    refine cx_keep rfl rfl ?_
    refine cx_seq ?_
    refine cx_seq ?_
    refine cx_ops ?_
    refine ax_q (q_mov rfl) ?_
    refine ax_nil ?_
    refine cx_keep rfl rfl ?_
    refine cx_block ?_
    refine cx_loopU (fun n k => k ≤ a.Held.length ∧ n = a.Held.length - k ∧ a.Held.take k = b.Held.take k) (fun k : Nat => [(5, int k)]) (fun _ => [(2, .box [.d (.sl 4 (a.Held.map GLock.row)), .d (.sl 2 (a.Waits.map GWait.row))]), (3, .box [.d (.sl 4 (b.Held.map GLock.row)), .d (.sl 2 (b.Waits.map GWait.row))])]) ⟨_, 0, ⟨Nat.zero_le _, rfl, rfl⟩, by repeat (first | exact trivial | refine ⟨rfl, ?_⟩ | refine ⟨?_, ?_⟩)⟩ ?_
    rintro n k ⟨hk, rfl, ht⟩
    refine cx_seq ?_
    refine cx_seq ?_
    refine cx_ops ?_
    refine ax_q (q_mov rfl) ?_
    first | refine ax_q (q_fadr_ptr rfl) ?_ | refine ax_q (q_fadr_rptr rfl) ?_ | refine ax_q (q_fadr_ip rfl) ?_
    first | refine ax_q (q_load1_ptr rfl rfl rfl) ?_ | refine ax_q (q_load1_ip rfl) ?_ | refine ax_q (q_load1_rptr rfl rfl (by assumption) rfl) ?_ | refine ax_q (q_load1_rptr rfl rfl (mapAt (by first | assumption | omega)) rfl) ?_
    first | refine ax_q (q_lenS_map rfl) ?_ | refine ax_q (q_lenS_osl rfl) ?_ | refine ax_q (q_lenS_zs rfl) ?_ | refine ax_q (q_lenS rfl) ?_
    refine ax_q (q_ibin rfl rfl rfl) ?_
    refine ax_nil ?_
    refine cx_keep rfl rfl ?_
    refine cx_cond rfl (fun h1 => ?_) (fun h1 => ?_)
    · have h1 := dT h1
      have hxx : k < a.Held.length := by omega
      have hxy : k < b.Held.length := by omega
      refine cx_skip ?_
      refine cx_keep rfl rfl ?_
      refine cx_seq ?_
      refine cx_block ?_
      refine cx_seq ?_
      refine cx_draw ?_
      first | refine ax_q (q_fadr_ptr rfl) ?_ | refine ax_q (q_fadr_rptr rfl) ?_ | refine ax_q (q_fadr_ip rfl) ?_
      first | refine ax_q (q_load1_ptr rfl rfl rfl) ?_ | refine ax_q (q_load1_ip rfl) ?_ | refine ax_q (q_load1_rptr rfl rfl (by assumption) rfl) ?_ | refine ax_q (q_load1_rptr rfl rfl (mapAt (by first | assumption | omega)) rfl) ?_
      refine ax_q (q_mov rfl) ?_
      refine ax_q (q_ix rfl rfl (mapAt hxx)) ?_
      first | refine ax_q (q_ldN rfl rfl rfl) ?_ | refine ax_q (q_loadN_ip rfl (Nat.le_refl _)) ?_ | refine ax_q (q_loadN_ip rfl (by decide)) ?_ | refine ax_q (q_loadN_rptr rfl rfl (by assumption) (by decide)) ?_ | refine ax_q (q_loadN_rptr rfl rfl (mapAt (by first | assumption | omega)) (by decide)) ?_
      first | refine ax_q (q_fadr_ptr rfl) ?_ | refine ax_q (q_fadr_rptr rfl) ?_ | refine ax_q (q_fadr_ip rfl) ?_
      first | refine ax_q (q_load1_ptr rfl rfl rfl) ?_ | refine ax_q (q_load1_ip rfl) ?_ | refine ax_q (q_load1_rptr rfl rfl (by assumption) rfl) ?_ | refine ax_q (q_load1_rptr rfl rfl (mapAt (by first | assumption | omega)) rfl) ?_
      refine ax_q (q_mov rfl) ?_
      refine ax_q (q_ix rfl rfl (mapAt hxy)) ?_
      first | refine ax_q (q_ldN rfl rfl rfl) ?_ | refine ax_q (q_loadN_ip rfl (Nat.le_refl _)) ?_ | refine ax_q (q_loadN_ip rfl (by decide)) ?_ | refine ax_q (q_loadN_rptr rfl rfl (by assumption) (by decide)) ?_ | refine ax_q (q_loadN_rptr rfl rfl (mapAt (by first | assumption | omega)) (by decide)) ?_
      first | refine ax_q (GLock.q_eqs rfl rfl) ?_ | refine ax_q (q_eqs rfl rfl rfl) ?_
      refine ax_nil ?_
      refine cx_keep rfl rfl ?_
      refine cx_cond rfl (fun h2 => ?_) (fun h2 => ?_)
      · have h2 := bT h2
        refine cx_seq ?_
        refine cx_ops ?_
        refine ax_q (q_mov rfl) ?_
        refine ax_nil ?_
        refine cx_keep rfl rfl ?_
        refine cx_ret (ret0 rfl rfl ?_)
        exact ⟨congrArg AM.bool (eqb_f (fun h => by subst h; rw [eqb_rfl] at h2; cases h2)).symm, rfl⟩
      · have h2 := bF h2
        refine cx_skip ?_
        refine cx_keep rfl rfl ?_
        refine cx_ops ?_
        refine ax_q (q_mov rfl) ?_
        refine ax_qe (r' := int ((k + 1 : Nat) : Int)) (q_ibin rfl rfl rfl) (by rw [wi (by omega) (by omega)]; rfl) ?_
        refine ax_q (q_mov rfl) ?_
        refine ax_nil ?_
        exact ⟨_, k + 1, by omega, ⟨by omega, rfl, eqbL_step hxx hxy ht h2⟩, by repeat (first | exact trivial | refine ⟨rfl, ?_⟩ | refine ⟨?_, ?_⟩)⟩
    · have h1 := dF h1
      have hH : a.Held = b.Held := eq_of_take hl0 (by rwa [show k = a.Held.length from by omega] at ht)
      refine cx_exit rfl ?_
      refine cx_keep rfl rfl ?_
      refine cx_seq ?_
      refine cx_seq ?_
      refine cx_ops ?_
      refine ax_q (q_mov rfl) ?_
      refine ax_nil ?_
      refine cx_keep rfl rfl ?_
      refine cx_block ?_
      refine cx_loopU (fun n k => k ≤ a.Waits.length ∧ n = a.Waits.length - k ∧ a.Waits.take k = b.Waits.take k) (fun k : Nat => [(6, int k)]) (fun _ => [(2, .box [.d (.sl 4 (a.Held.map GLock.row)), .d (.sl 2 (a.Waits.map GWait.row))]), (3, .box [.d (.sl 4 (b.Held.map GLock.row)), .d (.sl 2 (b.Waits.map GWait.row))])]) ⟨_, 0, ⟨Nat.zero_le _, rfl, rfl⟩, by repeat (first | exact trivial | refine ⟨rfl, ?_⟩ | refine ⟨?_, ?_⟩)⟩ ?_
      rintro n k ⟨hk, rfl, ht⟩
      refine cx_seq ?_
      refine cx_seq ?_
      refine cx_ops ?_
      refine ax_q (q_mov rfl) ?_
      first | refine ax_q (q_fadr_ptr rfl) ?_ | refine ax_q (q_fadr_rptr rfl) ?_ | refine ax_q (q_fadr_ip rfl) ?_
      first | refine ax_q (q_load1_ptr rfl rfl rfl) ?_ | refine ax_q (q_load1_ip rfl) ?_ | refine ax_q (q_load1_rptr rfl rfl (by assumption) rfl) ?_ | refine ax_q (q_load1_rptr rfl rfl (mapAt (by first | assumption | omega)) rfl) ?_
      first | refine ax_q (q_lenS_map rfl) ?_ | refine ax_q (q_lenS_osl rfl) ?_ | refine ax_q (q_lenS_zs rfl) ?_ | refine ax_q (q_lenS rfl) ?_
      refine ax_q (q_ibin rfl rfl rfl) ?_
      refine ax_nil ?_
      refine cx_keep rfl rfl ?_
      refine cx_cond rfl (fun h3 => ?_) (fun h3 => ?_)
      · have h3 := dT h3
        have hxx : k < a.Waits.length := by omega
        have hxy : k < b.Waits.length := by omega
        refine cx_skip ?_
        refine cx_keep rfl rfl ?_
        refine cx_seq ?_
        refine cx_block ?_
        refine cx_seq ?_
        refine cx_draw ?_
        first | refine ax_q (q_fadr_ptr rfl) ?_ | refine ax_q (q_fadr_rptr rfl) ?_ | refine ax_q (q_fadr_ip rfl) ?_
        first | refine ax_q (q_load1_ptr rfl rfl rfl) ?_ | refine ax_q (q_load1_ip rfl) ?_ | refine ax_q (q_load1_rptr rfl rfl (by assumption) rfl) ?_ | refine ax_q (q_load1_rptr rfl rfl (mapAt (by first | assumption | omega)) rfl) ?_
        refine ax_q (q_mov rfl) ?_
        refine ax_q (q_ix rfl rfl (mapAt hxx)) ?_
        first | refine ax_q (q_ldN rfl rfl rfl) ?_ | refine ax_q (q_loadN_ip rfl (Nat.le_refl _)) ?_ | refine ax_q (q_loadN_ip rfl (by decide)) ?_ | refine ax_q (q_loadN_rptr rfl rfl (by assumption) (by decide)) ?_ | refine ax_q (q_loadN_rptr rfl rfl (mapAt (by first | assumption | omega)) (by decide)) ?_
        first | refine ax_q (q_fadr_ptr rfl) ?_ | refine ax_q (q_fadr_rptr rfl) ?_ | refine ax_q (q_fadr_ip rfl) ?_
        first | refine ax_q (q_load1_ptr rfl rfl rfl) ?_ | refine ax_q (q_load1_ip rfl) ?_ | refine ax_q (q_load1_rptr rfl rfl (by assumption) rfl) ?_ | refine ax_q (q_load1_rptr rfl rfl (mapAt (by first | assumption | omega)) rfl) ?_
        refine ax_q (q_mov rfl) ?_
        refine ax_q (q_ix rfl rfl (mapAt hxy)) ?_
        first | refine ax_q (q_ldN rfl rfl rfl) ?_ | refine ax_q (q_loadN_ip rfl (Nat.le_refl _)) ?_ | refine ax_q (q_loadN_ip rfl (by decide)) ?_ | refine ax_q (q_loadN_rptr rfl rfl (by assumption) (by decide)) ?_ | refine ax_q (q_loadN_rptr rfl rfl (mapAt (by first | assumption | omega)) (by decide)) ?_
        first | refine ax_q (GWait.q_eqs rfl rfl) ?_ | refine ax_q (q_eqs rfl rfl rfl) ?_
        refine ax_nil ?_
        refine cx_keep rfl rfl ?_
        refine cx_cond rfl (fun h4 => ?_) (fun h4 => ?_)
        · have h4 := bT h4
          refine cx_seq ?_
          refine cx_ops ?_
          refine ax_q (q_mov rfl) ?_
          refine ax_nil ?_
          refine cx_keep rfl rfl ?_
          refine cx_ret (ret0 rfl rfl ?_)
          exact ⟨congrArg AM.bool (eqb_f (fun h => by subst h; rw [eqb_rfl] at h4; cases h4)).symm, rfl⟩
        · have h4 := bF h4
          refine cx_skip ?_
          refine cx_keep rfl rfl ?_
          refine cx_ops ?_
          refine ax_q (q_mov rfl) ?_
          refine ax_qe (r' := int ((k + 1 : Nat) : Int)) (q_ibin rfl rfl rfl) (by rw [wi (by omega) (by omega)]; rfl) ?_
          refine ax_q (q_mov rfl) ?_
          refine ax_nil ?_
          exact ⟨_, k + 1, by omega, ⟨by omega, rfl, eqbL_step hxx hxy ht h4⟩, by repeat (first | exact trivial | refine ⟨rfl, ?_⟩ | refine ⟨?_, ?_⟩)⟩
      · have h3 := dF h3
        have hW : a.Waits = b.Waits := eq_of_take hl1 (by rwa [show k = a.Waits.length from by omega] at ht)
        refine cx_exit rfl ?_
        refine cx_keep rfl rfl ?_
        refine cx_seq ?_
        refine cx_ops ?_
        refine ax_q (q_mov rfl) ?_
        refine ax_nil ?_
        refine cx_keep rfl rfl ?_
        refine cx_ret (ret0 rfl rfl ?_)
        exact ⟨congrArg AM.bool (eqb_t (GLocks.ext1 hH hW)).symm, rfl⟩

end Go.Proofs.Ytljbgclkdfeegaa
