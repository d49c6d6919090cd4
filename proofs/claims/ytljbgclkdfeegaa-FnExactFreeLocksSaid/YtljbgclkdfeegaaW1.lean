/- The walks: what each function computes, as a contract without a world (part 1). -/
import Derived.Test.YtljbgclkdfeegaaProg
import Derived.Test.YtljbgclkdfeegaaW0
namespace Go.Proofs.Ytljbgclkdfeegaa
open Go Go.AM
set_option maxRecDepth 10000
set_option linter.unusedVariables false
/- loop.example/g00332/laws.heldWaitS -/
def k_c_heldWaitS : XCode :=
  .seq (.ops [.op (some 4) (.mov (.k (.int .i64 0)))])
  (.keep [0, 1] (.seq (.seq (.ops [.op (some 5) (.mov (.k (.int .i64 0)))])
   (.keep [0, 1, 5] (.block 0 (.loop (.seq (.seq (.ops [.op (some 6) (.mov (.t 5)),
         .op (some 7) (.mov (.t 0)),
         .op (some 8) (.lenS (.t 7)),
         .op (some 9) (.bin .lss (.t 6) (.t 8))])
      (.keep [0, 1, 5, 9] (.cond (.t 9)
       (.skip)
       (.exit 0))))
     (.keep [0, 1, 5] (.seq (.block 1 (.seq (.seq (.ops [.op (some 12) (.mov (.t 0)),
           .op (some 13) (.mov (.t 5)),
           .op (some 14) (.iadr 2 (.t 12) (.t 13)),
           .op (some 15) (.fadr (.t 14) 0),
           .op (some 16) (.load1 (.t 15)),
           .op (some 17) (.mov (.t 1)),
           .op (some 18) (.bin .neq (.t 16) (.t 17))])
        (.keep [0, 1, 5, 18] (.cond (.t 18)
         (.seq (.ops [.op (some 4) (.mov (.k (.int .i64 (-1))))])
          (.keep [4] (.ret)))
         (.skip))))
       (.keep [0, 1, 5] (.seq (.ops [.op (some 19) (.mov (.t 1)),
          .op (some 20) (.bin .add (.t 19) (.k (.int .i64 1))),
          .op (some 1) (.mov (.t 20))])
       (.keep [0, 1, 5] (.seq (.seq (.ops [.op (some 21) (.mov (.t 0)),
           .op (some 22) (.mov (.t 5)),
           .op (some 23) (.iadr 2 (.t 21) (.t 22)),
           .op (some 24) (.fadr (.t 23) 1),
           .op (some 25) (.load1 (.t 24)),
           .op (some 26) (.mov (.t 1)),
           .op (some 27) (.bin .neq (.t 25) (.t 26))])
        (.keep [0, 1, 5, 27] (.cond (.t 27)
         (.seq (.ops [.op (some 4) (.mov (.k (.int .i64 (-1))))])
          (.keep [4] (.ret)))
         (.skip))))
       (.keep [0, 1, 5] (.ops [.op (some 28) (.mov (.t 1)),
         .op (some 29) (.bin .add (.t 28) (.k (.int .i64 1))),
         .op (some 1) (.mov (.t 29))]))))))))
     (.keep [0, 1, 5] (.ops [.op (some 10) (.mov (.t 5)),
       .op (some 11) (.bin .add (.t 10) (.k (.int .i64 1))),
       .op (some 5) (.mov (.t 11))])))))))))
  (.keep [1] (.seq (.ops [.op (some 30) (.mov (.t 1)),
     .op (some 4) (.mov (.t 30))])
  (.keep [4] (.ret))))))
theorem k_c_heldWaitS_fits : fitsF Try.prog 47 ⟨31, k_c_heldWaitS, [.t 4]⟩ = true := by kernel_rfl
theorem c_heldWaitS {xs : List GWait} {k0 : Nat} (hw : k0 + 2 * xs.length ≤ 1000000000000000000) : Con Try.prog noMv 47 [.d (.sl 2 ((markL GWait.mk1 2 k0 xs).map GWait.row)), int k0] [] (fun r h => r = int ((k0 + 2 * xs.length : Nat) : Int) ∧ h = []) := by
  refine con_of2 k_c_heldWaitS_fits rfl fun C hP hmv => ?_
  unfold k_c_heldWaitS
  refine cx_seq ?_
  refine cx_ops ?_
  refine ax_q (q_mov rfl) ?_
  refine ax_nil ?_
  refine cx_keep rfl rfl ?_
  refine cx_seq ?_
  refine cx_seq ?_
  refine cx_ops ?_
  refine ax_q (q_mov rfl) ?_
  refine ax_nil ?_
  refine cx_keep rfl rfl ?_
  refine cx_block ?_
  refine cx_loopU (fun m k => k ≤ xs.length ∧ m = xs.length - k) (fun k : Nat => [(1, int ((k0 + 2 * k : Nat) : Int)), (5, int k)]) (fun k => []) ⟨_, 0, ⟨Nat.zero_le _, rfl⟩, by repeat (first | exact trivial | refine ⟨rfl, ?_⟩ | refine ⟨?_, ?_⟩)⟩ ?_
  rintro m k ⟨hk, rfl⟩
  refine cx_seq ?_
  refine cx_seq ?_
  refine cx_ops ?_
  refine ax_q (q_mov rfl) ?_
  refine ax_q (q_mov rfl) ?_
  first | refine ax_q (q_lenS_map rfl) ?_ | refine ax_q (q_lenS_osl rfl) ?_ | refine ax_q (q_lenS_zs rfl) ?_ | refine ax_q (q_lenS rfl) ?_
  refine ax_q (q_ibin rfl rfl rfl) ?_
  refine ax_nil ?_
  refine cx_keep rfl rfl ?_
  refine cx_cond rfl (fun h0 => ?_) (fun h0 => ?_)
  · have h0 := dT h0; rw [markL_len] at h0; have h1x : k < xs.length := by omega
    refine cx_skip ?_
    refine cx_keep rfl rfl ?_
    refine cx_seq ?_
    refine cx_block ?_
    refine cx_seq ?_
    refine cx_seq ?_
    refine cx_ops ?_
    refine ax_q (q_mov rfl) ?_
    refine ax_q (q_mov rfl) ?_
    refine ax_q (q_ix rfl rfl (heldAt h1x)) ?_
    first | refine ax_q (q_fadr_ptr rfl) ?_ | refine ax_q (q_fadr_rptr rfl) ?_ | refine ax_q (q_fadr_ip rfl) ?_
    first | refine ax_q (q_load1_ptr rfl rfl rfl) ?_ | refine ax_q (q_load1_ip rfl) ?_ | refine ax_q (q_load1_rptr rfl rfl (by assumption) rfl) ?_ | refine ax_q (q_load1_rptr rfl rfl (mapAt (by first | assumption | omega)) rfl) ?_
    refine ax_q (q_mov rfl) ?_
    refine ax_q (q_ibin rfl rfl rfl) ?_
    refine ax_nil ?_
    refine cx_keep rfl rfl ?_
    refine cx_cond rfl (fun h1 => ?_) (fun h1 => ?_)
    · have h1 := nT h1
      exact absurd rfl h1
    · have h1 := nF h1
      refine cx_skip ?_
      refine cx_keep rfl rfl ?_
      refine cx_seq ?_
      refine cx_ops ?_
      refine ax_q (q_mov rfl) ?_
      refine ax_qe (r' := int ((k0 + 2 * k + 1 : Nat) : Int)) (q_ibin rfl rfl rfl) (by rw [wi (by omega) (by omega)]; rfl) ?_
      refine ax_q (q_mov rfl) ?_
      refine ax_nil ?_
      refine cx_keep rfl rfl ?_
      refine cx_seq ?_
      refine cx_seq ?_
      refine cx_ops ?_
      refine ax_q (q_mov rfl) ?_
      refine ax_q (q_mov rfl) ?_
      refine ax_q (q_ix rfl rfl (heldAt h1x)) ?_
      first | refine ax_q (q_fadr_ptr rfl) ?_ | refine ax_q (q_fadr_rptr rfl) ?_ | refine ax_q (q_fadr_ip rfl) ?_
      first | refine ax_q (q_load1_ptr rfl rfl rfl) ?_ | refine ax_q (q_load1_ip rfl) ?_ | refine ax_q (q_load1_rptr rfl rfl (by assumption) rfl) ?_ | refine ax_q (q_load1_rptr rfl rfl (mapAt (by first | assumption | omega)) rfl) ?_
      refine ax_q (q_mov rfl) ?_
      refine ax_q (q_ibin rfl rfl rfl) ?_
      refine ax_nil ?_
      refine cx_keep rfl rfl ?_
      refine cx_cond rfl (fun h2 => ?_) (fun h2 => ?_)
      · have h2 := nT h2
        exact absurd rfl h2
      · have h2 := nF h2
        refine cx_skip ?_
        refine cx_keep rfl rfl ?_
        refine cx_ops ?_
        refine ax_q (q_mov rfl) ?_
        refine ax_qe (r' := int ((k0 + 2 * k + 2 : Nat) : Int)) (q_ibin rfl rfl rfl) (by rw [wi (by omega) (by omega)]; rfl) ?_
        refine ax_q (q_mov rfl) ?_
        refine ax_nil ?_
        refine cx_keep rfl rfl ?_
        refine cx_ops ?_
        refine ax_q (q_mov rfl) ?_
        refine ax_qe (r' := int ((k + 1 : Nat) : Int)) (q_ibin rfl rfl rfl) (by rw [wi (by omega) (by omega)]; rfl) ?_
        refine ax_q (q_mov rfl) ?_
        refine ax_nil ?_
        exact ⟨_, k + 1, by omega, ⟨by omega, rfl⟩, by repeat (first | exact trivial | refine ⟨rfl, ?_⟩ | refine ⟨?_, ?_⟩)⟩
  · have h0 := dF h0; rw [markL_len] at h0; have h1x : k = xs.length := by omega
    refine cx_exit rfl ?_
    refine cx_keep rfl rfl ?_
    refine cx_seq ?_
    refine cx_ops ?_
    refine ax_q (q_mov rfl) ?_
    refine ax_q (q_mov rfl) ?_
    refine ax_nil ?_
    refine cx_keep rfl rfl ?_
    refine cx_ret (ret0 rfl rfl ?_)
    exact ⟨by rw [h1x]; rfl, rfl⟩


/- loop.example/g00332/laws.heldLocks -/
def k_c_heldLocks : XCode :=
  .seq (.ops [.op (some 2) (.box (.t 0)),
     .op (some 4) (.mov (.k (.int .i64 0)))])
  (.keep [1, 2] (.seq (.ops [.op (some 5) (.fadr (.t 2) 0),
     .op (some 6) (.load1 (.t 5)),
     .op (some 7) (.mov (.t 1)),
     .call (some 8) 46 [.t 6, .t 7],
     .op (some 1) (.mov (.t 8))])
  (.keep [1, 2] (.seq (.seq (.ops [.op (some 9) (.mov (.t 1)),
      .op (some 10) (.bin .lss (.t 9) (.k (.int .i64 0)))])
   (.keep [1, 2, 10] (.cond (.t 10)
    (.seq (.ops [.op (some 4) (.mov (.k (.int .i64 (-1))))])
     (.keep [4] (.ret)))
    (.skip))))
  (.keep [1, 2] (.seq (.ops [.op (some 11) (.fadr (.t 2) 1),
     .op (some 12) (.load1 (.t 11)),
     .op (some 13) (.mov (.t 1)),
     .call (some 14) 47 [.t 12, .t 13],
     .op (some 1) (.mov (.t 14))])
  (.keep [1] (.seq (.seq (.ops [.op (some 15) (.mov (.t 1)),
      .op (some 16) (.bin .lss (.t 15) (.k (.int .i64 0)))])
   (.keep [1, 16] (.cond (.t 16)
    (.seq (.ops [.op (some 4) (.mov (.k (.int .i64 (-1))))])
     (.keep [4] (.ret)))
    (.skip))))
  (.keep [1] (.seq (.ops [.op (some 17) (.mov (.t 1)),
     .op (some 4) (.mov (.t 17))])
  (.keep [4] (.ret))))))))))))
theorem k_c_heldLocks_fits : fitsF Try.prog 18 ⟨18, k_c_heldLocks, [.t 4]⟩ = true := by kernel_rfl
theorem c_heldLocks {a : GLocks} {k0 : Nat} (hw : GLocks.mkN k0 a ≤ 1000000000000000000) : Con Try.prog noMv 18 [(GLocks.mkS k0 a).av, int k0] [] (fun r h => r = int ((GLocks.mkN k0 a : Nat) : Int) ∧ h = []) := by
  refine con_of2 k_c_heldLocks_fits rfl fun C hP hmv => ?_
  unfold k_c_heldLocks
  refine cx_seq ?_
  refine cx_ops ?_
  refine ax_e (e_box rfl rfl (by decide) rfl rfl rfl) ?_
  refine ax_q (q_mov rfl) ?_
  refine ax_nil ?_
  refine cx_keep rfl rfl ?_
  refine cx_seq ?_
  refine cx_ops ?_
  first | refine ax_q (q_fadr_ptr rfl) ?_ | refine ax_q (q_fadr_rptr rfl) ?_ | refine ax_q (q_fadr_ip rfl) ?_
  first | refine ax_q (q_load1_ptr rfl rfl rfl) ?_ | refine ax_q (q_load1_ip rfl) ?_ | refine ax_q (q_load1_rptr rfl rfl (by assumption) rfl) ?_ | refine ax_q (q_load1_rptr rfl rfl (mapAt (by first | assumption | omega)) rfl) ?_
  refine ax_q (q_mov rfl) ?_
  refine ax_call rfl (vc_pure0 (c_heldLockS (xs := a.Held) (k0 := k0) (by unfold GLocks.mkN at hw; omega)) hP rfl rfl ?_)
  refine ax_q (q_mov rfl) ?_
  refine ax_nil ?_
  refine cx_keep rfl rfl ?_
  refine cx_seq ?_
  refine cx_seq ?_
  refine cx_ops ?_
  refine ax_q (q_mov rfl) ?_
  refine ax_q (q_ibin rfl rfl rfl) ?_
  refine ax_nil ?_
  refine cx_keep rfl rfl ?_
  refine cx_cond rfl (fun h0 => ?_) (fun h0 => ?_)
  · have h0 := dT h0
    exact absurd h0 (by omega)
  · have h0 := dF h0
    refine cx_skip ?_
    refine cx_keep rfl rfl ?_
    refine cx_seq ?_
    refine cx_ops ?_
    first | refine ax_q (q_fadr_ptr rfl) ?_ | refine ax_q (q_fadr_rptr rfl) ?_ | refine ax_q (q_fadr_ip rfl) ?_
    first | refine ax_q (q_load1_ptr rfl rfl rfl) ?_ | refine ax_q (q_load1_ip rfl) ?_ | refine ax_q (q_load1_rptr rfl rfl (by assumption) rfl) ?_ | refine ax_q (q_load1_rptr rfl rfl (mapAt (by first | assumption | omega)) rfl) ?_
    refine ax_q (q_mov rfl) ?_
    refine ax_call rfl (vc_pure0 (c_heldWaitS (xs := a.Waits) (k0 := k0 + 4 * a.Held.length) (by unfold GLocks.mkN at hw; omega)) hP rfl rfl ?_)
    refine ax_q (q_mov rfl) ?_
    refine ax_nil ?_
    refine cx_keep rfl rfl ?_
    refine cx_seq ?_
    refine cx_seq ?_
    refine cx_ops ?_
    refine ax_q (q_mov rfl) ?_
    refine ax_q (q_ibin rfl rfl rfl) ?_
    refine ax_nil ?_
    refine cx_keep rfl rfl ?_
    refine cx_cond rfl (fun h1 => ?_) (fun h1 => ?_)
    · have h1 := dT h1
      exact absurd h1 (by omega)
    · have h1 := dF h1
      refine cx_skip ?_
      refine cx_keep rfl rfl ?_
      refine cx_seq ?_
      refine cx_ops ?_
      refine ax_q (q_mov rfl) ?_
      refine ax_q (q_mov rfl) ?_
      refine ax_nil ?_
      refine cx_keep rfl rfl ?_
      refine cx_ret (ret0 rfl rfl ?_)
      exact ⟨rfl, rfl⟩

end Go.Proofs.Ytljbgclkdfeegaa
