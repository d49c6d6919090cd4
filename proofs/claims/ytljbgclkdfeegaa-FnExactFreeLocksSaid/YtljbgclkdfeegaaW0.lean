/- The walks: what each function computes, as a contract without a world (part 0). -/
import Derived.Test.YtljbgclkdfeegaaProg
import Derived.Test.YtljbgclkdfeegaaD
namespace Go.Proofs.Ytljbgclkdfeegaa
open Go Go.AM
set_option maxRecDepth 10000
set_option linter.unusedVariables false
/- loop.example/g00332/impl.inRange -/
def k_c_inRange : XCode :=
  .seq (.ops [.op (some 6) (.mov (.k (.bool false)))])
  (.keep [0, 1, 2] (.seq (.ops [.op (some 7) (.mov (.t 1)),
     .op (some 8) (.mov (.t 0)),
     .op (some 9) (.bin .leq (.t 7) (.t 8)),
     .op (some 10) (.mov (.t 9)),
     .andor 14 true 3 10 [.op (some 11) (.mov (.t 0)), .op (some 12) (.mov (.t 2)), .op (some 13) (.bin .leq (.t 11) (.t 12))] (.t 13),
     .op (some 6) (.mov (.t 14))])
  (.keep [6] (.ret))))
theorem k_c_inRange_fits : fitsF Try.prog 65 ⟨15, k_c_inRange, [.t 6]⟩ = true := by kernel_rfl
theorem c_inRange {n lo hi : Int} : Con Try.prog noMv 65 [int n, int lo, int hi] [] (fun r h => r = bool (inR n lo hi) ∧ h = []) := by
  refine con_of2 k_c_inRange_fits rfl fun C hP hmv => ?_
  unfold k_c_inRange
  refine cx_seq ?_
  refine cx_ops ?_
  refine ax_q (q_mov rfl) ?_
  refine ax_nil ?_
  refine cx_keep rfl rfl ?_
  refine cx_seq ?_
  refine cx_ops ?_
  refine ax_q (q_mov rfl) ?_
  refine ax_q (q_mov rfl) ?_
  refine ax_q (q_ibin rfl rfl rfl) ?_
  refine ax_q (q_mov rfl) ?_
  apply ax_and rfl rfl
  · intro g
    have g := dT g
    refine ax_q (q_mov rfl) ?_
    refine ax_q (q_mov rfl) ?_
    refine ax_q (q_ibin rfl rfl rfl) ?_
    exact ax_nil ⟨rfl, by repeat (first | exact trivial | refine ⟨rfl, ?_⟩ | refine ⟨?_, ?_⟩)⟩
  refine ax_q (q_mov rfl) ?_
  refine ax_nil ?_
  refine cx_keep rfl rfl ?_
  refine cx_ret (ret0 rfl rfl ?_)
  exact ⟨rfl, rfl⟩


/- loop.example/g00332/impl.isTx -/
def k_c_isTx : XCode :=
  .seq (.ops [.op (some 2) (.mov (.k (.bool false)))])
  (.keep [0] (.seq (.ops [.op (some 3) (.mov (.t 0)),
     .call (some 4) 65 [.t 3, .k (.int .i64 1), .k (.int .i64 60)],
     .op (some 2) (.mov (.t 4))])
  (.keep [2] (.ret))))
theorem k_c_isTx_fits : fitsF Try.prog 29 ⟨5, k_c_isTx, [.t 2]⟩ = true := by kernel_rfl
theorem c_isTx {n : Int} : Con Try.prog noMv 29 [int n] [] (fun r h => r = bool (isTx n) ∧ h = []) := by
  refine con_of2 k_c_isTx_fits rfl fun C hP hmv => ?_
  unfold k_c_isTx
  refine cx_seq ?_
  refine cx_ops ?_
  refine ax_q (q_mov rfl) ?_
  refine ax_nil ?_
  refine cx_keep rfl rfl ?_
  refine cx_seq ?_
  refine cx_ops ?_
  refine ax_q (q_mov rfl) ?_
  first | refine ax_call rfl (vc_pure0 (c_inRange  ) hP rfl rfl ?_) | refine ax_call rfl (vc_lend0 (c_inRange  ) hP (by repeat (first | exact lal_id _ rfl | exact LAL.nil | refine LAL.cons ?_ ?_ | exact la_id _ rfl | exact LA.lend (lend_whole rfl (by simp)) | refine LA.agg ?_ | refine LA.fn ?_ | refine LA.lend ?_ | exact Lend.d _ | exact Lend.zs _ | exact lend_whole rfl (by simp) | refine Lend.ptr rfl ?_ | refine Lend.fn ?_ | exact LendL.nil | refine LendL.cons ?_ ?_)) rfl rfl ?_)
  refine ax_q (q_mov rfl) ?_
  refine ax_nil ?_
  refine cx_keep rfl rfl ?_
  refine cx_ret (ret0 rfl rfl ?_)
  exact ⟨rfl, rfl⟩


/- loop.example/g00332/impl.isMode -/
def k_c_isMode : XCode :=
  .seq (.ops [.op (some 2) (.mov (.k (.bool false)))])
  (.keep [0] (.seq (.ops [.op (some 3) (.mov (.t 0)),
     .call (some 4) 65 [.t 3, .k (.int .i64 1), .k (.int .i64 4)],
     .op (some 2) (.mov (.t 4))])
  (.keep [2] (.ret))))
theorem k_c_isMode_fits : fitsF Try.prog 60 ⟨5, k_c_isMode, [.t 2]⟩ = true := by kernel_rfl
theorem c_isMode {n : Int} : Con Try.prog noMv 60 [int n] [] (fun r h => r = bool (isMode n) ∧ h = []) := by
  refine con_of2 k_c_isMode_fits rfl fun C hP hmv => ?_
  unfold k_c_isMode
  refine cx_seq ?_
  refine cx_ops ?_
  refine ax_q (q_mov rfl) ?_
  refine ax_nil ?_
  refine cx_keep rfl rfl ?_
  refine cx_seq ?_
  refine cx_ops ?_
  refine ax_q (q_mov rfl) ?_
  first | refine ax_call rfl (vc_pure0 (c_inRange  ) hP rfl rfl ?_) | refine ax_call rfl (vc_lend0 (c_inRange  ) hP (by repeat (first | exact lal_id _ rfl | exact LAL.nil | refine LAL.cons ?_ ?_ | exact la_id _ rfl | exact LA.lend (lend_whole rfl (by simp)) | refine LA.agg ?_ | refine LA.fn ?_ | refine LA.lend ?_ | exact Lend.d _ | exact Lend.zs _ | exact lend_whole rfl (by simp) | refine Lend.ptr rfl ?_ | refine Lend.fn ?_ | exact LendL.nil | refine LendL.cons ?_ ?_)) rfl rfl ?_)
  refine ax_q (q_mov rfl) ?_
  refine ax_nil ?_
  refine cx_keep rfl rfl ?_
  refine cx_ret (ret0 rfl rfl ?_)
  exact ⟨rfl, rfl⟩


/- loop.example/g00332/impl.lockOK -/
def k_c_lockOK : XCode :=
  .seq (.ops [.op (some 1) (.box (.t 0)),
     .op (some 2) (.mov (.k (.bool false)))])
  (.keep [1] (.seq (.ops [.op (some 3) (.fadr (.t 1) 0),
     .op (some 4) (.load1 (.t 3)),
     .call (some 5) 29 [.t 4],
     .op (some 6) (.mov (.t 5)),
     .andor 10 true 3 6 [.op (some 7) (.fadr (.t 1) 1), .op (some 8) (.load1 (.t 7)), .call (some 9) 65 [.t 8, .k (.int .i64 1), .k (.int .i64 3)]] (.t 9),
     .op (some 11) (.mov (.t 10)),
     .andor 15 true 8 11 [.op (some 12) (.fadr (.t 1) 2), .op (some 13) (.load1 (.t 12)), .call (some 14) 65 [.t 13, .k (.int .i64 (-1)), .k (.int .i64 1000)]] (.t 14),
     .op (some 16) (.mov (.t 15)),
     .andor 20 true 13 16 [.op (some 17) (.fadr (.t 1) 3), .op (some 18) (.load1 (.t 17)), .call (some 19) 60 [.t 18]] (.t 19),
     .op (some 21) (.mov (.t 20)),
     .andor 30 true 18 21 [.op (some 22) (.fadr (.t 1) 2), .op (some 23) (.load1 (.t 22)), .op (some 24) (.bin .lss (.t 23) (.k (.int .i64 0))), .op (some 25) (.mov (.t 24)), .andor 29 false 22 25 [.op (some 26) (.fadr (.t 1) 3), .op (some 27) (.load1 (.t 26)), .op (some 28) (.bin .geq (.t 27) (.k (.int .i64 3)))] (.t 28)] (.t 29),
     .op (some 2) (.mov (.t 30))])
  (.keep [2] (.ret))))
theorem k_c_lockOK_fits : fitsF Try.prog 48 ⟨31, k_c_lockOK, [.t 2]⟩ = true := by kernel_rfl
theorem c_lockOK {a : GLock} : Con Try.prog noMv 48 [a.av] [] (fun r h => r = bool (lockOK a) ∧ h = []) := by
  refine con_of2 k_c_lockOK_fits rfl fun C hP hmv => ?_
  unfold k_c_lockOK
  refine cx_seq ?_
  refine cx_ops ?_
  refine ax_e (e_box rfl rfl (by decide) rfl rfl rfl) ?_
  refine ax_q (q_mov rfl) ?_
  refine ax_nil ?_
  refine cx_keep rfl rfl ?_
  refine cx_seq ?_
  refine cx_ops ?_
  first | refine ax_q (q_fadr_ptr rfl) ?_ | refine ax_q (q_fadr_rptr rfl) ?_ | refine ax_q (q_fadr_ip rfl) ?_
  first | refine ax_q (q_load1_ptr rfl rfl rfl) ?_ | refine ax_q (q_load1_ip rfl) ?_ | refine ax_q (q_load1_rptr rfl rfl (by assumption) rfl) ?_ | refine ax_q (q_load1_rptr rfl rfl (mapAt (by first | assumption | omega)) rfl) ?_
  first | refine ax_call rfl (vc_pure0 (c_isTx  ) hP rfl rfl ?_) | refine ax_call rfl (vc_lend0 (c_isTx  ) hP (by repeat (first | exact lal_id _ rfl | exact LAL.nil | refine LAL.cons ?_ ?_ | exact la_id _ rfl | exact LA.lend (lend_whole rfl (by simp)) | refine LA.agg ?_ | refine LA.fn ?_ | refine LA.lend ?_ | exact Lend.d _ | exact Lend.zs _ | exact lend_whole rfl (by simp) | refine Lend.ptr rfl ?_ | refine Lend.fn ?_ | exact LendL.nil | refine LendL.cons ?_ ?_)) rfl rfl ?_)
  refine ax_q (q_mov rfl) ?_
  apply ax_and rfl rfl
  · intro g
    first | refine ax_q (q_fadr_ptr rfl) ?_ | refine ax_q (q_fadr_rptr rfl) ?_ | refine ax_q (q_fadr_ip rfl) ?_
    first | refine ax_q (q_load1_ptr rfl rfl rfl) ?_ | refine ax_q (q_load1_ip rfl) ?_ | refine ax_q (q_load1_rptr rfl rfl (by assumption) rfl) ?_ | refine ax_q (q_load1_rptr rfl rfl (mapAt (by first | assumption | omega)) rfl) ?_
    first | refine ax_call rfl (vc_pure0 (c_inRange  ) hP rfl rfl ?_) | refine ax_call rfl (vc_lend0 (c_inRange  ) hP (by repeat (first | exact lal_id _ rfl | exact LAL.nil | refine LAL.cons ?_ ?_ | exact la_id _ rfl | exact LA.lend (lend_whole rfl (by simp)) | refine LA.agg ?_ | refine LA.fn ?_ | refine LA.lend ?_ | exact Lend.d _ | exact Lend.zs _ | exact lend_whole rfl (by simp) | refine Lend.ptr rfl ?_ | refine Lend.fn ?_ | exact LendL.nil | refine LendL.cons ?_ ?_)) rfl rfl ?_)
    exact ax_nil ⟨rfl, by repeat (first | exact trivial | refine ⟨rfl, ?_⟩ | refine ⟨?_, ?_⟩)⟩
  refine ax_q (q_mov rfl) ?_
  apply ax_and rfl rfl
  · intro g
    have g := (fun h => And.intro (id (and_T h).1) (id (and_T h).2)) g
    first | refine ax_q (q_fadr_ptr rfl) ?_ | refine ax_q (q_fadr_rptr rfl) ?_ | refine ax_q (q_fadr_ip rfl) ?_
    first | refine ax_q (q_load1_ptr rfl rfl rfl) ?_ | refine ax_q (q_load1_ip rfl) ?_ | refine ax_q (q_load1_rptr rfl rfl (by assumption) rfl) ?_ | refine ax_q (q_load1_rptr rfl rfl (mapAt (by first | assumption | omega)) rfl) ?_
    first | refine ax_call rfl (vc_pure0 (c_inRange  ) hP rfl rfl ?_) | refine ax_call rfl (vc_lend0 (c_inRange  ) hP (by repeat (first | exact lal_id _ rfl | exact LAL.nil | refine LAL.cons ?_ ?_ | exact la_id _ rfl | exact LA.lend (lend_whole rfl (by simp)) | refine LA.agg ?_ | refine LA.fn ?_ | refine LA.lend ?_ | exact Lend.d _ | exact Lend.zs _ | exact lend_whole rfl (by simp) | refine Lend.ptr rfl ?_ | refine Lend.fn ?_ | exact LendL.nil | refine LendL.cons ?_ ?_)) rfl rfl ?_)
    exact ax_nil ⟨rfl, by repeat (first | exact trivial | refine ⟨rfl, ?_⟩ | refine ⟨?_, ?_⟩)⟩
  refine ax_q (q_mov rfl) ?_
  apply ax_and rfl rfl
  · intro g
    have g := (fun h => And.intro ((fun h => And.intro (id (and_T h).1) (id (and_T h).2)) (and_T h).1) (id (and_T h).2)) g
    first | refine ax_q (q_fadr_ptr rfl) ?_ | refine ax_q (q_fadr_rptr rfl) ?_ | refine ax_q (q_fadr_ip rfl) ?_
    first | refine ax_q (q_load1_ptr rfl rfl rfl) ?_ | refine ax_q (q_load1_ip rfl) ?_ | refine ax_q (q_load1_rptr rfl rfl (by assumption) rfl) ?_ | refine ax_q (q_load1_rptr rfl rfl (mapAt (by first | assumption | omega)) rfl) ?_
    first | refine ax_call rfl (vc_pure0 (c_isMode  ) hP rfl rfl ?_) | refine ax_call rfl (vc_lend0 (c_isMode  ) hP (by repeat (first | exact lal_id _ rfl | exact LAL.nil | refine LAL.cons ?_ ?_ | exact la_id _ rfl | exact LA.lend (lend_whole rfl (by simp)) | refine LA.agg ?_ | refine LA.fn ?_ | refine LA.lend ?_ | exact Lend.d _ | exact Lend.zs _ | exact lend_whole rfl (by simp) | refine Lend.ptr rfl ?_ | refine Lend.fn ?_ | exact LendL.nil | refine LendL.cons ?_ ?_)) rfl rfl ?_)
    exact ax_nil ⟨rfl, by repeat (first | exact trivial | refine ⟨rfl, ?_⟩ | refine ⟨?_, ?_⟩)⟩
  refine ax_q (q_mov rfl) ?_
  apply ax_and rfl rfl
  · intro g
    have g := (fun h => And.intro ((fun h => And.intro ((fun h => And.intro (id (and_T h).1) (id (and_T h).2)) (and_T h).1) (id (and_T h).2)) (and_T h).1) (id (and_T h).2)) g
    first | refine ax_q (q_fadr_ptr rfl) ?_ | refine ax_q (q_fadr_rptr rfl) ?_ | refine ax_q (q_fadr_ip rfl) ?_
    first | refine ax_q (q_load1_ptr rfl rfl rfl) ?_ | refine ax_q (q_load1_ip rfl) ?_ | refine ax_q (q_load1_rptr rfl rfl (by assumption) rfl) ?_ | refine ax_q (q_load1_rptr rfl rfl (mapAt (by first | assumption | omega)) rfl) ?_
    refine ax_q (q_ibin rfl rfl rfl) ?_
    refine ax_q (q_mov rfl) ?_
    apply ax_or rfl rfl
    · intro g
      have g := dF g
      first | refine ax_q (q_fadr_ptr rfl) ?_ | refine ax_q (q_fadr_rptr rfl) ?_ | refine ax_q (q_fadr_ip rfl) ?_
      first | refine ax_q (q_load1_ptr rfl rfl rfl) ?_ | refine ax_q (q_load1_ip rfl) ?_ | refine ax_q (q_load1_rptr rfl rfl (by assumption) rfl) ?_ | refine ax_q (q_load1_rptr rfl rfl (mapAt (by first | assumption | omega)) rfl) ?_
      refine ax_q (q_ibin rfl rfl rfl) ?_
      exact ax_nil ⟨rfl, by repeat (first | exact trivial | refine ⟨rfl, ?_⟩ | refine ⟨?_, ?_⟩)⟩
    exact ax_nil ⟨rfl, by repeat (first | exact trivial | refine ⟨rfl, ?_⟩ | refine ⟨?_, ?_⟩)⟩
  refine ax_q (q_mov rfl) ?_
  refine ax_nil ?_
  refine cx_keep rfl rfl ?_
  refine cx_ret (ret0 rfl rfl ?_)
  exact ⟨rfl, rfl⟩


/- slices.IndexFunc[[]loop.example/g00332/impl.Lock,loop.example/g00332/impl.Lock] -/
def k_c_IndexFunc_Lock : XCode :=
  .seq (.ops [.op (some 4) (.mov (.k (.int .i64 0)))])
  (.keep [0, 1] (.seq (.seq (.ops [.op (some 6) (.mov (.t 0)),
      .op (some 7) (.lenS (.t 6)),
      .op (some 8) (.mov (.k (.int .i64 0)))])
   (.keep [0, 1, 7, 8] (.block 0 (.loop (.seq (.ops [.op (some 9) (.bin .lss (.t 8) (.t 7))])
     (.keep [0, 1, 7, 8, 9] (.seq (.cond (.t 9)
       (.skip)
       (.exit 0))
     (.keep [0, 1, 7, 8] (.seq (.block 1 (.seq (.ops [.op (some 10) (.mov (.t 8)),
          .op (some 5) (.mov (.t 10))])
       (.keep [0, 1, 5, 7, 8] (.seq (.ops [.op (some 11) (.mov (.t 1)),
          .op (some 12) (.mov (.t 0)),
          .op (some 13) (.mov (.t 5)),
          .op (some 14) (.iadr 4 (.t 12) (.t 13)),
          .op (some 15) (.loadN 4 (.t 14)),
          .callv (some 16) (.t 11) [.t 15]])
       (.keep [0, 1, 5, 7, 8, 16] (.cond (.t 16)
        (.seq (.ops [.op (some 17) (.mov (.t 5)),
            .op (some 4) (.mov (.t 17))])
         (.keep [4] (.ret)))
        (.skip)))))))
     (.keep [0, 1, 7, 8] (.ops [.op (some 18) (.bin .add (.t 8) (.k (.int .i64 1))),
       .op (some 8) (.mov (.t 18))])))))))))))
  (.keep [] (.seq (.ops [.op (some 4) (.mov (.k (.int .i64 (-1))))])
  (.keep [4] (.ret))))))
theorem k_c_IndexFunc_Lock_fits : fitsF Try.prog 71 ⟨19, k_c_IndexFunc_Lock, [.t 4]⟩ = true := by kernel_rfl
theorem c_IndexFunc_Lock {xs : List GLock} {f : Nat} {ds : List D} (p : GLock → Bool) (hw : xs.length ≤ 9223372036854775807) (hb : hasBody Try.prog f = true) (hf : ∀ s ∈ xs, Con Try.prog noMv f (s.av :: ds.map AV.d) [] (fun r h => r = bool (p s) ∧ h = [])) : Con Try.prog noMv 71 [.d (.sl 4 (xs.map GLock.row)), .d (.fn (.func f) ds)] [] (fun r h => r = int (idxOf p xs 0) ∧ h = []) := by
  refine con_of2 k_c_IndexFunc_Lock_fits rfl fun C hP hmv => ?_
  unfold k_c_IndexFunc_Lock
  refine cx_seq ?_
  refine cx_ops ?_
  refine ax_q (q_mov rfl) ?_
  refine ax_nil ?_
  refine cx_keep rfl rfl ?_
  refine cx_seq ?_
  refine cx_seq ?_
  refine cx_ops ?_
  refine ax_q (q_mov rfl) ?_
  first | refine ax_q (q_lenS_map rfl) ?_ | refine ax_q (q_lenS_osl rfl) ?_ | refine ax_q (q_lenS_zs rfl) ?_ | refine ax_q (q_lenS rfl) ?_
  refine ax_q (q_mov rfl) ?_
  refine ax_nil ?_
  refine cx_keep rfl rfl ?_
  refine cx_block ?_
  refine cx_loopU (fun n k => k ≤ xs.length ∧ n = xs.length - k ∧ ∀ i, i < k → ∀ x, xs[i]? = some x → p x = false) (fun k : Nat => [(8, int k)]) (fun _ => []) ⟨_, 0, ⟨by omega, rfl, fun i hi => by omega⟩, by repeat (first | exact trivial | refine ⟨rfl, ?_⟩ | refine ⟨?_, ?_⟩)⟩ ?_
  rintro n k ⟨hk, rfl, ht⟩
  refine cx_seq ?_
  refine cx_ops ?_
  refine ax_q (q_ibin rfl rfl rfl) ?_
  refine ax_nil ?_
  refine cx_keep rfl rfl ?_
  refine cx_seq ?_
  refine cx_cond rfl (fun h0 => ?_) (fun h0 => ?_)
  · have h0 := dT h0
    have h0x : k < xs.length := by omega
    refine cx_skip ?_
    refine cx_keep rfl rfl ?_
    refine cx_seq ?_
    refine cx_block ?_
    refine cx_seq ?_
    refine cx_ops ?_
    refine ax_q (q_mov rfl) ?_
    refine ax_q (q_mov rfl) ?_
    refine ax_nil ?_
    refine cx_keep rfl rfl ?_
    refine cx_seq ?_
    refine cx_ops ?_
    refine ax_q (q_mov rfl) ?_
    refine ax_q (q_mov rfl) ?_
    refine ax_q (q_mov rfl) ?_
    refine ax_q (q_ix rfl rfl (mapAt h0x)) ?_
    first | refine ax_q (q_ldN rfl rfl rfl) ?_ | refine ax_q (q_loadN_ip rfl (Nat.le_refl _)) ?_ | refine ax_q (q_loadN_ip rfl (by decide)) ?_ | refine ax_q (q_loadN_rptr rfl rfl (by assumption) (by decide)) ?_ | refine ax_q (q_loadN_rptr rfl rfl (mapAt (by first | assumption | omega)) (by decide)) ?_
    refine ax_callvD rfl (by rw [hP]; exact hb) rfl (vc_pure0 (hf _ (List.getElem_mem h0x)) hP (refs_cons rfl ds) rfl ?_)
    refine ax_nil ?_
    refine cx_keep rfl rfl ?_
    refine cx_cond rfl (fun h1 => ?_) (fun h1 => ?_)
    · skip
      refine cx_seq ?_
      refine cx_ops ?_
      refine ax_q (q_mov rfl) ?_
      refine ax_q (q_mov rfl) ?_
      refine ax_nil ?_
      refine cx_keep rfl rfl ?_
      refine cx_ret (ret0 rfl rfl ?_)
      exact ⟨by rw [idxOf_hit h0x ht h1]; rfl, rfl⟩
    · skip
      refine cx_skip ?_
      refine cx_keep rfl rfl ?_
      refine cx_ops ?_
      refine ax_qe (r' := int ((k + 1 : Nat) : Int)) (q_ibin rfl rfl rfl) (by rw [wi (by omega) (by omega)]; rfl) ?_
      refine ax_q (q_mov rfl) ?_
      refine ax_nil ?_
      exact ⟨_, k + 1, by omega, ⟨by omega, rfl, before_step h0x ht h1⟩, by repeat (first | exact trivial | refine ⟨rfl, ?_⟩ | refine ⟨?_, ?_⟩)⟩
  · have h0 := dF h0
    have h0x : k = xs.length := by omega
    refine cx_exit rfl ?_
    refine cx_keep rfl rfl ?_
    refine cx_seq ?_
    refine cx_ops ?_
    refine ax_q (q_mov rfl) ?_
    refine ax_nil ?_
    refine cx_keep rfl rfl ?_
    refine cx_ret (ret0 rfl rfl ?_)
    exact ⟨by rw [idxOf_none (fun i hi => ht i (by omega))]; rfl, rfl⟩


/- slices.ContainsFunc[[]loop.example/g00332/impl.Lock,loop.example/g00332/impl.Lock] -/
def k_c_ContainsFunc_Lock : XCode :=
  .seq (.ops [.op (some 4) (.mov (.k (.bool false)))])
  (.keep [0, 1] (.seq (.ops [.op (some 5) (.mov (.t 0)),
     .op (some 6) (.mov (.t 1)),
     .call (some 7) 71 [.t 5, .t 6],
     .op (some 8) (.bin .geq (.t 7) (.k (.int .i64 0))),
     .op (some 4) (.mov (.t 8))])
  (.keep [4] (.ret))))
theorem k_c_ContainsFunc_Lock_fits : fitsF Try.prog 55 ⟨9, k_c_ContainsFunc_Lock, [.t 4]⟩ = true := by kernel_rfl
theorem c_ContainsFunc_Lock {xs : List GLock} {f : Nat} {ds : List D} (p : GLock → Bool) (hw : xs.length ≤ 9223372036854775807) (hb : hasBody Try.prog f = true) (hf : ∀ s ∈ xs, Con Try.prog noMv f (s.av :: ds.map AV.d) [] (fun r h => r = bool (p s) ∧ h = [])) : Con Try.prog noMv 55 [.d (.sl 4 (xs.map GLock.row)), .d (.fn (.func f) ds)] [] (fun r h => r = bool (xs.any p) ∧ h = []) := by
  refine con_of2 k_c_ContainsFunc_Lock_fits rfl fun C hP hmv => ?_
  unfold k_c_ContainsFunc_Lock
  refine cx_seq ?_
  refine cx_ops ?_
  refine ax_q (q_mov rfl) ?_
  refine ax_nil ?_
  refine cx_keep rfl rfl ?_
  refine cx_seq ?_
  refine cx_ops ?_
  refine ax_q (q_mov rfl) ?_
  refine ax_q (q_mov rfl) ?_
  refine ax_call rfl (vc_pure0 (c_IndexFunc_Lock p hw hb hf) hP rfl rfl ?_)
  refine ax_qe (r' := bool (xs.any p)) (q_ibin rfl rfl rfl) (congrArg AM.bool any_idxOf) ?_
  refine ax_q (q_mov rfl) ?_
  refine ax_nil ?_
  refine cx_keep rfl rfl ?_
  refine cx_ret (ret0 rfl rfl ?_)
  exact ⟨rfl, rfl⟩


/- loop.example/g00332/impl.modesFit -/
def k_c_modesFit : XCode :=
  .seq (.ops [.op (some 4) (.mov (.k (.bool false)))])
  (.keep [0, 1] (.seq (.ops [.op (some 5) (.mov (.t 0)),
     .op (some 6) (.bin .neq (.t 5) (.k (.int .i64 4))),
     .op (some 7) (.mov (.t 6)),
     .andor 10 true 2 7 [.op (some 8) (.mov (.t 1)), .op (some 9) (.bin .neq (.t 8) (.k (.int .i64 4)))] (.t 9),
     .op (some 11) (.mov (.t 10)),
     .andor 23 true 6 11 [.op (some 12) (.mov (.t 0)), .op (some 13) (.bin .eql (.t 12) (.k (.int .i64 1))), .op (some 14) (.mov (.t 13)), .andor 17 false 9 14 [.op (some 15) (.mov (.t 1)), .op (some 16) (.bin .eql (.t 15) (.k (.int .i64 1)))] (.t 16), .op (some 18) (.mov (.t 17)), .andor 22 false 13 18 [.op (some 19) (.mov (.t 0)), .op (some 20) (.mov (.t 1)), .op (some 21) (.bin .eql (.t 19) (.t 20))] (.t 21)] (.t 22),
     .op (some 4) (.mov (.t 23))])
  (.keep [4] (.ret))))
theorem k_c_modesFit_fits : fitsF Try.prog 61 ⟨24, k_c_modesFit, [.t 4]⟩ = true := by kernel_rfl
theorem c_modesFit {a b : Int} : Con Try.prog noMv 61 [int a, int b] [] (fun r h => r = bool (modesFit a b) ∧ h = []) := by
  refine con_of2 k_c_modesFit_fits rfl fun C hP hmv => ?_
  unfold k_c_modesFit
  refine cx_seq ?_
  refine cx_ops ?_
  refine ax_q (q_mov rfl) ?_
  refine ax_nil ?_
  refine cx_keep rfl rfl ?_
  refine cx_seq ?_
  refine cx_ops ?_
  refine ax_q (q_mov rfl) ?_
  refine ax_q (q_ibin rfl rfl rfl) ?_
  refine ax_q (q_mov rfl) ?_
  apply ax_and rfl rfl
  · intro g
    have g := nT g
    refine ax_q (q_mov rfl) ?_
    refine ax_q (q_ibin rfl rfl rfl) ?_
    exact ax_nil ⟨rfl, by repeat (first | exact trivial | refine ⟨rfl, ?_⟩ | refine ⟨?_, ?_⟩)⟩
  refine ax_q (q_mov rfl) ?_
  apply ax_and rfl rfl
  · intro g
    have g := (fun h => And.intro (nT (and_T h).1) (nT (and_T h).2)) g
    refine ax_q (q_mov rfl) ?_
    refine ax_q (q_ibin rfl rfl rfl) ?_
    refine ax_q (q_mov rfl) ?_
    apply ax_or rfl rfl
    · intro g
      have g := dF g
      refine ax_q (q_mov rfl) ?_
      refine ax_q (q_ibin rfl rfl rfl) ?_
      exact ax_nil ⟨rfl, by repeat (first | exact trivial | refine ⟨rfl, ?_⟩ | refine ⟨?_, ?_⟩)⟩
    refine ax_q (q_mov rfl) ?_
    apply ax_or rfl rfl
    · intro g
      have g := (fun h => And.intro (dF (or_F h).1) (dF (or_F h).2)) g
      refine ax_q (q_mov rfl) ?_
      refine ax_q (q_mov rfl) ?_
      refine ax_q (q_ibin rfl rfl rfl) ?_
      exact ax_nil ⟨rfl, by repeat (first | exact trivial | refine ⟨rfl, ?_⟩ | refine ⟨?_, ?_⟩)⟩
    exact ax_nil ⟨rfl, by repeat (first | exact trivial | refine ⟨rfl, ?_⟩ | refine ⟨?_, ?_⟩)⟩
  refine ax_q (q_mov rfl) ?_
  refine ax_nil ?_
  refine cx_keep rfl rfl ?_
  refine cx_ret (ret0 rfl rfl ?_)
  exact ⟨rfl, rfl⟩


/- loop.example/g00332/impl.isOneThing -/
def k_c_isOne : XCode :=
  .seq (.ops [.op (some 2) (.box (.t 0)),
     .op (some 3) (.box (.t 1)),
     .op (some 4) (.mov (.k (.bool false)))])
  (.keep [2, 3] (.seq (.ops [.op (some 5) (.fadr (.t 2) 1),
     .op (some 6) (.load1 (.t 5)),
     .op (some 7) (.fadr (.t 3) 1),
     .op (some 8) (.load1 (.t 7)),
     .op (some 9) (.bin .eql (.t 6) (.t 8)),
     .op (some 10) (.mov (.t 9)),
     .andor 16 true 5 10 [.op (some 11) (.fadr (.t 2) 2), .op (some 12) (.load1 (.t 11)), .op (some 13) (.fadr (.t 3) 2), .op (some 14) (.load1 (.t 13)), .op (some 15) (.bin .eql (.t 12) (.t 14))] (.t 15),
     .op (some 4) (.mov (.t 16))])
  (.keep [4] (.ret))))
theorem k_c_isOne_fits : fitsF Try.prog 84 ⟨17, k_c_isOne, [.t 4]⟩ = true := by kernel_rfl
theorem c_isOne {a b : GLock} : Con Try.prog noMv 84 [a.av, b.av] [] (fun r h => r = bool (isThing a b) ∧ h = []) := by
  refine con_of2 k_c_isOne_fits rfl fun C hP hmv => ?_
  unfold k_c_isOne
  refine cx_seq ?_
  refine cx_ops ?_
  refine ax_e (e_box rfl rfl (by decide) rfl rfl rfl) ?_
  refine ax_e (e_box rfl rfl (by decide) rfl rfl rfl) ?_
  refine ax_q (q_mov rfl) ?_
  refine ax_nil ?_
  refine cx_keep rfl rfl ?_
  refine cx_seq ?_
  refine cx_ops ?_
  first | refine ax_q (q_fadr_ptr rfl) ?_ | refine ax_q (q_fadr_rptr rfl) ?_ | refine ax_q (q_fadr_ip rfl) ?_
  first | refine ax_q (q_load1_ptr rfl rfl rfl) ?_ | refine ax_q (q_load1_ip rfl) ?_ | refine ax_q (q_load1_rptr rfl rfl (by assumption) rfl) ?_ | refine ax_q (q_load1_rptr rfl rfl (mapAt (by first | assumption | omega)) rfl) ?_
  first | refine ax_q (q_fadr_ptr rfl) ?_ | refine ax_q (q_fadr_rptr rfl) ?_ | refine ax_q (q_fadr_ip rfl) ?_
  first | refine ax_q (q_load1_ptr rfl rfl rfl) ?_ | refine ax_q (q_load1_ip rfl) ?_ | refine ax_q (q_load1_rptr rfl rfl (by assumption) rfl) ?_ | refine ax_q (q_load1_rptr rfl rfl (mapAt (by first | assumption | omega)) rfl) ?_
  refine ax_q (q_ibin rfl rfl rfl) ?_
  refine ax_q (q_mov rfl) ?_
  apply ax_and rfl rfl
  · intro g
    have g := dT g
    first | refine ax_q (q_fadr_ptr rfl) ?_ | refine ax_q (q_fadr_rptr rfl) ?_ | refine ax_q (q_fadr_ip rfl) ?_
    first | refine ax_q (q_load1_ptr rfl rfl rfl) ?_ | refine ax_q (q_load1_ip rfl) ?_ | refine ax_q (q_load1_rptr rfl rfl (by assumption) rfl) ?_ | refine ax_q (q_load1_rptr rfl rfl (mapAt (by first | assumption | omega)) rfl) ?_
    first | refine ax_q (q_fadr_ptr rfl) ?_ | refine ax_q (q_fadr_rptr rfl) ?_ | refine ax_q (q_fadr_ip rfl) ?_
    first | refine ax_q (q_load1_ptr rfl rfl rfl) ?_ | refine ax_q (q_load1_ip rfl) ?_ | refine ax_q (q_load1_rptr rfl rfl (by assumption) rfl) ?_ | refine ax_q (q_load1_rptr rfl rfl (mapAt (by first | assumption | omega)) rfl) ?_
    refine ax_q (q_ibin rfl rfl rfl) ?_
    exact ax_nil ⟨rfl, by repeat (first | exact trivial | refine ⟨rfl, ?_⟩ | refine ⟨?_, ?_⟩)⟩
  refine ax_q (q_mov rfl) ?_
  refine ax_nil ?_
  refine cx_keep rfl rfl ?_
  refine cx_ret (ret0 rfl rfl ?_)
  exact ⟨rfl, rfl⟩


/- loop.example/g00332/impl.clashes -/
def k_c_clashes : XCode :=
  .seq (.ops [.op (some 2) (.box (.t 0)),
     .op (some 3) (.box (.t 1)),
     .op (some 4) (.mov (.k (.bool false)))])
  (.keep [2, 3] (.seq (.ops [.op (some 5) (.fadr (.t 2) 0),
     .op (some 6) (.load1 (.t 5)),
     .op (some 7) (.fadr (.t 3) 0),
     .op (some 8) (.load1 (.t 7)),
     .op (some 9) (.bin .neq (.t 6) (.t 8)),
     .op (some 10) (.mov (.t 9)),
     .andor 14 true 5 10 [.op (some 11) (.loadN 4 (.t 2)), .op (some 12) (.loadN 4 (.t 3)), .call (some 13) 84 [.t 11, .t 12]] (.t 13),
     .op (some 15) (.mov (.t 14)),
     .andor 22 true 10 15 [.op (some 16) (.fadr (.t 2) 3), .op (some 17) (.load1 (.t 16)), .op (some 18) (.fadr (.t 3) 3), .op (some 19) (.load1 (.t 18)), .call (some 20) 61 [.t 17, .t 19], .op (some 21) (.not (.t 20))] (.t 21),
     .op (some 4) (.mov (.t 22))])
  (.keep [4] (.ret))))
theorem k_c_clashes_fits : fitsF Try.prog 57 ⟨23, k_c_clashes, [.t 4]⟩ = true := by kernel_rfl
theorem c_clashes {a b : GLock} : Con Try.prog noMv 57 [a.av, b.av] [] (fun r h => r = bool (clashes a b) ∧ h = []) := by
  refine con_of2 k_c_clashes_fits rfl fun C hP hmv => ?_
  unfold k_c_clashes
  refine cx_seq ?_
  refine cx_ops ?_
  refine ax_e (e_box rfl rfl (by decide) rfl rfl rfl) ?_
  refine ax_e (e_box rfl rfl (by decide) rfl rfl rfl) ?_
  refine ax_q (q_mov rfl) ?_
  refine ax_nil ?_
  refine cx_keep rfl rfl ?_
  refine cx_seq ?_
  refine cx_ops ?_
  first | refine ax_q (q_fadr_ptr rfl) ?_ | refine ax_q (q_fadr_rptr rfl) ?_ | refine ax_q (q_fadr_ip rfl) ?_
  first | refine ax_q (q_load1_ptr rfl rfl rfl) ?_ | refine ax_q (q_load1_ip rfl) ?_ | refine ax_q (q_load1_rptr rfl rfl (by assumption) rfl) ?_ | refine ax_q (q_load1_rptr rfl rfl (mapAt (by first | assumption | omega)) rfl) ?_
  first | refine ax_q (q_fadr_ptr rfl) ?_ | refine ax_q (q_fadr_rptr rfl) ?_ | refine ax_q (q_fadr_ip rfl) ?_
  first | refine ax_q (q_load1_ptr rfl rfl rfl) ?_ | refine ax_q (q_load1_ip rfl) ?_ | refine ax_q (q_load1_rptr rfl rfl (by assumption) rfl) ?_ | refine ax_q (q_load1_rptr rfl rfl (mapAt (by first | assumption | omega)) rfl) ?_
  refine ax_q (q_ibin rfl rfl rfl) ?_
  refine ax_q (q_mov rfl) ?_
  apply ax_and rfl rfl
  · intro g
    have g := nT g
    first | refine ax_q (q_ldN rfl rfl rfl) ?_ | refine ax_q (q_loadN_ip rfl (Nat.le_refl _)) ?_ | refine ax_q (q_loadN_ip rfl (by decide)) ?_ | refine ax_q (q_loadN_rptr rfl rfl (by assumption) (by decide)) ?_ | refine ax_q (q_loadN_rptr rfl rfl (mapAt (by first | assumption | omega)) (by decide)) ?_
    first | refine ax_q (q_ldN rfl rfl rfl) ?_ | refine ax_q (q_loadN_ip rfl (Nat.le_refl _)) ?_ | refine ax_q (q_loadN_ip rfl (by decide)) ?_ | refine ax_q (q_loadN_rptr rfl rfl (by assumption) (by decide)) ?_ | refine ax_q (q_loadN_rptr rfl rfl (mapAt (by first | assumption | omega)) (by decide)) ?_
    first | refine ax_call rfl (vc_pure0 (c_isOne  ) hP rfl rfl ?_) | refine ax_call rfl (vc_lend0 (c_isOne  ) hP (by repeat (first | exact lal_id _ rfl | exact LAL.nil | refine LAL.cons ?_ ?_ | exact la_id _ rfl | exact LA.lend (lend_whole rfl (by simp)) | refine LA.agg ?_ | refine LA.fn ?_ | refine LA.lend ?_ | exact Lend.d _ | exact Lend.zs _ | exact lend_whole rfl (by simp) | refine Lend.ptr rfl ?_ | refine Lend.fn ?_ | exact LendL.nil | refine LendL.cons ?_ ?_)) rfl rfl ?_)
    exact ax_nil ⟨rfl, by repeat (first | exact trivial | refine ⟨rfl, ?_⟩ | refine ⟨?_, ?_⟩)⟩
  refine ax_q (q_mov rfl) ?_
  apply ax_and rfl rfl
  · intro g
    have g := (fun h => And.intro (nT (and_T h).1) (id (and_T h).2)) g
    first | refine ax_q (q_fadr_ptr rfl) ?_ | refine ax_q (q_fadr_rptr rfl) ?_ | refine ax_q (q_fadr_ip rfl) ?_
    first | refine ax_q (q_load1_ptr rfl rfl rfl) ?_ | refine ax_q (q_load1_ip rfl) ?_ | refine ax_q (q_load1_rptr rfl rfl (by assumption) rfl) ?_ | refine ax_q (q_load1_rptr rfl rfl (mapAt (by first | assumption | omega)) rfl) ?_
    first | refine ax_q (q_fadr_ptr rfl) ?_ | refine ax_q (q_fadr_rptr rfl) ?_ | refine ax_q (q_fadr_ip rfl) ?_
    first | refine ax_q (q_load1_ptr rfl rfl rfl) ?_ | refine ax_q (q_load1_ip rfl) ?_ | refine ax_q (q_load1_rptr rfl rfl (by assumption) rfl) ?_ | refine ax_q (q_load1_rptr rfl rfl (mapAt (by first | assumption | omega)) rfl) ?_
    first | refine ax_call rfl (vc_pure0 (c_modesFit  ) hP rfl rfl ?_) | refine ax_call rfl (vc_lend0 (c_modesFit  ) hP (by repeat (first | exact lal_id _ rfl | exact LAL.nil | refine LAL.cons ?_ ?_ | exact la_id _ rfl | exact LA.lend (lend_whole rfl (by simp)) | refine LA.agg ?_ | refine LA.fn ?_ | refine LA.lend ?_ | exact Lend.d _ | exact Lend.zs _ | exact lend_whole rfl (by simp) | refine Lend.ptr rfl ?_ | refine Lend.fn ?_ | exact LendL.nil | refine LendL.cons ?_ ?_)) rfl rfl ?_)
    refine ax_q (q_not rfl) ?_
    exact ax_nil ⟨rfl, by repeat (first | exact trivial | refine ⟨rfl, ?_⟩ | refine ⟨?_, ?_⟩)⟩
  refine ax_q (q_mov rfl) ?_
  refine ax_nil ?_
  refine cx_keep rfl rfl ?_
  refine cx_ret (ret0 rfl rfl ?_)
  exact ⟨rfl, rfl⟩


/- loop.example/g00332/impl.LocksOK$1 -/
def k_c_LocksOK1 : XCode :=
  .seq (.ops [.op (some 2) (.box (.t 0)),
     .op (some 3) (.mov (.k (.bool false)))])
  (.keep [1, 2] (.seq (.ops [.op (some 4) (.loadN 4 (.t 1)),
     .op (some 5) (.loadN 4 (.t 2)),
     .op (some 6) (.eqs false [0, 0, 0, 0] (.t 4) (.t 5)),
     .op (some 7) (.mov (.t 6)),
     .andor 11 false 3 7 [.op (some 8) (.loadN 4 (.t 1)), .op (some 9) (.loadN 4 (.t 2)), .call (some 10) 57 [.t 8, .t 9]] (.t 10),
     .op (some 3) (.mov (.t 11))])
  (.keep [3] (.ret))))
theorem k_c_LocksOK1_fits : fitsF Try.prog 56 ⟨12, k_c_LocksOK1, [.t 3]⟩ = true := by kernel_rfl
theorem c_LocksOK1 {a b : GLock} : Con Try.prog noMv 56 [b.av, .d (.ip a.row)] [] (fun r h => r = bool (twice a b) ∧ h = []) := by
  refine con_of2 k_c_LocksOK1_fits rfl fun C hP hmv => ?_
  unfold k_c_LocksOK1
  refine cx_seq ?_
  refine cx_ops ?_
  refine ax_e (e_box rfl rfl (by decide) rfl rfl rfl) ?_
  refine ax_q (q_mov rfl) ?_
  refine ax_nil ?_
  refine cx_keep rfl rfl ?_
  refine cx_seq ?_
  refine cx_ops ?_
  first | refine ax_q (q_ldN rfl rfl rfl) ?_ | refine ax_q (q_loadN_ip rfl (Nat.le_refl _)) ?_ | refine ax_q (q_loadN_ip rfl (by decide)) ?_ | refine ax_q (q_loadN_rptr rfl rfl (by assumption) (by decide)) ?_ | refine ax_q (q_loadN_rptr rfl rfl (mapAt (by first | assumption | omega)) (by decide)) ?_
  first | refine ax_q (q_ldN rfl rfl rfl) ?_ | refine ax_q (q_loadN_ip rfl (Nat.le_refl _)) ?_ | refine ax_q (q_loadN_ip rfl (by decide)) ?_ | refine ax_q (q_loadN_rptr rfl rfl (by assumption) (by decide)) ?_ | refine ax_q (q_loadN_rptr rfl rfl (mapAt (by first | assumption | omega)) (by decide)) ?_
  first | refine ax_q (GLock.q_eqs rfl rfl) ?_ | refine ax_q (q_eqs rfl rfl rfl) ?_
  refine ax_q (q_mov rfl) ?_
  apply ax_or rfl rfl
  · intro g
    first | refine ax_q (q_ldN rfl rfl rfl) ?_ | refine ax_q (q_loadN_ip rfl (Nat.le_refl _)) ?_ | refine ax_q (q_loadN_ip rfl (by decide)) ?_ | refine ax_q (q_loadN_rptr rfl rfl (by assumption) (by decide)) ?_ | refine ax_q (q_loadN_rptr rfl rfl (mapAt (by first | assumption | omega)) (by decide)) ?_
    first | refine ax_q (q_ldN rfl rfl rfl) ?_ | refine ax_q (q_loadN_ip rfl (Nat.le_refl _)) ?_ | refine ax_q (q_loadN_ip rfl (by decide)) ?_ | refine ax_q (q_loadN_rptr rfl rfl (by assumption) (by decide)) ?_ | refine ax_q (q_loadN_rptr rfl rfl (mapAt (by first | assumption | omega)) (by decide)) ?_
    first | refine ax_call rfl (vc_pure0 (c_clashes  ) hP rfl rfl ?_) | refine ax_call rfl (vc_lend0 (c_clashes  ) hP (by repeat (first | exact lal_id _ rfl | exact LAL.nil | refine LAL.cons ?_ ?_ | exact la_id _ rfl | exact LA.lend (lend_whole rfl (by simp)) | refine LA.agg ?_ | refine LA.fn ?_ | refine LA.lend ?_ | exact Lend.d _ | exact Lend.zs _ | exact lend_whole rfl (by simp) | refine Lend.ptr rfl ?_ | refine Lend.fn ?_ | exact LendL.nil | refine LendL.cons ?_ ?_)) rfl rfl ?_)
    exact ax_nil ⟨rfl, by repeat (first | exact trivial | refine ⟨rfl, ?_⟩ | refine ⟨?_, ?_⟩)⟩
  refine ax_q (q_mov rfl) ?_
  refine ax_nil ?_
  refine cx_keep rfl rfl ?_
  refine cx_ret (ret0 rfl rfl ?_)
  exact ⟨rfl, rfl⟩


/- slices.IndexFunc[[]loop.example/g00332/impl.Wait,loop.example/g00332/impl.Wait] -/
def k_c_IndexFunc_Wait : XCode :=
  .seq (.ops [.op (some 4) (.mov (.k (.int .i64 0)))])
  (.keep [0, 1] (.seq (.seq (.ops [.op (some 6) (.mov (.t 0)),
      .op (some 7) (.lenS (.t 6)),
      .op (some 8) (.mov (.k (.int .i64 0)))])
   (.keep [0, 1, 7, 8] (.block 0 (.loop (.seq (.ops [.op (some 9) (.bin .lss (.t 8) (.t 7))])
     (.keep [0, 1, 7, 8, 9] (.seq (.cond (.t 9)
       (.skip)
       (.exit 0))
     (.keep [0, 1, 7, 8] (.seq (.block 1 (.seq (.ops [.op (some 10) (.mov (.t 8)),
          .op (some 5) (.mov (.t 10))])
       (.keep [0, 1, 5, 7, 8] (.seq (.ops [.op (some 11) (.mov (.t 1)),
          .op (some 12) (.mov (.t 0)),
          .op (some 13) (.mov (.t 5)),
          .op (some 14) (.iadr 2 (.t 12) (.t 13)),
          .op (some 15) (.loadN 2 (.t 14)),
          .callv (some 16) (.t 11) [.t 15]])
       (.keep [0, 1, 5, 7, 8, 16] (.cond (.t 16)
        (.seq (.ops [.op (some 17) (.mov (.t 5)),
            .op (some 4) (.mov (.t 17))])
         (.keep [4] (.ret)))
        (.skip)))))))
     (.keep [0, 1, 7, 8] (.ops [.op (some 18) (.bin .add (.t 8) (.k (.int .i64 1))),
       .op (some 8) (.mov (.t 18))])))))))))))
  (.keep [] (.seq (.ops [.op (some 4) (.mov (.k (.int .i64 (-1))))])
  (.keep [4] (.ret))))))
theorem k_c_IndexFunc_Wait_fits : fitsF Try.prog 85 ⟨19, k_c_IndexFunc_Wait, [.t 4]⟩ = true := by kernel_rfl
theorem c_IndexFunc_Wait {xs : List GWait} {f : Nat} {ds : List D} (p : GWait → Bool) (hw : xs.length ≤ 9223372036854775807) (hb : hasBody Try.prog f = true) (hf : ∀ s ∈ xs, Con Try.prog noMv f (s.av :: ds.map AV.d) [] (fun r h => r = bool (p s) ∧ h = [])) : Con Try.prog noMv 85 [.d (.sl 2 (xs.map GWait.row)), .d (.fn (.func f) ds)] [] (fun r h => r = int (idxOf p xs 0) ∧ h = []) := by
  refine con_of2 k_c_IndexFunc_Wait_fits rfl fun C hP hmv => ?_
  unfold k_c_IndexFunc_Wait
  refine cx_seq ?_
  refine cx_ops ?_
  refine ax_q (q_mov rfl) ?_
  refine ax_nil ?_
  refine cx_keep rfl rfl ?_
  refine cx_seq ?_
  refine cx_seq ?_
  refine cx_ops ?_
  refine ax_q (q_mov rfl) ?_
  first | refine ax_q (q_lenS_map rfl) ?_ | refine ax_q (q_lenS_osl rfl) ?_ | refine ax_q (q_lenS_zs rfl) ?_ | refine ax_q (q_lenS rfl) ?_
  refine ax_q (q_mov rfl) ?_
  refine ax_nil ?_
  refine cx_keep rfl rfl ?_
  refine cx_block ?_
  refine cx_loopU (fun n k => k ≤ xs.length ∧ n = xs.length - k ∧ ∀ i, i < k → ∀ x, xs[i]? = some x → p x = false) (fun k : Nat => [(8, int k)]) (fun _ => []) ⟨_, 0, ⟨by omega, rfl, fun i hi => by omega⟩, by repeat (first | exact trivial | refine ⟨rfl, ?_⟩ | refine ⟨?_, ?_⟩)⟩ ?_
  rintro n k ⟨hk, rfl, ht⟩
  refine cx_seq ?_
  refine cx_ops ?_
  refine ax_q (q_ibin rfl rfl rfl) ?_
  refine ax_nil ?_
  refine cx_keep rfl rfl ?_
  refine cx_seq ?_
  refine cx_cond rfl (fun h0 => ?_) (fun h0 => ?_)
  · have h0 := dT h0
    have h0x : k < xs.length := by omega
    refine cx_skip ?_
    refine cx_keep rfl rfl ?_
    refine cx_seq ?_
    refine cx_block ?_
    refine cx_seq ?_
    refine cx_ops ?_
    refine ax_q (q_mov rfl) ?_
    refine ax_q (q_mov rfl) ?_
    refine ax_nil ?_
    refine cx_keep rfl rfl ?_
    refine cx_seq ?_
    refine cx_ops ?_
    refine ax_q (q_mov rfl) ?_
    refine ax_q (q_mov rfl) ?_
    refine ax_q (q_mov rfl) ?_
    refine ax_q (q_ix rfl rfl (mapAt h0x)) ?_
    first | refine ax_q (q_ldN rfl rfl rfl) ?_ | refine ax_q (q_loadN_ip rfl (Nat.le_refl _)) ?_ | refine ax_q (q_loadN_ip rfl (by decide)) ?_ | refine ax_q (q_loadN_rptr rfl rfl (by assumption) (by decide)) ?_ | refine ax_q (q_loadN_rptr rfl rfl (mapAt (by first | assumption | omega)) (by decide)) ?_
    refine ax_callvD rfl (by rw [hP]; exact hb) rfl (vc_pure0 (hf _ (List.getElem_mem h0x)) hP (refs_cons rfl ds) rfl ?_)
    refine ax_nil ?_
    refine cx_keep rfl rfl ?_
    refine cx_cond rfl (fun h1 => ?_) (fun h1 => ?_)
    · skip
      refine cx_seq ?_
      refine cx_ops ?_
      refine ax_q (q_mov rfl) ?_
      refine ax_q (q_mov rfl) ?_
      refine ax_nil ?_
      refine cx_keep rfl rfl ?_
      refine cx_ret (ret0 rfl rfl ?_)
      exact ⟨by rw [idxOf_hit h0x ht h1]; rfl, rfl⟩
    · skip
      refine cx_skip ?_
      refine cx_keep rfl rfl ?_
      refine cx_ops ?_
      refine ax_qe (r' := int ((k + 1 : Nat) : Int)) (q_ibin rfl rfl rfl) (by rw [wi (by omega) (by omega)]; rfl) ?_
      refine ax_q (q_mov rfl) ?_
      refine ax_nil ?_
      exact ⟨_, k + 1, by omega, ⟨by omega, rfl, before_step h0x ht h1⟩, by repeat (first | exact trivial | refine ⟨rfl, ?_⟩ | refine ⟨?_, ?_⟩)⟩
  · have h0 := dF h0
    have h0x : k = xs.length := by omega
    refine cx_exit rfl ?_
    refine cx_keep rfl rfl ?_
    refine cx_seq ?_
    refine cx_ops ?_
    refine ax_q (q_mov rfl) ?_
    refine ax_nil ?_
    refine cx_keep rfl rfl ?_
    refine cx_ret (ret0 rfl rfl ?_)
    exact ⟨by rw [idxOf_none (fun i hi => ht i (by omega))]; rfl, rfl⟩


/- slices.ContainsFunc[[]loop.example/g00332/impl.Wait,loop.example/g00332/impl.Wait] -/
def k_c_ContainsFunc_Wait : XCode :=
  .seq (.ops [.op (some 4) (.mov (.k (.bool false)))])
  (.keep [0, 1] (.seq (.ops [.op (some 5) (.mov (.t 0)),
     .op (some 6) (.mov (.t 1)),
     .call (some 7) 85 [.t 5, .t 6],
     .op (some 8) (.bin .geq (.t 7) (.k (.int .i64 0))),
     .op (some 4) (.mov (.t 8))])
  (.keep [4] (.ret))))
theorem k_c_ContainsFunc_Wait_fits : fitsF Try.prog 58 ⟨9, k_c_ContainsFunc_Wait, [.t 4]⟩ = true := by kernel_rfl
theorem c_ContainsFunc_Wait {xs : List GWait} {f : Nat} {ds : List D} (p : GWait → Bool) (hw : xs.length ≤ 9223372036854775807) (hb : hasBody Try.prog f = true) (hf : ∀ s ∈ xs, Con Try.prog noMv f (s.av :: ds.map AV.d) [] (fun r h => r = bool (p s) ∧ h = [])) : Con Try.prog noMv 58 [.d (.sl 2 (xs.map GWait.row)), .d (.fn (.func f) ds)] [] (fun r h => r = bool (xs.any p) ∧ h = []) := by
  refine con_of2 k_c_ContainsFunc_Wait_fits rfl fun C hP hmv => ?_
  unfold k_c_ContainsFunc_Wait
  refine cx_seq ?_
  refine cx_ops ?_
  refine ax_q (q_mov rfl) ?_
  refine ax_nil ?_
  refine cx_keep rfl rfl ?_
  refine cx_seq ?_
  refine cx_ops ?_
  refine ax_q (q_mov rfl) ?_
  refine ax_q (q_mov rfl) ?_
  refine ax_call rfl (vc_pure0 (c_IndexFunc_Wait p hw hb hf) hP rfl rfl ?_)
  refine ax_qe (r' := bool (xs.any p)) (q_ibin rfl rfl rfl) (congrArg AM.bool any_idxOf) ?_
  refine ax_q (q_mov rfl) ?_
  refine ax_nil ?_
  refine cx_keep rfl rfl ?_
  refine cx_ret (ret0 rfl rfl ?_)
  exact ⟨rfl, rfl⟩


/- loop.example/g00332/impl.LocksOK$2 -/
def k_c_LocksOK2 : XCode :=
  .seq (.ops [.op (some 1) (.box (.t 0)),
     .op (some 2) (.mov (.k (.bool false)))])
  (.keep [1] (.seq (.ops [.op (some 3) (.fadr (.t 1) 0),
     .op (some 4) (.load1 (.t 3)),
     .call (some 5) 29 [.t 4],
     .op (some 6) (.not (.t 5)),
     .op (some 7) (.mov (.t 6)),
     .andor 12 false 4 7 [.op (some 8) (.fadr (.t 1) 1), .op (some 9) (.load1 (.t 8)), .call (some 10) 29 [.t 9], .op (some 11) (.not (.t 10))] (.t 11),
     .op (some 13) (.mov (.t 12)),
     .andor 19 false 10 13 [.op (some 14) (.fadr (.t 1) 0), .op (some 15) (.load1 (.t 14)), .op (some 16) (.fadr (.t 1) 1), .op (some 17) (.load1 (.t 16)), .op (some 18) (.bin .eql (.t 15) (.t 17))] (.t 18),
     .op (some 2) (.mov (.t 19))])
  (.keep [2] (.ret))))
theorem k_c_LocksOK2_fits : fitsF Try.prog 59 ⟨20, k_c_LocksOK2, [.t 2]⟩ = true := by kernel_rfl
theorem c_LocksOK2 {a : GWait} : Con Try.prog noMv 59 [a.av] [] (fun r h => r = bool (badWait a) ∧ h = []) := by
  refine con_of2 k_c_LocksOK2_fits rfl fun C hP hmv => ?_
  unfold k_c_LocksOK2
  refine cx_seq ?_
  refine cx_ops ?_
  refine ax_e (e_box rfl rfl (by decide) rfl rfl rfl) ?_
  refine ax_q (q_mov rfl) ?_
  refine ax_nil ?_
  refine cx_keep rfl rfl ?_
  refine cx_seq ?_
  refine cx_ops ?_
  first | refine ax_q (q_fadr_ptr rfl) ?_ | refine ax_q (q_fadr_rptr rfl) ?_ | refine ax_q (q_fadr_ip rfl) ?_
  first | refine ax_q (q_load1_ptr rfl rfl rfl) ?_ | refine ax_q (q_load1_ip rfl) ?_ | refine ax_q (q_load1_rptr rfl rfl (by assumption) rfl) ?_ | refine ax_q (q_load1_rptr rfl rfl (mapAt (by first | assumption | omega)) rfl) ?_
  first | refine ax_call rfl (vc_pure0 (c_isTx  ) hP rfl rfl ?_) | refine ax_call rfl (vc_lend0 (c_isTx  ) hP (by repeat (first | exact lal_id _ rfl | exact LAL.nil | refine LAL.cons ?_ ?_ | exact la_id _ rfl | exact LA.lend (lend_whole rfl (by simp)) | refine LA.agg ?_ | refine LA.fn ?_ | refine LA.lend ?_ | exact Lend.d _ | exact Lend.zs _ | exact lend_whole rfl (by simp) | refine Lend.ptr rfl ?_ | refine Lend.fn ?_ | exact LendL.nil | refine LendL.cons ?_ ?_)) rfl rfl ?_)
  refine ax_q (q_not rfl) ?_
  refine ax_q (q_mov rfl) ?_
  apply ax_or rfl rfl
  · intro g
    have g := bF g
    first | refine ax_q (q_fadr_ptr rfl) ?_ | refine ax_q (q_fadr_rptr rfl) ?_ | refine ax_q (q_fadr_ip rfl) ?_
    first | refine ax_q (q_load1_ptr rfl rfl rfl) ?_ | refine ax_q (q_load1_ip rfl) ?_ | refine ax_q (q_load1_rptr rfl rfl (by assumption) rfl) ?_ | refine ax_q (q_load1_rptr rfl rfl (mapAt (by first | assumption | omega)) rfl) ?_
    first | refine ax_call rfl (vc_pure0 (c_isTx  ) hP rfl rfl ?_) | refine ax_call rfl (vc_lend0 (c_isTx  ) hP (by repeat (first | exact lal_id _ rfl | exact LAL.nil | refine LAL.cons ?_ ?_ | exact la_id _ rfl | exact LA.lend (lend_whole rfl (by simp)) | refine LA.agg ?_ | refine LA.fn ?_ | refine LA.lend ?_ | exact Lend.d _ | exact Lend.zs _ | exact lend_whole rfl (by simp) | refine Lend.ptr rfl ?_ | refine Lend.fn ?_ | exact LendL.nil | refine LendL.cons ?_ ?_)) rfl rfl ?_)
    refine ax_q (q_not rfl) ?_
    exact ax_nil ⟨rfl, by repeat (first | exact trivial | refine ⟨rfl, ?_⟩ | refine ⟨?_, ?_⟩)⟩
  refine ax_q (q_mov rfl) ?_
  apply ax_or rfl rfl
  · intro g
    have g := (fun h => And.intro (bF (or_F h).1) (bF (or_F h).2)) g
    first | refine ax_q (q_fadr_ptr rfl) ?_ | refine ax_q (q_fadr_rptr rfl) ?_ | refine ax_q (q_fadr_ip rfl) ?_
    first | refine ax_q (q_load1_ptr rfl rfl rfl) ?_ | refine ax_q (q_load1_ip rfl) ?_ | refine ax_q (q_load1_rptr rfl rfl (by assumption) rfl) ?_ | refine ax_q (q_load1_rptr rfl rfl (mapAt (by first | assumption | omega)) rfl) ?_
    first | refine ax_q (q_fadr_ptr rfl) ?_ | refine ax_q (q_fadr_rptr rfl) ?_ | refine ax_q (q_fadr_ip rfl) ?_
    first | refine ax_q (q_load1_ptr rfl rfl rfl) ?_ | refine ax_q (q_load1_ip rfl) ?_ | refine ax_q (q_load1_rptr rfl rfl (by assumption) rfl) ?_ | refine ax_q (q_load1_rptr rfl rfl (mapAt (by first | assumption | omega)) rfl) ?_
    refine ax_q (q_ibin rfl rfl rfl) ?_
    exact ax_nil ⟨rfl, by repeat (first | exact trivial | refine ⟨rfl, ?_⟩ | refine ⟨?_, ?_⟩)⟩
  refine ax_q (q_mov rfl) ?_
  refine ax_nil ?_
  refine cx_keep rfl rfl ?_
  refine cx_ret (ret0 rfl rfl ?_)
  exact ⟨rfl, rfl⟩


/- loop.example/g00332/impl.LocksOK -/
def k_c_LocksOK : XCode :=
  .seq (.ops [.op (some 1) (.box (.t 0)),
     .op (some 2) (.mov (.k (.bool false)))])
  (.keep [1] (.seq (.seq (.ops [.op (some 5) (.fadr (.t 1) 0),
      .op (some 6) (.load1 (.t 5)),
      .op (some 7) (.lenS (.t 6)),
      .op (some 8) (.mov (.k (.int .i64 0)))])
   (.keep [1, 6, 7, 8] (.block 0 (.loop (.seq (.ops [.op (some 9) (.bin .lss (.t 8) (.t 7))])
     (.keep [1, 6, 7, 8, 9] (.seq (.cond (.t 9)
       (.skip)
       (.exit 0))
     (.keep [1, 6, 7, 8] (.seq (.block 1 (.seq (.ops [.op (some 10) (.mov (.t 8)),
          .op (some 11) (.iadr 4 (.t 6) (.t 8)),
          .op (some 12) (.loadN 4 (.t 11)),
          .op (some 4) (.alloc [.int .i64 0, .int .i64 0, .int .i64 0, .int .i64 0]),
          .op (some 3) (.mov (.t 10)),
          .op none (.store 4 (.t 4) (.t 12))])
       (.keep [1, 3, 4, 6, 7, 8] (.seq (.ops [.op (some 13) (.loadN 4 (.t 4)),
          .call (some 14) 48 [.t 13],
          .op (some 15) (.not (.t 14)),
          .op (some 16) (.mov (.t 15)),
          .andor 23 false 3 16 [.op (some 17) (.fadr (.t 1) 0), .op (some 18) (.load1 (.t 17)), .op (some 19) (.mov (.t 3)), .op (some 20) (.slc 4 (.t 18) none (some (.t 19)) none), .op (some 21) (.mkfn 56 [.t 4]), .call (some 22) 55 [.t 20, .t 21]] (.t 22)])
       (.keep [1, 6, 7, 8, 23] (.cond (.t 23)
        (.seq (.ops [.op (some 2) (.mov (.k (.bool false)))])
         (.keep [2] (.ret)))
        (.skip)))))))
     (.keep [1, 6, 7, 8] (.ops [.op (some 24) (.bin .add (.t 8) (.k (.int .i64 1))),
       .op (some 8) (.mov (.t 24))])))))))))))
  (.keep [1] (.seq (.ops [.op (some 25) (.fadr (.t 1) 0),
     .op (some 26) (.load1 (.t 25)),
     .op (some 27) (.lenS (.t 26)),
     .op (some 28) (.bin .leq (.t 27) (.k (.int .i64 60))),
     .op (some 29) (.mov (.t 28)),
     .andor 34 true 4 29 [.op (some 30) (.fadr (.t 1) 1), .op (some 31) (.load1 (.t 30)), .op (some 32) (.lenS (.t 31)), .op (some 33) (.bin .leq (.t 32) (.k (.int .i64 100)))] (.t 33),
     .op (some 35) (.mov (.t 34)),
     .andor 40 true 10 35 [.op (some 36) (.fadr (.t 1) 1), .op (some 37) (.load1 (.t 36)), .call (some 38) 58 [.t 37, .f 59], .op (some 39) (.not (.t 38))] (.t 39),
     .op (some 2) (.mov (.t 40))])
  (.keep [2] (.ret))))))
theorem k_c_LocksOK_fits : fitsF Try.prog 24 ⟨41, k_c_LocksOK, [.t 2]⟩ = true := by kernel_rfl
theorem c_LocksOK {l : GLocks} (hw0 : l.Held.length ≤ 1048576) (hw1 : l.Waits.length ≤ 1048576) : Con Try.prog noMv 24 [l.av] [] (fun r h => r = bool (locksOK l) ∧ h = []) := by
  refine con_of2 k_c_LocksOK_fits rfl fun C hP hmv => ?_
  unfold k_c_LocksOK
  refine cx_seq ?_
  refine cx_ops ?_
  refine ax_e (e_box rfl rfl (by decide) rfl rfl rfl) ?_
  refine ax_q (q_mov rfl) ?_
  refine ax_nil ?_
  refine cx_keep rfl rfl ?_
  refine cx_seq ?_
  refine cx_seq ?_
  refine cx_ops ?_
  first | refine ax_q (q_fadr_ptr rfl) ?_ | refine ax_q (q_fadr_rptr rfl) ?_ | refine ax_q (q_fadr_ip rfl) ?_
  first | refine ax_q (q_load1_ptr rfl rfl rfl) ?_ | refine ax_q (q_load1_ip rfl) ?_ | refine ax_q (q_load1_rptr rfl rfl (by assumption) rfl) ?_ | refine ax_q (q_load1_rptr rfl rfl (mapAt (by first | assumption | omega)) rfl) ?_
  first | refine ax_q (q_lenS_map rfl) ?_ | refine ax_q (q_lenS_osl rfl) ?_ | refine ax_q (q_lenS_zs rfl) ?_ | refine ax_q (q_lenS rfl) ?_
  refine ax_q (q_mov rfl) ?_
  refine ax_nil ?_
  refine cx_keep rfl rfl ?_
  refine cx_block ?_
  refine cx_loopU (fun n k => k ≤ l.Held.length ∧ n = l.Held.length - k ∧ allIx (okAt l.Held) k = true) (fun k : Nat => [(8, int k)]) (fun _ => [(1, .box [.d (.sl 4 (l.Held.map GLock.row)), .d (.sl 2 (l.Waits.map GWait.row))])]) ⟨_, 0, ⟨Nat.zero_le _, rfl, rfl⟩, by repeat (first | exact trivial | refine ⟨rfl, ?_⟩ | refine ⟨?_, ?_⟩)⟩ ?_
  rintro n k ⟨hk, rfl, ht⟩
  refine cx_seq ?_
  refine cx_ops ?_
  refine ax_q (q_ibin rfl rfl rfl) ?_
  refine ax_nil ?_
  refine cx_keep rfl rfl ?_
  refine cx_seq ?_
  refine cx_cond rfl (fun h0 => ?_) (fun h0 => ?_)
  · have h0 := dT h0
    have h0x : k < l.Held.length := by omega
    refine cx_skip ?_
    refine cx_keep rfl rfl ?_
    refine cx_seq ?_
    refine cx_block ?_
    refine cx_seq ?_
    refine cx_ops ?_
    refine ax_q (q_mov rfl) ?_
    refine ax_q (q_ix rfl rfl (mapAt h0x)) ?_
    first | refine ax_q (q_ldN rfl rfl rfl) ?_ | refine ax_q (q_loadN_ip rfl (Nat.le_refl _)) ?_ | refine ax_q (q_loadN_ip rfl (by decide)) ?_ | refine ax_q (q_loadN_rptr rfl rfl (by assumption) (by decide)) ?_ | refine ax_q (q_loadN_rptr rfl rfl (mapAt (by first | assumption | omega)) (by decide)) ?_
    refine ax_e (e_alloc (by decide) rfl rfl) ?_
    refine ax_q (q_mov rfl) ?_
    refine ax_e (e_st rfl rfl rfl rfl rfl rfl rfl) ?_
    refine ax_nil ?_
    refine cx_keep rfl rfl ?_
    refine cx_seq ?_
    refine cx_ops ?_
    first | refine ax_q (q_ldN rfl rfl rfl) ?_ | refine ax_q (q_loadN_ip rfl (Nat.le_refl _)) ?_ | refine ax_q (q_loadN_ip rfl (by decide)) ?_ | refine ax_q (q_loadN_rptr rfl rfl (by assumption) (by decide)) ?_ | refine ax_q (q_loadN_rptr rfl rfl (mapAt (by first | assumption | omega)) (by decide)) ?_
    first | refine ax_call rfl (vc_pure0 (c_lockOK  ) hP rfl rfl ?_) | refine ax_call rfl (vc_lend0 (c_lockOK  ) hP (by repeat (first | exact lal_id _ rfl | exact LAL.nil | refine LAL.cons ?_ ?_ | exact la_id _ rfl | exact LA.lend (lend_whole rfl (by simp)) | refine LA.agg ?_ | refine LA.fn ?_ | refine LA.lend ?_ | exact Lend.d _ | exact Lend.zs _ | exact lend_whole rfl (by simp) | refine Lend.ptr rfl ?_ | refine Lend.fn ?_ | exact LendL.nil | refine LendL.cons ?_ ?_)) rfl rfl ?_)
    refine ax_q (q_not rfl) ?_
    refine ax_q (q_mov rfl) ?_
    apply ax_or rfl rfl
    · intro g
      have g := bF g
      first | refine ax_q (q_fadr_ptr rfl) ?_ | refine ax_q (q_fadr_rptr rfl) ?_ | refine ax_q (q_fadr_ip rfl) ?_
      first | refine ax_q (q_load1_ptr rfl rfl rfl) ?_ | refine ax_q (q_load1_ip rfl) ?_ | refine ax_q (q_load1_rptr rfl rfl (by assumption) rfl) ?_ | refine ax_q (q_load1_rptr rfl rfl (mapAt (by first | assumption | omega)) rfl) ?_
      refine ax_q (q_mov rfl) ?_
      refine ax_qe (r' := .d (.sl 4 ((l.Held.take k).map GLock.row))) (q_slc rfl rfl rfl (by omega) (by omega) (by simp; omega)) (by simp [List.map_take]) ?_
      refine ax_q (q_mkfn rfl) ?_
      refine ax_call rfl (vc_lend0 (c_ContainsFunc_Lock (xs := l.Held.take k) (ds := [.ip (l.Held[k]).row]) (twice l.Held[k]) (by simp; omega) (by kernel_rfl) (fun s _ => c_LocksOK1)) hP (by repeat (first | exact lal_id _ rfl | exact LAL.nil | refine LAL.cons ?_ ?_ | exact la_id _ rfl | exact LA.lend (lend_whole rfl (by simp)) | refine LA.agg ?_ | refine LA.fn ?_ | refine LA.lend ?_ | exact Lend.d _ | exact Lend.zs _ | exact lend_whole rfl (by simp) | refine Lend.ptr rfl ?_ | refine Lend.fn ?_ | exact LendL.nil | refine LendL.cons ?_ ?_)) rfl rfl ?_)
      exact ax_nil ⟨rfl, by repeat (first | exact trivial | refine ⟨rfl, ?_⟩ | refine ⟨?_, ?_⟩)⟩
    refine ax_nil ?_
    refine cx_keep rfl rfl ?_
    refine cx_cond rfl (fun h1 => ?_) (fun h1 => ?_)
    · have h1 := (fun h => (or_T h).imp bT id) h1
      refine cx_seq ?_
      refine cx_ops ?_
      refine ax_q (q_mov rfl) ?_
      refine ax_nil ?_
      refine cx_keep rfl rfl ?_
      refine cx_ret (ret0 rfl rfl ?_)
      exact ⟨by rw [show locksOK l = false from by unfold locksOK; rw [allIx_no h0x (by rw [okAt_get h0x]; rcases h1 with h1 | h1 <;> rw [h1] <;> simp)]; rfl]; rfl, rfl⟩
    · have h1 := (fun h => And.intro (bF (or_F h).1) (id (or_F h).2)) h1
      refine cx_skip ?_
      refine cx_keep rfl rfl ?_
      refine cx_ops ?_
      refine ax_qe (r' := int ((k + 1 : Nat) : Int)) (q_ibin rfl rfl rfl) (by rw [wi (by omega) (by omega)]; rfl) ?_
      refine ax_q (q_mov rfl) ?_
      refine ax_nil ?_
      have h2 : okAt l.Held k = true := by rw [okAt_get h0x, h1.1, h1.2]; rfl
      exact ⟨_, k + 1, by omega, ⟨by omega, rfl, allIx_step ht h2⟩, by repeat (first | exact trivial | refine ⟨rfl, ?_⟩ | refine ⟨?_, ?_⟩)⟩
  · have h0 := dF h0
    have h0x : k = l.Held.length := by omega
    subst h0x
    refine cx_exit rfl ?_
    refine cx_keep rfl rfl ?_
    refine cx_seq ?_
    refine cx_ops ?_
    first | refine ax_q (q_fadr_ptr rfl) ?_ | refine ax_q (q_fadr_rptr rfl) ?_ | refine ax_q (q_fadr_ip rfl) ?_
    first | refine ax_q (q_load1_ptr rfl rfl rfl) ?_ | refine ax_q (q_load1_ip rfl) ?_ | refine ax_q (q_load1_rptr rfl rfl (by assumption) rfl) ?_ | refine ax_q (q_load1_rptr rfl rfl (mapAt (by first | assumption | omega)) rfl) ?_
    first | refine ax_q (q_lenS_map rfl) ?_ | refine ax_q (q_lenS_osl rfl) ?_ | refine ax_q (q_lenS_zs rfl) ?_ | refine ax_q (q_lenS rfl) ?_
    refine ax_q (q_ibin rfl rfl rfl) ?_
    refine ax_q (q_mov rfl) ?_
    apply ax_and rfl rfl
    · intro g
      have g := dT g
      first | refine ax_q (q_fadr_ptr rfl) ?_ | refine ax_q (q_fadr_rptr rfl) ?_ | refine ax_q (q_fadr_ip rfl) ?_
      first | refine ax_q (q_load1_ptr rfl rfl rfl) ?_ | refine ax_q (q_load1_ip rfl) ?_ | refine ax_q (q_load1_rptr rfl rfl (by assumption) rfl) ?_ | refine ax_q (q_load1_rptr rfl rfl (mapAt (by first | assumption | omega)) rfl) ?_
      first | refine ax_q (q_lenS_map rfl) ?_ | refine ax_q (q_lenS_osl rfl) ?_ | refine ax_q (q_lenS_zs rfl) ?_ | refine ax_q (q_lenS rfl) ?_
      refine ax_q (q_ibin rfl rfl rfl) ?_
      exact ax_nil ⟨rfl, by repeat (first | exact trivial | refine ⟨rfl, ?_⟩ | refine ⟨?_, ?_⟩)⟩
    refine ax_q (q_mov rfl) ?_
    apply ax_and rfl rfl
    · intro g
      have g := (fun h => And.intro (dT (and_T h).1) (dT (and_T h).2)) g
      first | refine ax_q (q_fadr_ptr rfl) ?_ | refine ax_q (q_fadr_rptr rfl) ?_ | refine ax_q (q_fadr_ip rfl) ?_
      first | refine ax_q (q_load1_ptr rfl rfl rfl) ?_ | refine ax_q (q_load1_ip rfl) ?_ | refine ax_q (q_load1_rptr rfl rfl (by assumption) rfl) ?_ | refine ax_q (q_load1_rptr rfl rfl (mapAt (by first | assumption | omega)) rfl) ?_
      refine ax_call rfl (vc_lend0 (c_ContainsFunc_Wait (xs := l.Waits) (ds := []) badWait (by omega) (by kernel_rfl) (fun s _ => c_LocksOK2)) hP (by repeat (first | exact lal_id _ rfl | exact LAL.nil | refine LAL.cons ?_ ?_ | exact la_id _ rfl | exact LA.lend (lend_whole rfl (by simp)) | refine LA.agg ?_ | refine LA.fn ?_ | refine LA.lend ?_ | exact Lend.d _ | exact Lend.zs _ | exact lend_whole rfl (by simp) | refine Lend.ptr rfl ?_ | refine Lend.fn ?_ | exact LendL.nil | refine LendL.cons ?_ ?_)) rfl rfl ?_)
      refine ax_q (q_not rfl) ?_
      exact ax_nil ⟨rfl, by repeat (first | exact trivial | refine ⟨rfl, ?_⟩ | refine ⟨?_, ?_⟩)⟩
    refine ax_q (q_mov rfl) ?_
    refine ax_nil ?_
    refine cx_keep rfl rfl ?_
    refine cx_ret (ret0 rfl rfl ?_)
    exact ⟨by unfold locksOK; rw [ht]; rfl, rfl⟩


/- slices.Clone[[]loop.example/g00332/impl.Lock,loop.example/g00332/impl.Lock] -/
def k_c_Clone_Lock : XCode :=
  .seq (.ops [.op (some 2) (.mov (.k (.nils 4)))])
  (.keep [0] (.seq (.seq (.ops [.op (some 3) (.mov (.t 0)),
      .op (some 4) (.eqn false (.t 3))])
   (.keep [0, 4] (.cond (.t 4)
    (.seq (.ops [.op (some 2) (.mov (.k (.nils 4)))])
     (.keep [2] (.ret)))
    (.skip))))
  (.keep [0] (.seq (.ops [.op (some 5) (.bslice 4 []),
     .op (some 6) (.mov (.t 0)),
     .op (some 7) (.app 4 32 [.int .i64 0, .int .i64 0, .int .i64 0, .int .i64 0] (.t 5) (.t 6)),
     .op (some 2) (.mov (.t 7))])
  (.keep [2] (.ret))))))
theorem k_c_Clone_Lock_fits : fitsF Try.prog 36 ⟨8, k_c_Clone_Lock, [.t 2]⟩ = true := by kernel_rfl
theorem c_Clone_Lock {xs : List GLock} (hw : xs.length ≤ 1048576) : Con Try.prog noMv 36 [.d (.sl 4 (xs.map GLock.row))] [] (fun r h => r = .osl 0 4 0 xs.length ∧ h = [(0, .rows 4 (xs.map GLock.row))]) := by
  refine con_of2 k_c_Clone_Lock_fits rfl fun C hP hmv => ?_
  unfold k_c_Clone_Lock
  refine cx_seq ?_
  refine cx_ops ?_
  refine ax_q (q_mov rfl) ?_
  refine ax_nil ?_
  refine cx_keep rfl rfl ?_
  refine cx_seq ?_
  refine cx_seq ?_
  refine cx_ops ?_
  refine ax_q (q_mov rfl) ?_
  refine ax_eqn_sl rfl (fun b hb => ?_)
  refine ax_nil ?_
  refine cx_keep rfl rfl ?_
  refine cx_cond rfl (fun h0 => ?_) (fun h0 => ?_)
  · skip
    refine cx_seq ?_
    refine cx_ops ?_
    refine ax_q (q_mov rfl) ?_
    refine ax_nil ?_
    refine cx_keep rfl rfl ?_
    have hx : xs = [] := List.map_eq_nil_iff.1 (hb h0)
    subst hx
    refine cx_wk (wk_virt 900 4 rfl rfl rfl) ?_
    refine cx_wk (wk_zs 2 900 [] rfl rfl) ?_
    refine cx_ret (retN (fun _ => 0) [900] rfl rfl rfl rfl rfl ?_)
    exact ⟨rfl, rfl⟩
  · skip
    refine cx_skip ?_
    refine cx_keep rfl rfl ?_
    refine cx_seq ?_
    refine cx_ops ?_
    refine ax_e (e_bslice rfl (by decide) rfl rfl) ?_
    refine ax_q (q_mov rfl) ?_
    refine ax_e (e_app_osl rfl rfl (Nat.le_refl _) rfl (src_sl 4 _) (.inl (by decide)) (by simp only [List.length_map, List.length_nil]; omega)) ?_
    refine ax_q (q_mov rfl) ?_
    refine ax_nil ?_
    refine cx_keep rfl rfl ?_
    refine cx_ret (retN (fun _ => 0) [5] rfl rfl rfl rfl rfl ?_)
    exact ⟨by simp [renA, mkRes], by simp [renOs, renO]⟩


/- slices.Clone[[]loop.example/g00332/impl.Wait,loop.example/g00332/impl.Wait] -/
def k_c_Clone_Wait : XCode :=
  .seq (.ops [.op (some 2) (.mov (.k (.nils 2)))])
  (.keep [0] (.seq (.seq (.ops [.op (some 3) (.mov (.t 0)),
      .op (some 4) (.eqn false (.t 3))])
   (.keep [0, 4] (.cond (.t 4)
    (.seq (.ops [.op (some 2) (.mov (.k (.nils 2)))])
     (.keep [2] (.ret)))
    (.skip))))
  (.keep [0] (.seq (.ops [.op (some 5) (.bslice 2 []),
     .op (some 6) (.mov (.t 0)),
     .op (some 7) (.app 2 16 [.int .i64 0, .int .i64 0] (.t 5) (.t 6)),
     .op (some 2) (.mov (.t 7))])
  (.keep [2] (.ret))))))
theorem k_c_Clone_Wait_fits : fitsF Try.prog 66 ⟨8, k_c_Clone_Wait, [.t 2]⟩ = true := by kernel_rfl
theorem c_Clone_Wait {xs : List GWait} (hw : xs.length ≤ 1048576) : Con Try.prog noMv 66 [.d (.sl 2 (xs.map GWait.row))] [] (fun r h => r = .osl 0 2 0 xs.length ∧ h = [(0, .rows 2 (xs.map GWait.row))]) := by
  refine con_of2 k_c_Clone_Wait_fits rfl fun C hP hmv => ?_
  unfold k_c_Clone_Wait
  refine cx_seq ?_
  refine cx_ops ?_
  refine ax_q (q_mov rfl) ?_
  refine ax_nil ?_
  refine cx_keep rfl rfl ?_
  refine cx_seq ?_
  refine cx_seq ?_
  refine cx_ops ?_
  refine ax_q (q_mov rfl) ?_
  refine ax_eqn_sl rfl (fun b hb => ?_)
  refine ax_nil ?_
  refine cx_keep rfl rfl ?_
  refine cx_cond rfl (fun h0 => ?_) (fun h0 => ?_)
  · skip
    refine cx_seq ?_
    refine cx_ops ?_
    refine ax_q (q_mov rfl) ?_
    refine ax_nil ?_
    refine cx_keep rfl rfl ?_
    have hx : xs = [] := List.map_eq_nil_iff.1 (hb h0)
    subst hx
    refine cx_wk (wk_virt 900 2 rfl rfl rfl) ?_
    refine cx_wk (wk_zs 2 900 [] rfl rfl) ?_
    refine cx_ret (retN (fun _ => 0) [900] rfl rfl rfl rfl rfl ?_)
    exact ⟨rfl, rfl⟩
  · skip
    refine cx_skip ?_
    refine cx_keep rfl rfl ?_
    refine cx_seq ?_
    refine cx_ops ?_
    refine ax_e (e_bslice rfl (by decide) rfl rfl) ?_
    refine ax_q (q_mov rfl) ?_
    refine ax_e (e_app_osl rfl rfl (Nat.le_refl _) rfl (src_sl 2 _) (.inl (by decide)) (by simp only [List.length_map, List.length_nil]; omega)) ?_
    refine ax_q (q_mov rfl) ?_
    refine ax_nil ?_
    refine cx_keep rfl rfl ?_
    refine cx_ret (retN (fun _ => 0) [5] rfl rfl rfl rfl rfl ?_)
    exact ⟨by simp [renA, mkRes], by simp [renOs, renO]⟩


/- (loop.example/g00332/impl.Locks).clone -/
def k_c_cloneL : XCode :=
  .seq (.ops [.op (some 1) (.box (.t 0)),
     .op (some 2) (.alloc [.nils 4, .nils 2])])
  (.keep [1, 2] (.seq (.drawE [[], [0], [0, 1], [], [3], [0, 1, 2, 3, 4], [0, 1, 2, 3, 4, 5], [0, 1, 2, 3, 4, 5, 6]] [.op (some 3) (.fadr (.t 1) 0),
     .op (some 4) (.load1 (.t 3)),
     .call (some 5) 36 [.t 4],
     .op (some 6) (.fadr (.t 1) 1),
     .op (some 7) (.load1 (.t 6))]
    [.call (some 8) 66 [.t 7],
     .op (some 9) (.build [.nils 4, .nils 2] [(0, 1, .t 5), (1, 1, .t 8)]),
     .op none (.store 2 (.t 2) (.t 9))])
  (.keep [2] (.ret))))
theorem k_c_cloneL_fits : fitsF Try.prog 30 ⟨10, k_c_cloneL, [.cN 2 2]⟩ = true := by kernel_rfl
theorem c_cloneL {l : GLocks} (hw0 : l.Held.length ≤ 1048576) (hw1 : l.Waits.length ≤ 1048576) : Con Try.prog noMv 30 [l.av] [] (fun r h => r = l.avO 0 1 ∧ h = l.hO 0 1) := by
  refine con_of2 k_c_cloneL_fits rfl fun C hP hmv => ?_
  unfold k_c_cloneL
  refine cx_seq ?_
  refine cx_ops ?_
  refine ax_e (e_box rfl rfl (by decide) rfl rfl rfl) ?_
  refine ax_e (e_alloc (by decide) rfl rfl) ?_
  refine ax_nil ?_
  refine cx_keep rfl rfl ?_
  refine cx_seq ?_
  refine cx_drawE ?_
  first | refine ⟨_, loc_q (q_fadr_ptr rfl), ?_⟩ | refine ⟨_, loc_q (q_fadr_rptr rfl), ?_⟩ | refine ⟨_, loc_q (q_fadr_ip rfl), ?_⟩
  first | refine ⟨_, loc_q (q_load1_ptr rfl rfl rfl), ?_⟩ | refine ⟨_, loc_q (q_load1_ip rfl), ?_⟩ | refine ⟨_, loc_q (q_load1_rptr rfl rfl (by assumption) rfl), ?_⟩ | refine ⟨_, loc_q (q_load1_rptr rfl rfl (mapAt (by first | assumption | omega)) rfl), ?_⟩
  first | refine ⟨_, loc_call (fun i => 5 + 200 * i) false rfl (c_Clone_Lock  (by first | assumption | omega | (simp; done) | (simp; omega))) hP (.inr ⟨rfl, rfl, rfl⟩) rfl rfl (fun h => by cases h), ?_⟩ | refine ⟨_, loc_call (fun i => 5 + 200 * i) true rfl (c_Clone_Lock  (by first | assumption | omega | (simp; done) | (simp; omega))) hP (.inl ⟨rfl, (by repeat (first | exact lal_id _ rfl | exact LAL.nil | refine LAL.cons ?_ ?_ | exact la_id _ rfl | exact LA.lend (lend_whole rfl (by simp)) | refine LA.agg ?_ | refine LA.fn ?_ | refine LA.lend ?_ | exact Lend.d _ | exact Lend.zs _ | exact lend_whole rfl (by simp) | refine Lend.ptr rfl ?_ | refine Lend.fn ?_ | exact LendL.nil | refine LendL.cons ?_ ?_))⟩) rfl rfl (fun _ => ⟨rfl, noisl_of (by repeat (first | exact trivial | refine ⟨noisl_map (fun _ => rfl), ?_⟩ | refine ⟨?_, ?_⟩))⟩), ?_⟩
  first | refine ⟨_, loc_q (q_fadr_ptr rfl), ?_⟩ | refine ⟨_, loc_q (q_fadr_rptr rfl), ?_⟩ | refine ⟨_, loc_q (q_fadr_ip rfl), ?_⟩
  first | refine ⟨_, loc_q (q_load1_ptr rfl rfl rfl), ?_⟩ | refine ⟨_, loc_q (q_load1_ip rfl), ?_⟩ | refine ⟨_, loc_q (q_load1_rptr rfl rfl (by assumption) rfl), ?_⟩ | refine ⟨_, loc_q (q_load1_rptr rfl rfl (mapAt (by first | assumption | omega)) rfl), ?_⟩
  refine ⟨rfl, ?_⟩
  first | refine ax_call rfl (vc_pure (c_Clone_Wait  ?_) hP rfl ?_) | refine ax_call rfl (vc_lend (c_Clone_Wait  ?_) hP (by repeat (first | exact lal_id _ rfl | exact LAL.nil | refine LAL.cons ?_ ?_ | exact la_id _ rfl | exact LA.lend (lend_whole rfl (by simp)) | refine LA.agg ?_ | refine LA.fn ?_ | refine LA.lend ?_ | exact Lend.d _ | exact Lend.zs _ | exact lend_whole rfl (by simp) | refine Lend.ptr rfl ?_ | refine Lend.fn ?_ | exact LendL.nil | refine LendL.cons ?_ ?_)) ?_)
  · first | assumption | omega | (simp; done) | (simp; omega)
  rintro r h ⟨rfl, rfl⟩
  refine ⟨fun i => 8 + 200 * i, [0], ⟨rfl, rfl, rfl, rfl, rfl, (by first | exact (fun h => absurd h Bool.false_ne_true) | exact (fun _ => ⟨rfl, (noisl_of (by repeat (first | exact trivial | refine ⟨noisl_map (fun _ => rfl), ?_⟩ | refine ⟨?_, ?_⟩)))⟩))⟩, ?_⟩
  skip
  refine ax_q (q_build rfl) ?_
  refine ax_e (e_st rfl rfl rfl rfl rfl rfl rfl) ?_
  refine ax_nil ?_
  refine cx_keep rfl rfl ?_
  refine cx_ret (retN (fun e => bif Nat.beq e 8 then 1 else 0) [5, 8] rfl rfl rfl rfl rfl ?_)
  exact ⟨rfl, rfl⟩


/- slices.DeleteFunc[[]loop.example/g00332/impl.Lock,loop.example/g00332/impl.Lock] -/
def k_c_DeleteFunc_Lock : XCode :=
  .seq (.ops [.op (some 4) (.mov (.k (.nils 4)))])
  (.keep [0, 1] (.seq (.ops [.op (some 8) (.mov (.t 0)),
     .op (some 9) (.mov (.t 1)),
     .call (some 10) 71 [.t 8, .t 9],
     .op (some 5) (.mov (.t 10))])
  (.keep [0, 1, 5] (.seq (.seq (.ops [.op (some 11) (.mov (.t 5)),
      .op (some 12) (.bin .eql (.t 11) (.k (.int .i64 (-1))))])
   (.keep [0, 1, 5, 12] (.cond (.t 12)
    (.seq (.ops [.op (some 13) (.mov (.t 0)),
        .op (some 4) (.mov (.t 13))])
     (.keep [4] (.ret)))
    (.skip))))
  (.keep [0, 1, 5] (.seq (.seq (.ops [.op (some 14) (.mov (.t 5)),
      .op (some 15) (.bin .add (.t 14) (.k (.int .i64 1))),
      .op (some 6) (.mov (.t 15))])
   (.keep [0, 1, 5, 6] (.block 0 (.loop (.seq (.seq (.ops [.op (some 16) (.mov (.t 6)),
         .op (some 17) (.mov (.t 0)),
         .op (some 18) (.lenS (.t 17)),
         .op (some 19) (.bin .lss (.t 16) (.t 18))])
      (.keep [0, 1, 5, 6, 19] (.cond (.t 19)
       (.skip)
       (.exit 0))))
     (.keep [0, 1, 5, 6] (.seq (.block 1 (.seq (.ops [.op (some 22) (.mov (.t 0)),
          .op (some 23) (.mov (.t 6)),
          .op (some 24) (.iadr 4 (.t 22) (.t 23)),
          .op (some 25) (.loadN 4 (.t 24)),
          .op (some 7) (.alloc [.int .i64 0, .int .i64 0, .int .i64 0, .int .i64 0]),
          .op none (.store 4 (.t 7) (.t 25))])
       (.keep [0, 1, 5, 6, 7] (.seq (.ops [.op (some 26) (.mov (.t 1)),
          .op (some 27) (.loadN 4 (.t 7)),
          .callv (some 28) (.t 26) [.t 27],
          .op (some 29) (.not (.t 28))])
       (.keep [0, 1, 5, 6, 7, 29] (.cond (.t 29)
        (.seq (.ops [.op (some 30) (.mov (.t 0)),
            .op (some 31) (.mov (.t 5)),
            .op (some 32) (.loadN 4 (.t 7)),
            .op (some 33) (.iadr 4 (.t 30) (.t 31)),
            .op none (.store 4 (.t 33) (.t 32))])
         (.keep [0, 1, 5, 6] (.ops [.op (some 34) (.mov (.t 5)),
           .op (some 35) (.bin .add (.t 34) (.k (.int .i64 1))),
           .op (some 5) (.mov (.t 35))])))
        (.skip)))))))
     (.keep [0, 1, 5, 6] (.ops [.op (some 20) (.mov (.t 6)),
       .op (some 21) (.bin .add (.t 20) (.k (.int .i64 1))),
       .op (some 6) (.mov (.t 21))])))))))))
  (.keep [0, 5] (.seq (.ops [.op (some 36) (.mov (.t 0)),
     .op (some 37) (.mov (.t 5)),
     .op (some 38) (.slc 4 (.t 36) (some (.t 37)) none none),
     .op none (.clr 4 [.int .i64 0, .int .i64 0, .int .i64 0, .int .i64 0] (.t 38))])
  (.keep [0, 5] (.seq (.ops [.op (some 39) (.mov (.t 0)),
     .op (some 40) (.mov (.t 5)),
     .op (some 41) (.slc 4 (.t 39) none (some (.t 40)) none),
     .op (some 4) (.mov (.t 41))])
  (.keep [4] (.ret))))))))))))
theorem k_c_DeleteFunc_Lock_fits : fitsF Try.prog 35 ⟨42, k_c_DeleteFunc_Lock, [.t 4]⟩ = true := by kernel_rfl
theorem c_DeleteFunc_Lock {xs : List GLock} {f : Nat} {ds : List D} (p : GLock → Bool) (hw : xs.length ≤ 1048576) (hb : hasBody Try.prog f = true) (hf : ∀ s ∈ xs, Con Try.prog noMv f (s.av :: ds.map AV.d) [] (fun r h => r = bool (p s) ∧ h = [])) : Con Try.prog noMv 35 [.osl 1000 4 0 xs.length, .d (.fn (.func f) ds)] [(1000, .rows 4 (xs.map GLock.row))] (fun r h => r = .osl 1000 4 0 (xs.filter (fun x => !p x)).length ∧ h = [(1000, .rows 4 ((xs.filter (fun x => !p x)).map GLock.row))]) := by
  refine con_of2 k_c_DeleteFunc_Lock_fits rfl fun C hP hmv => ?_
  unfold k_c_DeleteFunc_Lock
  refine cx_seq ?_
  refine cx_ops ?_
  refine ax_q (q_mov rfl) ?_
  refine ax_nil ?_
  refine cx_keep rfl rfl ?_
  refine cx_seq ?_
  refine cx_ops ?_
  refine ax_q (q_mov rfl) ?_
  refine ax_q (q_mov rfl) ?_
  refine ax_call rfl (vc_lend0 (c_IndexFunc_Lock (xs := xs) p (by omega) hb hf) hP (.cons (.lend (lend_whole rfl (by simp))) (.cons (.d _) .nil)) rfl rfl ?_)
  refine ax_q (q_mov rfl) ?_
  refine ax_nil ?_
  refine cx_keep rfl rfl ?_
  refine cx_seq ?_
  refine cx_seq ?_
  refine cx_ops ?_
  refine ax_q (q_mov rfl) ?_
  refine ax_q (q_ibin rfl rfl rfl) ?_
  refine ax_nil ?_
  refine cx_keep rfl rfl ?_
  refine cx_cond rfl (fun h0 => ?_) (fun h0 => ?_)
  · have h0 := dT h0
    refine cx_seq ?_
    refine cx_ops ?_
    refine ax_q (q_mov rfl) ?_
    refine ax_q (q_mov rfl) ?_
    refine ax_nil ?_
    refine cx_keep rfl rfl ?_
    have e := filter_all (idxOf_neg h0)
    refine cx_ret (retN id [1000] rfl rfl rfl rfl rfl ?_)
    rw [e]
    exact ⟨rfl, rfl⟩
  · have h0 := dF h0
    obtain ⟨i, hi0, hi, hpi, hbi⟩ := idxOf_some h0
    obtain ⟨e1, e2⟩ := strk_first hi hpi hbi
    have e3 : ((xs.take (i + 1)).filter (fun x => !p x)).length = i := by rw [e2, List.length_take]; omega
    rw [hi0]
    refine cx_skip ?_
    refine cx_keep rfl rfl ?_
    refine cx_seq ?_
    refine cx_seq ?_
    refine cx_ops ?_
    refine ax_q (q_mov rfl) ?_
    refine ax_qe (r' := int ((i + 1 : Nat) : Int)) (q_ibin rfl rfl rfl) (by rw [wi (by omega) (by omega)]; rfl) ?_
    refine ax_q (q_mov rfl) ?_
    refine ax_nil ?_
    refine cx_keep rfl rfl ?_
    refine cx_block ?_
    refine cx_loopU (fun n (s : Nat × List GLock) => s.1 ≤ xs.length ∧ n = xs.length - s.1 ∧ ((xs.take s.1).filter (fun x => !p x)).length + s.2.length = s.1 ∧ 0 < s.2.length) (fun s => [(5, int ((xs.take s.1).filter (fun x => !p x)).length), (6, int s.1)]) (fun s => [(1000, .rows 4 ((strk p xs s.1 s.2).map GLock.row))])
      ⟨_, (i + 1, [xs[i]]), ⟨by simp only; omega, rfl, by simp only [e3, List.length_singleton], by simp⟩, by rw [e3, e1]; exact by repeat (first | exact trivial | refine ⟨rfl, ?_⟩ | refine ⟨?_, ?_⟩)⟩ ?_
    rintro n ⟨j, mid⟩ ⟨hj, rfl, hm, hm0⟩
    simp only at hj hm hm0 ⊢
    have hsl := strk_len hm hj
    refine cx_seq ?_
    refine cx_seq ?_
    refine cx_ops ?_
    refine ax_q (q_mov rfl) ?_
    refine ax_q (q_mov rfl) ?_
    first | refine ax_q (q_lenS_map rfl) ?_ | refine ax_q (q_lenS_osl rfl) ?_ | refine ax_q (q_lenS_zs rfl) ?_ | refine ax_q (q_lenS rfl) ?_
    refine ax_q (q_ibin rfl rfl rfl) ?_
    refine ax_nil ?_
    refine cx_keep rfl rfl ?_
    refine cx_cond rfl (fun h1 => ?_) (fun h1 => ?_)
    · have h1 := dT h1
      have h1x : j < xs.length := by omega
      refine cx_skip ?_
      refine cx_keep rfl rfl ?_
      refine cx_seq ?_
      refine cx_block ?_
      refine cx_seq ?_
      refine cx_ops ?_
      refine ax_q (q_mov rfl) ?_
      refine ax_q (q_mov rfl) ?_
      refine ax_q (q_ixo rfl rfl (by omega)) ?_
      refine ax_q (q_loadN_rptr rfl rfl (show ((strk p xs j mid).map GLock.row)[j]? = some (GLock.row xs[j]) from by rw [List.getElem?_map, strk_at hm h1x]; rfl) (by decide)) ?_
      refine ax_e (e_alloc (by decide) rfl rfl) ?_
      refine ax_e (e_st rfl rfl rfl rfl rfl rfl rfl) ?_
      refine ax_nil ?_
      refine cx_keep rfl rfl ?_
      refine cx_seq ?_
      refine cx_ops ?_
      refine ax_q (q_mov rfl) ?_
      first | refine ax_q (q_ldN rfl rfl rfl) ?_ | refine ax_q (q_loadN_ip rfl (Nat.le_refl _)) ?_ | refine ax_q (q_loadN_ip rfl (by decide)) ?_ | refine ax_q (q_loadN_rptr rfl rfl (by assumption) (by decide)) ?_ | refine ax_q (q_loadN_rptr rfl rfl (mapAt (by first | assumption | omega)) (by decide)) ?_
      refine ax_callvD rfl (by rw [hP]; exact hb) rfl (vc_pure0 (hf _ (List.getElem_mem h1x)) hP (refs_cons rfl ds) rfl ?_)
      refine ax_q (q_not rfl) ?_
      refine ax_nil ?_
      refine cx_keep rfl rfl ?_
      refine cx_cond rfl (fun h2 => ?_) (fun h2 => ?_)
      · have h2 := bT h2
        obtain ⟨m, mid, rfl⟩ : ∃ m r, mid = m :: r := ⟨mid.head (by intro h; rw [h] at hm0; simp at hm0), mid.tail, by simp⟩
        have e6 : ((xs.take (j + 1)).filter (fun x => !p x)).length = ((xs.take j).filter (fun x => !p x)).length + 1 := by rw [take_filter_keep h1x h2, List.length_append]; rfl
        have hml : (m :: mid).length = mid.length + 1 := rfl
        have hq : ((xs.take j).filter (fun x => !p x)).length < xs.length := by omega
        have e5 := strk_set (row := GLock.row) (m := m) (mid := mid) h1x h2 rfl
        refine cx_seq ?_
        refine cx_ops ?_
        refine ax_q (q_mov rfl) ?_
        refine ax_q (q_mov rfl) ?_
        first | refine ax_q (q_ldN rfl rfl rfl) ?_ | refine ax_q (q_loadN_ip rfl (Nat.le_refl _)) ?_ | refine ax_q (q_loadN_ip rfl (by decide)) ?_ | refine ax_q (q_loadN_rptr rfl rfl (by assumption) (by decide)) ?_ | refine ax_q (q_loadN_rptr rfl rfl (mapAt (by first | assumption | omega)) (by decide)) ?_
        refine ax_q (q_ixo rfl rfl hq) ?_
        refine ax_e (e_str (q := GLock.row xs[j]) (row := GLock.row (strk p xs j (m :: mid))[((xs.take j).filter (fun x => !p x)).length]) rfl rfl rfl rfl rfl rfl (mapAt (by rw [hsl]; exact hq)) rfl rfl e5) ?_
        refine ax_nil ?_
        refine cx_keep rfl rfl ?_
        refine cx_ops ?_
        refine ax_q (q_mov rfl) ?_
        refine ax_qe (r' := int ((((xs.take j).filter (fun x => !p x)).length + 1 : Nat) : Int)) (q_ibin rfl rfl rfl) (by rw [wi (by omega) (by omega)]; rfl) ?_
        refine ax_q (q_mov rfl) ?_
        refine ax_nil ?_
        refine cx_keep rfl rfl ?_
        refine cx_ops ?_
        refine ax_q (q_mov rfl) ?_
        refine ax_qe (r' := int ((j + 1 : Nat) : Int)) (q_ibin rfl rfl rfl) (by rw [wi (by omega) (by omega)]; rfl) ?_
        refine ax_q (q_mov rfl) ?_
        refine ax_nil ?_
        exact ⟨_, (j + 1, mid ++ [xs[j]]), by simp only; omega, ⟨by simp only; omega, rfl, by simp only [e6, List.length_append, List.length_singleton]; omega, by simp⟩, by simp only [e6]; exact by repeat (first | exact trivial | refine ⟨rfl, ?_⟩ | refine ⟨?_, ?_⟩)⟩
      · have h2 := bF h2
        have e6 : ((xs.take (j + 1)).filter (fun x => !p x)).length = ((xs.take j).filter (fun x => !p x)).length := by rw [take_filter_drop h1x h2]
        have e5 := strk_drop (mid := mid) h1x h2
        rw [e5]
        refine cx_skip ?_
        refine cx_keep rfl rfl ?_
        refine cx_ops ?_
        refine ax_q (q_mov rfl) ?_
        refine ax_qe (r' := int ((j + 1 : Nat) : Int)) (q_ibin rfl rfl rfl) (by rw [wi (by omega) (by omega)]; rfl) ?_
        refine ax_q (q_mov rfl) ?_
        refine ax_nil ?_
        exact ⟨_, (j + 1, mid ++ [xs[j]]), by simp only; omega, ⟨by simp only; omega, rfl, by simp only [e6, List.length_append, List.length_singleton]; omega, by simp⟩, by simp only [e6]; exact by repeat (first | exact trivial | refine ⟨rfl, ?_⟩ | refine ⟨?_, ?_⟩)⟩
    · have h1 := dF h1
      have h1x : j = xs.length := by omega
      subst h1x
      rw [List.take_length] at hm ⊢
      refine cx_exit rfl ?_
      refine cx_keep rfl rfl ?_
      refine cx_seq ?_
      refine cx_ops ?_
      refine ax_q (q_mov rfl) ?_
      refine ax_q (q_mov rfl) ?_
      refine ax_qe (r' := .osl 1000 4 (xs.filter (fun x => !p x)).length (xs.length - (xs.filter (fun x => !p x)).length)) (q_slc_osl rfl rfl rfl (by omega) (by omega) (by omega)) (oslE (by omega) (by omega)) ?_
      refine ax_ee (e_clr (row := [.int .i64 0, .int .i64 0, .int .i64 0, .int .i64 0]) rfl rfl (by rw [List.length_map, hsl]; omega) rfl) rfl ?_
      refine ax_nil ?_
      refine cx_keep rfl rfl ?_
      refine cx_seq ?_
      refine cx_ops ?_
      refine ax_q (q_mov rfl) ?_
      refine ax_q (q_mov rfl) ?_
      refine ax_qe (r' := .osl 1000 4 0 (xs.filter (fun x => !p x)).length) (q_slc_osl rfl rfl rfl (by omega) (by omega) (by omega)) (oslE (by omega) (by omega)) ?_
      refine ax_q (q_mov rfl) ?_
      refine ax_nil ?_
      refine cx_keep rfl rfl ?_
      refine cx_wk (wk_rows 1000 (rs' := (xs.filter (fun x => !p x)).map GLock.row) rfl (strk_end hm)) ?_
      refine cx_ret (retN id [1000] rfl rfl rfl rfl rfl ?_)
      exact ⟨rfl, rfl⟩


/- (ptr loop.example/g00332/impl.Locks).free$1 -/
def k_c_free1 : XCode :=
  .seq (.ops [.op (some 2) (.box (.t 0)),
     .op (some 3) (.mov (.k (.bool false)))])
  (.keep [1, 2] (.seq (.ops [.op (some 4) (.fadr (.t 2) 0),
     .op (some 5) (.load1 (.t 4)),
     .op (some 6) (.load1 (.t 1)),
     .op (some 7) (.bin .eql (.t 5) (.t 6)),
     .op (some 3) (.mov (.t 7))])
  (.keep [3] (.ret))))
theorem k_c_free1_fits : fitsF Try.prog 67 ⟨8, k_c_free1, [.t 3]⟩ = true := by kernel_rfl
theorem c_free1 {a : GLock} {tx : Int} : Con Try.prog noMv 67 [a.av, .d (.ip [.int .i64 tx])] [] (fun r h => r = bool (decide (a.Tx = tx)) ∧ h = []) := by
  refine con_of2 k_c_free1_fits rfl fun C hP hmv => ?_
  unfold k_c_free1
  refine cx_seq ?_
  refine cx_ops ?_
  refine ax_e (e_box rfl rfl (by decide) rfl rfl rfl) ?_
  refine ax_q (q_mov rfl) ?_
  refine ax_nil ?_
  refine cx_keep rfl rfl ?_
  refine cx_seq ?_
  refine cx_ops ?_
  first | refine ax_q (q_fadr_ptr rfl) ?_ | refine ax_q (q_fadr_rptr rfl) ?_ | refine ax_q (q_fadr_ip rfl) ?_
  first | refine ax_q (q_load1_ptr rfl rfl rfl) ?_ | refine ax_q (q_load1_ip rfl) ?_ | refine ax_q (q_load1_rptr rfl rfl (by assumption) rfl) ?_ | refine ax_q (q_load1_rptr rfl rfl (mapAt (by first | assumption | omega)) rfl) ?_
  first | refine ax_q (q_load1_ptr rfl rfl rfl) ?_ | refine ax_q (q_load1_ip rfl) ?_ | refine ax_q (q_load1_rptr rfl rfl (by assumption) rfl) ?_ | refine ax_q (q_load1_rptr rfl rfl (mapAt (by first | assumption | omega)) rfl) ?_
  refine ax_q (q_ibin rfl rfl rfl) ?_
  refine ax_q (q_mov rfl) ?_
  refine ax_nil ?_
  refine cx_keep rfl rfl ?_
  refine cx_ret (ret0 rfl rfl ?_)
  exact ⟨rfl, rfl⟩


/- slices.DeleteFunc[[]loop.example/g00332/impl.Wait,loop.example/g00332/impl.Wait] -/
def k_c_DeleteFunc_Wait : XCode :=
  .seq (.ops [.op (some 4) (.mov (.k (.nils 2)))])
  (.keep [0, 1] (.seq (.ops [.op (some 8) (.mov (.t 0)),
     .op (some 9) (.mov (.t 1)),
     .call (some 10) 85 [.t 8, .t 9],
     .op (some 5) (.mov (.t 10))])
  (.keep [0, 1, 5] (.seq (.seq (.ops [.op (some 11) (.mov (.t 5)),
      .op (some 12) (.bin .eql (.t 11) (.k (.int .i64 (-1))))])
   (.keep [0, 1, 5, 12] (.cond (.t 12)
    (.seq (.ops [.op (some 13) (.mov (.t 0)),
        .op (some 4) (.mov (.t 13))])
     (.keep [4] (.ret)))
    (.skip))))
  (.keep [0, 1, 5] (.seq (.seq (.ops [.op (some 14) (.mov (.t 5)),
      .op (some 15) (.bin .add (.t 14) (.k (.int .i64 1))),
      .op (some 6) (.mov (.t 15))])
   (.keep [0, 1, 5, 6] (.block 0 (.loop (.seq (.seq (.ops [.op (some 16) (.mov (.t 6)),
         .op (some 17) (.mov (.t 0)),
         .op (some 18) (.lenS (.t 17)),
         .op (some 19) (.bin .lss (.t 16) (.t 18))])
      (.keep [0, 1, 5, 6, 19] (.cond (.t 19)
       (.skip)
       (.exit 0))))
     (.keep [0, 1, 5, 6] (.seq (.block 1 (.seq (.ops [.op (some 22) (.mov (.t 0)),
          .op (some 23) (.mov (.t 6)),
          .op (some 24) (.iadr 2 (.t 22) (.t 23)),
          .op (some 25) (.loadN 2 (.t 24)),
          .op (some 7) (.alloc [.int .i64 0, .int .i64 0]),
          .op none (.store 2 (.t 7) (.t 25))])
       (.keep [0, 1, 5, 6, 7] (.seq (.ops [.op (some 26) (.mov (.t 1)),
          .op (some 27) (.loadN 2 (.t 7)),
          .callv (some 28) (.t 26) [.t 27],
          .op (some 29) (.not (.t 28))])
       (.keep [0, 1, 5, 6, 7, 29] (.cond (.t 29)
        (.seq (.ops [.op (some 30) (.mov (.t 0)),
            .op (some 31) (.mov (.t 5)),
            .op (some 32) (.loadN 2 (.t 7)),
            .op (some 33) (.iadr 2 (.t 30) (.t 31)),
            .op none (.store 2 (.t 33) (.t 32))])
         (.keep [0, 1, 5, 6] (.ops [.op (some 34) (.mov (.t 5)),
           .op (some 35) (.bin .add (.t 34) (.k (.int .i64 1))),
           .op (some 5) (.mov (.t 35))])))
        (.skip)))))))
     (.keep [0, 1, 5, 6] (.ops [.op (some 20) (.mov (.t 6)),
       .op (some 21) (.bin .add (.t 20) (.k (.int .i64 1))),
       .op (some 6) (.mov (.t 21))])))))))))
  (.keep [0, 5] (.seq (.ops [.op (some 36) (.mov (.t 0)),
     .op (some 37) (.mov (.t 5)),
     .op (some 38) (.slc 2 (.t 36) (some (.t 37)) none none),
     .op none (.clr 2 [.int .i64 0, .int .i64 0] (.t 38))])
  (.keep [0, 5] (.seq (.ops [.op (some 39) (.mov (.t 0)),
     .op (some 40) (.mov (.t 5)),
     .op (some 41) (.slc 2 (.t 39) none (some (.t 40)) none),
     .op (some 4) (.mov (.t 41))])
  (.keep [4] (.ret))))))))))))
theorem k_c_DeleteFunc_Wait_fits : fitsF Try.prog 68 ⟨42, k_c_DeleteFunc_Wait, [.t 4]⟩ = true := by kernel_rfl
theorem c_DeleteFunc_Wait {xs : List GWait} {f : Nat} {ds : List D} (p : GWait → Bool) (hw : xs.length ≤ 1048576) (hb : hasBody Try.prog f = true) (hf : ∀ s ∈ xs, Con Try.prog noMv f (s.av :: ds.map AV.d) [] (fun r h => r = bool (p s) ∧ h = [])) : Con Try.prog noMv 68 [.osl 1000 2 0 xs.length, .d (.fn (.func f) ds)] [(1000, .rows 2 (xs.map GWait.row))] (fun r h => r = .osl 1000 2 0 (xs.filter (fun x => !p x)).length ∧ h = [(1000, .rows 2 ((xs.filter (fun x => !p x)).map GWait.row))]) := by
  refine con_of2 k_c_DeleteFunc_Wait_fits rfl fun C hP hmv => ?_
  unfold k_c_DeleteFunc_Wait
  refine cx_seq ?_
  refine cx_ops ?_
  refine ax_q (q_mov rfl) ?_
  refine ax_nil ?_
  refine cx_keep rfl rfl ?_
  refine cx_seq ?_
  refine cx_ops ?_
  refine ax_q (q_mov rfl) ?_
  refine ax_q (q_mov rfl) ?_
  refine ax_call rfl (vc_lend0 (c_IndexFunc_Wait (xs := xs) p (by omega) hb hf) hP (.cons (.lend (lend_whole rfl (by simp))) (.cons (.d _) .nil)) rfl rfl ?_)
  refine ax_q (q_mov rfl) ?_
  refine ax_nil ?_
  refine cx_keep rfl rfl ?_
  refine cx_seq ?_
  refine cx_seq ?_
  refine cx_ops ?_
  refine ax_q (q_mov rfl) ?_
  refine ax_q (q_ibin rfl rfl rfl) ?_
  refine ax_nil ?_
  refine cx_keep rfl rfl ?_
  refine cx_cond rfl (fun h0 => ?_) (fun h0 => ?_)
  · have h0 := dT h0
    refine cx_seq ?_
    refine cx_ops ?_
    refine ax_q (q_mov rfl) ?_
    refine ax_q (q_mov rfl) ?_
    refine ax_nil ?_
    refine cx_keep rfl rfl ?_
    have e := filter_all (idxOf_neg h0)
    refine cx_ret (retN id [1000] rfl rfl rfl rfl rfl ?_)
    rw [e]
    exact ⟨rfl, rfl⟩
  · have h0 := dF h0
    obtain ⟨i, hi0, hi, hpi, hbi⟩ := idxOf_some h0
    obtain ⟨e1, e2⟩ := strk_first hi hpi hbi
    have e3 : ((xs.take (i + 1)).filter (fun x => !p x)).length = i := by rw [e2, List.length_take]; omega
    rw [hi0]
    refine cx_skip ?_
    refine cx_keep rfl rfl ?_
    refine cx_seq ?_
    refine cx_seq ?_
    refine cx_ops ?_
    refine ax_q (q_mov rfl) ?_
    refine ax_qe (r' := int ((i + 1 : Nat) : Int)) (q_ibin rfl rfl rfl) (by rw [wi (by omega) (by omega)]; rfl) ?_
    refine ax_q (q_mov rfl) ?_
    refine ax_nil ?_
    refine cx_keep rfl rfl ?_
    refine cx_block ?_
    refine cx_loopU (fun n (s : Nat × List GWait) => s.1 ≤ xs.length ∧ n = xs.length - s.1 ∧ ((xs.take s.1).filter (fun x => !p x)).length + s.2.length = s.1 ∧ 0 < s.2.length) (fun s => [(5, int ((xs.take s.1).filter (fun x => !p x)).length), (6, int s.1)]) (fun s => [(1000, .rows 2 ((strk p xs s.1 s.2).map GWait.row))])
      ⟨_, (i + 1, [xs[i]]), ⟨by simp only; omega, rfl, by simp only [e3, List.length_singleton], by simp⟩, by rw [e3, e1]; exact by repeat (first | exact trivial | refine ⟨rfl, ?_⟩ | refine ⟨?_, ?_⟩)⟩ ?_
    rintro n ⟨j, mid⟩ ⟨hj, rfl, hm, hm0⟩
    simp only at hj hm hm0 ⊢
    have hsl := strk_len hm hj
    refine cx_seq ?_
    refine cx_seq ?_
    refine cx_ops ?_
    refine ax_q (q_mov rfl) ?_
    refine ax_q (q_mov rfl) ?_
    first | refine ax_q (q_lenS_map rfl) ?_ | refine ax_q (q_lenS_osl rfl) ?_ | refine ax_q (q_lenS_zs rfl) ?_ | refine ax_q (q_lenS rfl) ?_
    refine ax_q (q_ibin rfl rfl rfl) ?_
    refine ax_nil ?_
    refine cx_keep rfl rfl ?_
    refine cx_cond rfl (fun h1 => ?_) (fun h1 => ?_)
    · have h1 := dT h1
      have h1x : j < xs.length := by omega
      refine cx_skip ?_
      refine cx_keep rfl rfl ?_
      refine cx_seq ?_
      refine cx_block ?_
      refine cx_seq ?_
      refine cx_ops ?_
      refine ax_q (q_mov rfl) ?_
      refine ax_q (q_mov rfl) ?_
      refine ax_q (q_ixo rfl rfl (by omega)) ?_
      refine ax_q (q_loadN_rptr rfl rfl (show ((strk p xs j mid).map GWait.row)[j]? = some (GWait.row xs[j]) from by rw [List.getElem?_map, strk_at hm h1x]; rfl) (by decide)) ?_
      refine ax_e (e_alloc (by decide) rfl rfl) ?_
      refine ax_e (e_st rfl rfl rfl rfl rfl rfl rfl) ?_
      refine ax_nil ?_
      refine cx_keep rfl rfl ?_
      refine cx_seq ?_
      refine cx_ops ?_
      refine ax_q (q_mov rfl) ?_
      first | refine ax_q (q_ldN rfl rfl rfl) ?_ | refine ax_q (q_loadN_ip rfl (Nat.le_refl _)) ?_ | refine ax_q (q_loadN_ip rfl (by decide)) ?_ | refine ax_q (q_loadN_rptr rfl rfl (by assumption) (by decide)) ?_ | refine ax_q (q_loadN_rptr rfl rfl (mapAt (by first | assumption | omega)) (by decide)) ?_
      refine ax_callvD rfl (by rw [hP]; exact hb) rfl (vc_pure0 (hf _ (List.getElem_mem h1x)) hP (refs_cons rfl ds) rfl ?_)
      refine ax_q (q_not rfl) ?_
      refine ax_nil ?_
      refine cx_keep rfl rfl ?_
      refine cx_cond rfl (fun h2 => ?_) (fun h2 => ?_)
      · have h2 := bT h2
        obtain ⟨m, mid, rfl⟩ : ∃ m r, mid = m :: r := ⟨mid.head (by intro h; rw [h] at hm0; simp at hm0), mid.tail, by simp⟩
        have e6 : ((xs.take (j + 1)).filter (fun x => !p x)).length = ((xs.take j).filter (fun x => !p x)).length + 1 := by rw [take_filter_keep h1x h2, List.length_append]; rfl
        have hml : (m :: mid).length = mid.length + 1 := rfl
        have hq : ((xs.take j).filter (fun x => !p x)).length < xs.length := by omega
        have e5 := strk_set (row := GWait.row) (m := m) (mid := mid) h1x h2 rfl
        refine cx_seq ?_
        refine cx_ops ?_
        refine ax_q (q_mov rfl) ?_
        refine ax_q (q_mov rfl) ?_
        first | refine ax_q (q_ldN rfl rfl rfl) ?_ | refine ax_q (q_loadN_ip rfl (Nat.le_refl _)) ?_ | refine ax_q (q_loadN_ip rfl (by decide)) ?_ | refine ax_q (q_loadN_rptr rfl rfl (by assumption) (by decide)) ?_ | refine ax_q (q_loadN_rptr rfl rfl (mapAt (by first | assumption | omega)) (by decide)) ?_
        refine ax_q (q_ixo rfl rfl hq) ?_
        refine ax_e (e_str (q := GWait.row xs[j]) (row := GWait.row (strk p xs j (m :: mid))[((xs.take j).filter (fun x => !p x)).length]) rfl rfl rfl rfl rfl rfl (mapAt (by rw [hsl]; exact hq)) rfl rfl e5) ?_
        refine ax_nil ?_
        refine cx_keep rfl rfl ?_
        refine cx_ops ?_
        refine ax_q (q_mov rfl) ?_
        refine ax_qe (r' := int ((((xs.take j).filter (fun x => !p x)).length + 1 : Nat) : Int)) (q_ibin rfl rfl rfl) (by rw [wi (by omega) (by omega)]; rfl) ?_
        refine ax_q (q_mov rfl) ?_
        refine ax_nil ?_
        refine cx_keep rfl rfl ?_
        refine cx_ops ?_
        refine ax_q (q_mov rfl) ?_
        refine ax_qe (r' := int ((j + 1 : Nat) : Int)) (q_ibin rfl rfl rfl) (by rw [wi (by omega) (by omega)]; rfl) ?_
        refine ax_q (q_mov rfl) ?_
        refine ax_nil ?_
        exact ⟨_, (j + 1, mid ++ [xs[j]]), by simp only; omega, ⟨by simp only; omega, rfl, by simp only [e6, List.length_append, List.length_singleton]; omega, by simp⟩, by simp only [e6]; exact by repeat (first | exact trivial | refine ⟨rfl, ?_⟩ | refine ⟨?_, ?_⟩)⟩
      · have h2 := bF h2
        have e6 : ((xs.take (j + 1)).filter (fun x => !p x)).length = ((xs.take j).filter (fun x => !p x)).length := by rw [take_filter_drop h1x h2]
        have e5 := strk_drop (mid := mid) h1x h2
        rw [e5]
        refine cx_skip ?_
        refine cx_keep rfl rfl ?_
        refine cx_ops ?_
        refine ax_q (q_mov rfl) ?_
        refine ax_qe (r' := int ((j + 1 : Nat) : Int)) (q_ibin rfl rfl rfl) (by rw [wi (by omega) (by omega)]; rfl) ?_
        refine ax_q (q_mov rfl) ?_
        refine ax_nil ?_
        exact ⟨_, (j + 1, mid ++ [xs[j]]), by simp only; omega, ⟨by simp only; omega, rfl, by simp only [e6, List.length_append, List.length_singleton]; omega, by simp⟩, by simp only [e6]; exact by repeat (first | exact trivial | refine ⟨rfl, ?_⟩ | refine ⟨?_, ?_⟩)⟩
    · have h1 := dF h1
      have h1x : j = xs.length := by omega
      subst h1x
      rw [List.take_length] at hm ⊢
      refine cx_exit rfl ?_
      refine cx_keep rfl rfl ?_
      refine cx_seq ?_
      refine cx_ops ?_
      refine ax_q (q_mov rfl) ?_
      refine ax_q (q_mov rfl) ?_
      refine ax_qe (r' := .osl 1000 2 (xs.filter (fun x => !p x)).length (xs.length - (xs.filter (fun x => !p x)).length)) (q_slc_osl rfl rfl rfl (by omega) (by omega) (by omega)) (oslE (by omega) (by omega)) ?_
      refine ax_ee (e_clr (row := [.int .i64 0, .int .i64 0]) rfl rfl (by rw [List.length_map, hsl]; omega) rfl) rfl ?_
      refine ax_nil ?_
      refine cx_keep rfl rfl ?_
      refine cx_seq ?_
      refine cx_ops ?_
      refine ax_q (q_mov rfl) ?_
      refine ax_q (q_mov rfl) ?_
      refine ax_qe (r' := .osl 1000 2 0 (xs.filter (fun x => !p x)).length) (q_slc_osl rfl rfl rfl (by omega) (by omega) (by omega)) (oslE (by omega) (by omega)) ?_
      refine ax_q (q_mov rfl) ?_
      refine ax_nil ?_
      refine cx_keep rfl rfl ?_
      refine cx_wk (wk_rows 1000 (rs' := (xs.filter (fun x => !p x)).map GWait.row) rfl (strk_end hm)) ?_
      refine cx_ret (retN id [1000] rfl rfl rfl rfl rfl ?_)
      exact ⟨rfl, rfl⟩


/- (ptr loop.example/g00332/impl.Locks).free$2 -/
def k_c_free2 : XCode :=
  .seq (.ops [.op (some 2) (.box (.t 0)),
     .op (some 3) (.mov (.k (.bool false)))])
  (.keep [1, 2] (.seq (.ops [.op (some 4) (.fadr (.t 2) 0),
     .op (some 5) (.load1 (.t 4)),
     .op (some 6) (.load1 (.t 1)),
     .op (some 7) (.bin .eql (.t 5) (.t 6)),
     .op (some 8) (.mov (.t 7)),
     .andor 13 false 4 8 [.op (some 9) (.fadr (.t 2) 1), .op (some 10) (.load1 (.t 9)), .op (some 11) (.load1 (.t 1)), .op (some 12) (.bin .eql (.t 10) (.t 11))] (.t 12),
     .op (some 3) (.mov (.t 13))])
  (.keep [3] (.ret))))
theorem k_c_free2_fits : fitsF Try.prog 69 ⟨14, k_c_free2, [.t 3]⟩ = true := by kernel_rfl
theorem c_free2 {a : GWait} {tx : Int} : Con Try.prog noMv 69 [a.av, .d (.ip [.int .i64 tx])] [] (fun r h => r = bool (decide (a.Tx = tx) || decide (a.For = tx)) ∧ h = []) := by
  refine con_of2 k_c_free2_fits rfl fun C hP hmv => ?_
  unfold k_c_free2
  refine cx_seq ?_
  refine cx_ops ?_
  refine ax_e (e_box rfl rfl (by decide) rfl rfl rfl) ?_
  refine ax_q (q_mov rfl) ?_
  refine ax_nil ?_
  refine cx_keep rfl rfl ?_
  refine cx_seq ?_
  refine cx_ops ?_
  first | refine ax_q (q_fadr_ptr rfl) ?_ | refine ax_q (q_fadr_rptr rfl) ?_ | refine ax_q (q_fadr_ip rfl) ?_
  first | refine ax_q (q_load1_ptr rfl rfl rfl) ?_ | refine ax_q (q_load1_ip rfl) ?_ | refine ax_q (q_load1_rptr rfl rfl (by assumption) rfl) ?_ | refine ax_q (q_load1_rptr rfl rfl (mapAt (by first | assumption | omega)) rfl) ?_
  first | refine ax_q (q_load1_ptr rfl rfl rfl) ?_ | refine ax_q (q_load1_ip rfl) ?_ | refine ax_q (q_load1_rptr rfl rfl (by assumption) rfl) ?_ | refine ax_q (q_load1_rptr rfl rfl (mapAt (by first | assumption | omega)) rfl) ?_
  refine ax_q (q_ibin rfl rfl rfl) ?_
  refine ax_q (q_mov rfl) ?_
  apply ax_or rfl rfl
  · intro g
    have g := dF g
    first | refine ax_q (q_fadr_ptr rfl) ?_ | refine ax_q (q_fadr_rptr rfl) ?_ | refine ax_q (q_fadr_ip rfl) ?_
    first | refine ax_q (q_load1_ptr rfl rfl rfl) ?_ | refine ax_q (q_load1_ip rfl) ?_ | refine ax_q (q_load1_rptr rfl rfl (by assumption) rfl) ?_ | refine ax_q (q_load1_rptr rfl rfl (mapAt (by first | assumption | omega)) rfl) ?_
    first | refine ax_q (q_load1_ptr rfl rfl rfl) ?_ | refine ax_q (q_load1_ip rfl) ?_ | refine ax_q (q_load1_rptr rfl rfl (by assumption) rfl) ?_ | refine ax_q (q_load1_rptr rfl rfl (mapAt (by first | assumption | omega)) rfl) ?_
    refine ax_q (q_ibin rfl rfl rfl) ?_
    exact ax_nil ⟨rfl, by repeat (first | exact trivial | refine ⟨rfl, ?_⟩ | refine ⟨?_, ?_⟩)⟩
  refine ax_q (q_mov rfl) ?_
  refine ax_nil ?_
  refine cx_keep rfl rfl ?_
  refine cx_ret (ret0 rfl rfl ?_)
  exact ⟨rfl, rfl⟩


/- (ptr loop.example/g00332/impl.Locks).free -/
def k_c_freeL : XCode :=
  .seq (.ops [.op (some 3) (.box (.t 1))])
  (.keep [0, 3] (.seq (.ops [.op (some 4) (.mov (.t 0)),
     .op (some 5) (.mov (.t 0)),
     .op (some 6) (.nilck (.t 5)),
     .op (some 7) (.fadr (.t 6) 0),
     .op (some 8) (.load1 (.t 7)),
     .op (some 9) (.mkfn 67 [.t 3]),
     .call (some 10) 35 [.t 8, .t 9],
     .op (some 11) (.nilck (.t 4)),
     .op (some 12) (.fadr (.t 11) 0),
     .op none (.store 1 (.t 12) (.t 10))])
  (.keep [0, 3] (.ops [.op (some 13) (.mov (.t 0)),
    .op (some 14) (.mov (.t 0)),
    .op (some 15) (.nilck (.t 14)),
    .op (some 16) (.fadr (.t 15) 1),
    .op (some 17) (.load1 (.t 16)),
    .op (some 18) (.mkfn 69 [.t 3]),
    .call (some 19) 68 [.t 17, .t 18],
    .op (some 20) (.nilck (.t 13)),
    .op (some 21) (.fadr (.t 20) 1),
    .op none (.store 1 (.t 21) (.t 19))]))))
theorem k_c_freeL_fits : fitsF Try.prog 31 ⟨22, k_c_freeL, []⟩ = true := by kernel_rfl
theorem c_freeL {l : GLocks} {tx : Int} (hw0 : l.Held.length ≤ 1048576) (hw1 : l.Waits.length ≤ 1048576) : Con Try.prog noMv 31 [.ptr 1000 0, int tx] (l.pO 1000 1001 1002) (fun r h => r = .tup [] ∧ h = (freed l tx).pO 1000 1001 1002) := by
  refine con_of2 k_c_freeL_fits rfl fun C hP hmv => ?_
  unfold k_c_freeL
  refine cx_seq ?_
  refine cx_ops ?_
  refine ax_e (e_box rfl rfl (by decide) rfl rfl rfl) ?_
  refine ax_nil ?_
  refine cx_keep rfl rfl ?_
  refine cx_seq ?_
  refine cx_ops ?_
  refine ax_q (q_mov rfl) ?_
  refine ax_q (q_mov rfl) ?_
  first | refine ax_q (q_nilck_ptr rfl) ?_ | refine ax_q (q_nilck_rptr rfl) ?_ | refine ax_q (q_nilck_ip rfl) ?_
  first | refine ax_q (q_fadr_ptr rfl) ?_ | refine ax_q (q_fadr_rptr rfl) ?_ | refine ax_q (q_fadr_ip rfl) ?_
  first | refine ax_q (q_load1_ptr rfl rfl rfl) ?_ | refine ax_q (q_load1_ip rfl) ?_ | refine ax_q (q_load1_rptr rfl rfl (by assumption) rfl) ?_ | refine ax_q (q_load1_rptr rfl rfl (mapAt (by first | assumption | omega)) rfl) ?_
  refine ax_q (q_mkfn rfl) ?_
  refine ax_call rfl (vcall_own (c_DeleteFunc_Lock (xs := l.Held) (ds := [.ip [.int .i64 tx]]) (fun x => decide (x.Tx = tx)) (by omega) (by kernel_rfl) (fun s _ => c_free1)) hP hmv true (fun _ => 1001) [1000] ⟨rfl, rfl, rfl, rfl, ⟨rfl, trivial⟩, rfl, rfl, rfl⟩ (.pass rfl rfl (.lend (.lend (.fn (.cons (.ptr rfl (by repeat (first | exact .nil | refine .cons (.d _) ?_))) .nil))) .nil)) ?_)
  rintro r h ⟨rfl, rfl⟩
  refine ⟨fun _ => 1001, [], ⟨rfl, rfl, rfl, rfl, (by intro e h; simp only [List.mem_cons, List.not_mem_nil, or_false] at h; subst h; rfl), rfl, rfl, fun _ => ⟨rfl, noisl_of ⟨noisl_map (fun _ => rfl), trivial⟩⟩⟩, ?_⟩
  first | refine ax_q (q_nilck_ptr rfl) ?_ | refine ax_q (q_nilck_rptr rfl) ?_ | refine ax_q (q_nilck_ip rfl) ?_
  first | refine ax_q (q_fadr_ptr rfl) ?_ | refine ax_q (q_fadr_rptr rfl) ?_ | refine ax_q (q_fadr_ip rfl) ?_
  refine ax_e (e_st rfl rfl rfl rfl rfl rfl rfl) ?_
  refine ax_nil ?_
  refine cx_keep rfl rfl ?_
  refine cx_ops ?_
  refine ax_q (q_mov rfl) ?_
  refine ax_q (q_mov rfl) ?_
  first | refine ax_q (q_nilck_ptr rfl) ?_ | refine ax_q (q_nilck_rptr rfl) ?_ | refine ax_q (q_nilck_ip rfl) ?_
  first | refine ax_q (q_fadr_ptr rfl) ?_ | refine ax_q (q_fadr_rptr rfl) ?_ | refine ax_q (q_fadr_ip rfl) ?_
  first | refine ax_q (q_load1_ptr rfl rfl rfl) ?_ | refine ax_q (q_load1_ip rfl) ?_ | refine ax_q (q_load1_rptr rfl rfl (by assumption) rfl) ?_ | refine ax_q (q_load1_rptr rfl rfl (mapAt (by first | assumption | omega)) rfl) ?_
  refine ax_q (q_mkfn rfl) ?_
  refine ax_call rfl (vcall_own (c_DeleteFunc_Wait (xs := l.Waits) (ds := [.ip [.int .i64 tx]]) (fun x => decide (x.Tx = tx) || decide (x.For = tx)) (by omega) (by kernel_rfl) (fun s _ => c_free2)) hP hmv true (fun _ => 1002) [1000] ⟨rfl, rfl, rfl, rfl, ⟨rfl, trivial⟩, rfl, rfl, rfl⟩ (.pass rfl rfl (.lend (.lend (.fn (.cons (.ptr rfl (by repeat (first | exact .nil | refine .cons (.d _) ?_))) .nil))) .nil)) ?_)
  rintro r h ⟨rfl, rfl⟩
  refine ⟨fun _ => 1002, [], ⟨rfl, rfl, rfl, rfl, (by intro e h; simp only [List.mem_cons, List.not_mem_nil, or_false] at h; subst h; rfl), rfl, rfl, fun _ => ⟨rfl, noisl_of ⟨noisl_map (fun _ => rfl), trivial⟩⟩⟩, ?_⟩
  first | refine ax_q (q_nilck_ptr rfl) ?_ | refine ax_q (q_nilck_rptr rfl) ?_ | refine ax_q (q_nilck_ip rfl) ?_
  first | refine ax_q (q_fadr_ptr rfl) ?_ | refine ax_q (q_fadr_rptr rfl) ?_ | refine ax_q (q_fadr_ip rfl) ?_
  refine ax_e (e_st rfl rfl rfl rfl rfl rfl rfl) ?_
  refine ax_nil ?_
  refine retN id [1000, 1001, 1002] rfl rfl rfl rfl rfl ?_
  exact ⟨rfl, rfl⟩


/- loop.example/g00332/impl.FreeLocks -/
def k_c_FreeLocks : XCode :=
  .seq (.ops [.op (some 2) (.box (.t 0)),
     .op (some 4) (.alloc [.nils 4, .nils 2]),
     .op (some 5) (.mov (.k (.int .i64 0)))])
  (.keep [1, 2, 4] (.seq (.block 0 (.seq (.ops [.op (some 8) (.loadN 2 (.t 2)),
       .call (some 9) 24 [.t 8],
       .op (some 10) (.not (.t 9)),
       .op (some 7) (.mov (.t 10))])
    (.keep [1, 2, 4, 7] (.cond (.t 7)
     (.seq (.ops [.op (some 11) (.build [.nils 4, .nils 2] []),
         .op none (.store 2 (.t 4) (.t 11)),
         .op (some 5) (.mov (.k (.int .i64 1)))])
      (.keep [4, 5] (.ret)))
     (.seq (.ops [.op (some 13) (.mov (.t 1)),
         .call (some 14) 29 [.t 13],
         .op (some 15) (.not (.t 14)),
         .op (some 12) (.mov (.t 15))])
      (.keep [1, 2, 4, 12] (.cond (.t 12)
       (.seq (.ops [.op (some 16) (.build [.nils 4, .nils 2] []),
           .op none (.store 2 (.t 4) (.t 16)),
           .op (some 5) (.mov (.k (.int .i64 4)))])
        (.keep [4, 5] (.ret)))
       (.skip))))))))
  (.keep [1, 2, 4] (.seq (.ops [.op (some 17) (.loadN 2 (.t 2)),
     .call (some 18) 30 [.t 17],
     .op (some 6) (.alloc [.nils 4, .nils 2]),
     .op none (.store 2 (.t 6) (.t 18))])
  (.keep [1, 4, 6] (.seq (.ops [.op (some 19) (.mov (.t 1)),
     .call (some 20) 31 [.t 6, .t 19]])
  (.keep [4, 6] (.seq (.ops [.op (some 21) (.loadN 2 (.t 6)),
     .call (some 22) 30 [.t 21],
     .op none (.store 2 (.t 4) (.t 22)),
     .op (some 5) (.mov (.k (.int .i64 0)))])
  (.keep [4, 5] (.ret))))))))))
theorem k_c_FreeLocks_fits : fitsF Try.prog 10 ⟨23, k_c_FreeLocks, [.cN 4 2, .t 5]⟩ = true := by kernel_rfl
theorem c_FreeLocks {l : GLocks} {tx : Int} (hw0 : l.Held.length ≤ 1048576) (hw1 : l.Waits.length ≤ 1048576) : Con Try.prog noMv 10 [l.av, int tx] [] (fun r h => r = .tup [(freeLocks l tx).1.avO 0 1, int (freeLocks l tx).2] ∧ h = (freeLocks l tx).1.hO 0 1) := by
  refine con_of2 k_c_FreeLocks_fits rfl fun C hP hmv => ?_
  unfold k_c_FreeLocks
  refine cx_seq ?_
  refine cx_ops ?_
  refine ax_e (e_box rfl rfl (by decide) rfl rfl rfl) ?_
  refine ax_e (e_alloc (by decide) rfl rfl) ?_
  refine ax_q (q_mov rfl) ?_
  refine ax_nil ?_
  refine cx_keep rfl rfl ?_
  refine cx_seq ?_
  refine cx_block ?_
  refine cx_seq ?_
  refine cx_ops ?_
  first | refine ax_q (q_ldN rfl rfl rfl) ?_ | refine ax_q (q_loadN_ip rfl (Nat.le_refl _)) ?_ | refine ax_q (q_loadN_ip rfl (by decide)) ?_ | refine ax_q (q_loadN_rptr rfl rfl (by assumption) (by decide)) ?_ | refine ax_q (q_loadN_rptr rfl rfl (mapAt (by first | assumption | omega)) (by decide)) ?_
  first | refine ax_call rfl (vc_pure0 (c_LocksOK  ?_ ?_) hP rfl rfl ?_) | refine ax_call rfl (vc_lend0 (c_LocksOK  ?_ ?_) hP (by repeat (first | exact lal_id _ rfl | exact LAL.nil | refine LAL.cons ?_ ?_ | exact la_id _ rfl | exact LA.lend (lend_whole rfl (by simp)) | refine LA.agg ?_ | refine LA.fn ?_ | refine LA.lend ?_ | exact Lend.d _ | exact Lend.zs _ | exact lend_whole rfl (by simp) | refine Lend.ptr rfl ?_ | refine Lend.fn ?_ | exact LendL.nil | refine LendL.cons ?_ ?_)) rfl rfl ?_)
  · first | assumption | omega | (simp; done) | (simp; omega)
  · first | assumption | omega | (simp; done) | (simp; omega)
  refine ax_q (q_not rfl) ?_
  refine ax_q (q_mov rfl) ?_
  refine ax_nil ?_
  refine cx_keep rfl rfl ?_
  refine cx_cond rfl (fun h0 => ?_) (fun h0 => ?_)
  · have h0 := bT h0
    refine cx_seq ?_
    refine cx_ops ?_
    refine ax_q (q_build rfl) ?_
    refine ax_e (e_st rfl rfl rfl rfl rfl rfl rfl) ?_
    refine ax_q (q_mov rfl) ?_
    refine ax_nil ?_
    refine cx_keep rfl rfl ?_
    have e : freeLocks l tx = (.zero, 1) := by unfold freeLocks; rw [if_pos h0]
    refine cx_wk (wk_virt 900 4 rfl rfl rfl) ?_
    refine cx_wk (wk_zsb 4 900 0 rfl rfl rfl) ?_
    refine cx_wk (wk_virt 901 2 rfl rfl rfl) ?_
    refine cx_wk (wk_zsb 4 901 1 rfl rfl rfl) ?_
    refine cx_ret (retN (fun e => bif Nat.beq e 901 then 1 else 0) [900, 901] rfl rfl rfl rfl rfl ?_)
    rw [e]; exact ⟨rfl, rfl⟩
  · have h0 := bF h0
    refine cx_seq ?_
    refine cx_ops ?_
    refine ax_q (q_mov rfl) ?_
    first | refine ax_call rfl (vc_pure0 (c_isTx  ) hP rfl rfl ?_) | refine ax_call rfl (vc_lend0 (c_isTx  ) hP (by repeat (first | exact lal_id _ rfl | exact LAL.nil | refine LAL.cons ?_ ?_ | exact la_id _ rfl | exact LA.lend (lend_whole rfl (by simp)) | refine LA.agg ?_ | refine LA.fn ?_ | refine LA.lend ?_ | exact Lend.d _ | exact Lend.zs _ | exact lend_whole rfl (by simp) | refine Lend.ptr rfl ?_ | refine Lend.fn ?_ | exact LendL.nil | refine LendL.cons ?_ ?_)) rfl rfl ?_)
    refine ax_q (q_not rfl) ?_
    refine ax_q (q_mov rfl) ?_
    refine ax_nil ?_
    refine cx_keep rfl rfl ?_
    refine cx_cond rfl (fun h1 => ?_) (fun h1 => ?_)
    · have h1 := bT h1
      refine cx_seq ?_
      refine cx_ops ?_
      refine ax_q (q_build rfl) ?_
      refine ax_e (e_st rfl rfl rfl rfl rfl rfl rfl) ?_
      refine ax_q (q_mov rfl) ?_
      refine ax_nil ?_
      refine cx_keep rfl rfl ?_
      have e : freeLocks l tx = (.zero, 4) := by unfold freeLocks; rw [if_neg (by rw [h0]; simp), if_pos (show isTx tx = false from h1)]
      refine cx_wk (wk_virt 900 4 rfl rfl rfl) ?_
      refine cx_wk (wk_zsb 4 900 0 rfl rfl rfl) ?_
      refine cx_wk (wk_virt 901 2 rfl rfl rfl) ?_
      refine cx_wk (wk_zsb 4 901 1 rfl rfl rfl) ?_
      refine cx_ret (retN (fun e => bif Nat.beq e 901 then 1 else 0) [900, 901] rfl rfl rfl rfl rfl ?_)
      rw [e]; exact ⟨rfl, rfl⟩
    · have h1 := bF h1
      refine cx_skip ?_
      refine cx_keep rfl rfl ?_
      refine cx_seq ?_
      refine cx_ops ?_
      first | refine ax_q (q_ldN rfl rfl rfl) ?_ | refine ax_q (q_loadN_ip rfl (Nat.le_refl _)) ?_ | refine ax_q (q_loadN_ip rfl (by decide)) ?_ | refine ax_q (q_loadN_rptr rfl rfl (by assumption) (by decide)) ?_ | refine ax_q (q_loadN_rptr rfl rfl (mapAt (by first | assumption | omega)) (by decide)) ?_
      first | refine ax_call rfl (vc_pure (c_cloneL  ?_ ?_) hP rfl ?_) | refine ax_call rfl (vc_lend (c_cloneL  ?_ ?_) hP (by repeat (first | exact lal_id _ rfl | exact LAL.nil | refine LAL.cons ?_ ?_ | exact la_id _ rfl | exact LA.lend (lend_whole rfl (by simp)) | refine LA.agg ?_ | refine LA.fn ?_ | refine LA.lend ?_ | exact Lend.d _ | exact Lend.zs _ | exact lend_whole rfl (by simp) | refine Lend.ptr rfl ?_ | refine Lend.fn ?_ | exact LendL.nil | refine LendL.cons ?_ ?_)) ?_)
      · first | assumption | omega | (simp; done) | (simp; omega)
      · first | assumption | omega | (simp; done) | (simp; omega)
      rintro r h ⟨rfl, rfl⟩
      refine ⟨fun i => 18 + 200 * i, [0, 1], ⟨rfl, rfl, rfl, rfl, rfl, (by first | exact (fun h => absurd h Bool.false_ne_true) | exact (fun _ => ⟨rfl, (noisl_of (by repeat (first | exact trivial | refine ⟨noisl_map (fun _ => rfl), ?_⟩ | refine ⟨?_, ?_⟩)))⟩))⟩, ?_⟩
      skip
      refine ax_e (e_alloc (by decide) rfl rfl) ?_
      refine ax_e (e_st rfl rfl rfl rfl rfl rfl rfl) ?_
      refine ax_nil ?_
      refine cx_keep rfl rfl ?_
      refine cx_seq ?_
      refine cx_ops ?_
      refine ax_q (q_mov rfl) ?_
      refine ax_call rfl (vcall_own (c_freeL (l := l) (tx := tx) hw0 hw1) hP hmv false (fun e => bif Nat.beq e 1000 then 6 else bif Nat.beq e 1001 then 18 else 218) [1000, 1001, 1002] ⟨rfl, rfl, rfl, rfl, ⟨rfl, rfl, rfl, trivial⟩, rfl, rfl, rfl⟩ (.pass rfl rfl (.pass rfl rfl .nil)) ?_)
      rintro r h ⟨rfl, rfl⟩
      refine ⟨fun e => bif Nat.beq e 1000 then 6 else bif Nat.beq e 1001 then 18 else 218, [], ⟨rfl, rfl, rfl, rfl, (by intro e h; simp only [List.mem_cons, List.not_mem_nil, or_false] at h; rcases h with rfl | rfl | rfl <;> rfl), rfl, rfl, fun h => by cases h⟩, ?_⟩
      refine ax_nil ?_
      refine cx_keep rfl rfl ?_
      refine cx_seq ?_
      refine cx_ops ?_
      first | refine ax_q (q_ldN rfl rfl rfl) ?_ | refine ax_q (q_loadN_ip rfl (Nat.le_refl _)) ?_ | refine ax_q (q_loadN_ip rfl (by decide)) ?_ | refine ax_q (q_loadN_rptr rfl rfl (by assumption) (by decide)) ?_ | refine ax_q (q_loadN_rptr rfl rfl (mapAt (by first | assumption | omega)) (by decide)) ?_
      have hf0 : (freed l tx).Held.length ≤ l.Held.length := filter_len _ _
      have hf1 : (freed l tx).Waits.length ≤ l.Waits.length := filter_len _ _
      first | refine ax_call rfl (vc_pure (c_cloneL  ?_ ?_) hP rfl ?_) | refine ax_call rfl (vc_lend (c_cloneL  ?_ ?_) hP (by repeat (first | exact lal_id _ rfl | exact LAL.nil | refine LAL.cons ?_ ?_ | exact la_id _ rfl | exact LA.lend (lend_whole rfl (by simp)) | refine LA.agg ?_ | refine LA.fn ?_ | refine LA.lend ?_ | exact Lend.d _ | exact Lend.zs _ | exact lend_whole rfl (by simp) | refine Lend.ptr rfl ?_ | refine Lend.fn ?_ | exact LendL.nil | refine LendL.cons ?_ ?_)) ?_)
      · first | assumption | omega | (simp; done) | (simp; omega)
      · first | assumption | omega | (simp; done) | (simp; omega)
      rintro r h ⟨rfl, rfl⟩
      refine ⟨fun i => 22 + 200 * i, [0, 1], ⟨rfl, rfl, rfl, rfl, rfl, (by first | exact (fun h => absurd h Bool.false_ne_true) | exact (fun _ => ⟨rfl, (noisl_of (by repeat (first | exact trivial | refine ⟨noisl_map (fun _ => rfl), ?_⟩ | refine ⟨?_, ?_⟩)))⟩))⟩, ?_⟩
      skip
      refine ax_e (e_st rfl rfl rfl rfl rfl rfl rfl) ?_
      refine ax_q (q_mov rfl) ?_
      refine ax_nil ?_
      refine cx_keep rfl rfl ?_
      refine cx_ret (retN (fun e => bif Nat.beq e 222 then 1 else 0) [22, 222] rfl rfl rfl rfl rfl ?_)
      rw [freeLocks_ok h0 h1]; exact ⟨rfl, rfl⟩


/- loop.example/g00332/spec.l01In -/
def k_c_l01In : XCode :=
  .seq (.ops [.op (some 6) (.mov (.k (.bool false)))])
  (.keep [0, 1, 2] (.seq (.ops [.op (some 7) (.mov (.t 1)),
     .op (some 8) (.mov (.t 0)),
     .op (some 9) (.bin .leq (.t 7) (.t 8)),
     .op (some 10) (.mov (.t 9)),
     .andor 14 true 3 10 [.op (some 11) (.mov (.t 0)), .op (some 12) (.mov (.t 2)), .op (some 13) (.bin .leq (.t 11) (.t 12))] (.t 13),
     .op (some 6) (.mov (.t 14))])
  (.keep [6] (.ret))))
theorem k_c_l01In_fits : fitsF Try.prog 33 ⟨15, k_c_l01In, [.t 6]⟩ = true := by kernel_rfl
theorem c_l01In {n lo hi : Int} : Con Try.prog noMv 33 [int n, int lo, int hi] [] (fun r h => r = bool (inR n lo hi) ∧ h = []) := by
  refine con_of2 k_c_l01In_fits rfl fun C hP hmv => ?_
  unfold k_c_l01In
  refine cx_seq ?_
  refine cx_ops ?_
  refine ax_q (q_mov rfl) ?_
  refine ax_nil ?_
  refine cx_keep rfl rfl ?_
  refine cx_seq ?_
  refine cx_ops ?_
  refine ax_q (q_mov rfl) ?_
  refine ax_q (q_mov rfl) ?_
  refine ax_q (q_ibin rfl rfl rfl) ?_
  refine ax_q (q_mov rfl) ?_
  apply ax_and rfl rfl
  · intro g
    have g := dT g
    refine ax_q (q_mov rfl) ?_
    refine ax_q (q_mov rfl) ?_
    refine ax_q (q_ibin rfl rfl rfl) ?_
    exact ax_nil ⟨rfl, by repeat (first | exact trivial | refine ⟨rfl, ?_⟩ | refine ⟨?_, ?_⟩)⟩
  refine ax_q (q_mov rfl) ?_
  refine ax_nil ?_
  refine cx_keep rfl rfl ?_
  refine cx_ret (ret0 rfl rfl ?_)
  exact ⟨rfl, rfl⟩


/- loop.example/g00332/spec.l06Ask -/
def k_c_l06Ask : XCode :=
  .seq (.ops [.op (some 8) (.mov (.k (.bool false)))])
  (.keep [0, 1, 2, 3] (.seq (.ops [.op (some 9) (.mov (.t 0)),
     .call (some 10) 33 [.t 9, .k (.int .i64 1), .k (.int .i64 60)],
     .op (some 11) (.mov (.t 10)),
     .andor 14 true 2 11 [.op (some 12) (.mov (.t 1)), .call (some 13) 33 [.t 12, .k (.int .i64 1), .k (.int .i64 3)]] (.t 13),
     .op (some 15) (.mov (.t 14)),
     .andor 18 true 6 15 [.op (some 16) (.mov (.t 2)), .call (some 17) 33 [.t 16, .k (.int .i64 (-1)), .k (.int .i64 1000)]] (.t 17),
     .op (some 19) (.mov (.t 18)),
     .andor 22 true 10 19 [.op (some 20) (.mov (.t 3)), .call (some 21) 33 [.t 20, .k (.int .i64 1), .k (.int .i64 4)]] (.t 21),
     .op (some 23) (.mov (.t 22)),
     .andor 30 true 14 23 [.op (some 24) (.mov (.t 2)), .op (some 25) (.bin .eql (.t 24) (.k (.int .i64 (-1)))), .op (some 26) (.mov (.t 25)), .andor 29 false 17 26 [.op (some 27) (.mov (.t 3)), .op (some 28) (.bin .geq (.t 27) (.k (.int .i64 3)))] (.t 28)] (.t 29),
     .op (some 8) (.mov (.t 30))])
  (.keep [8] (.ret))))
theorem k_c_l06Ask_fits : fitsF Try.prog 50 ⟨31, k_c_l06Ask, [.t 8]⟩ = true := by kernel_rfl
theorem c_l06Ask {a : GLock} : Con Try.prog noMv 50 [int a.Tx, int a.Table, int a.Row, int a.Mode] [] (fun r h => r = bool (lockOK a) ∧ h = []) := by
  refine con_of2 k_c_l06Ask_fits rfl fun C hP hmv => ?_
  unfold k_c_l06Ask
  refine cx_seq ?_
  refine cx_ops ?_
  refine ax_q (q_mov rfl) ?_
  refine ax_nil ?_
  refine cx_keep rfl rfl ?_
  refine cx_seq ?_
  refine cx_ops ?_
  refine ax_q (q_mov rfl) ?_
  first | refine ax_call rfl (vc_pure0 (c_l01In  ) hP rfl rfl ?_) | refine ax_call rfl (vc_lend0 (c_l01In  ) hP (by repeat (first | exact lal_id _ rfl | exact LAL.nil | refine LAL.cons ?_ ?_ | exact la_id _ rfl | exact LA.lend (lend_whole rfl (by simp)) | refine LA.agg ?_ | refine LA.fn ?_ | refine LA.lend ?_ | exact Lend.d _ | exact Lend.zs _ | exact lend_whole rfl (by simp) | refine Lend.ptr rfl ?_ | refine Lend.fn ?_ | exact LendL.nil | refine LendL.cons ?_ ?_)) rfl rfl ?_)
  refine ax_q (q_mov rfl) ?_
  apply ax_and rfl rfl
  · intro g
    refine ax_q (q_mov rfl) ?_
    first | refine ax_call rfl (vc_pure0 (c_l01In  ) hP rfl rfl ?_) | refine ax_call rfl (vc_lend0 (c_l01In  ) hP (by repeat (first | exact lal_id _ rfl | exact LAL.nil | refine LAL.cons ?_ ?_ | exact la_id _ rfl | exact LA.lend (lend_whole rfl (by simp)) | refine LA.agg ?_ | refine LA.fn ?_ | refine LA.lend ?_ | exact Lend.d _ | exact Lend.zs _ | exact lend_whole rfl (by simp) | refine Lend.ptr rfl ?_ | refine Lend.fn ?_ | exact LendL.nil | refine LendL.cons ?_ ?_)) rfl rfl ?_)
    exact ax_nil ⟨rfl, by repeat (first | exact trivial | refine ⟨rfl, ?_⟩ | refine ⟨?_, ?_⟩)⟩
  refine ax_q (q_mov rfl) ?_
  apply ax_and rfl rfl
  · intro g
    have g := (fun h => And.intro (id (and_T h).1) (id (and_T h).2)) g
    refine ax_q (q_mov rfl) ?_
    first | refine ax_call rfl (vc_pure0 (c_l01In  ) hP rfl rfl ?_) | refine ax_call rfl (vc_lend0 (c_l01In  ) hP (by repeat (first | exact lal_id _ rfl | exact LAL.nil | refine LAL.cons ?_ ?_ | exact la_id _ rfl | exact LA.lend (lend_whole rfl (by simp)) | refine LA.agg ?_ | refine LA.fn ?_ | refine LA.lend ?_ | exact Lend.d _ | exact Lend.zs _ | exact lend_whole rfl (by simp) | refine Lend.ptr rfl ?_ | refine Lend.fn ?_ | exact LendL.nil | refine LendL.cons ?_ ?_)) rfl rfl ?_)
    exact ax_nil ⟨rfl, by repeat (first | exact trivial | refine ⟨rfl, ?_⟩ | refine ⟨?_, ?_⟩)⟩
  refine ax_q (q_mov rfl) ?_
  apply ax_and rfl rfl
  · intro g
    have g := (fun h => And.intro ((fun h => And.intro (id (and_T h).1) (id (and_T h).2)) (and_T h).1) (id (and_T h).2)) g
    refine ax_q (q_mov rfl) ?_
    first | refine ax_call rfl (vc_pure0 (c_l01In  ) hP rfl rfl ?_) | refine ax_call rfl (vc_lend0 (c_l01In  ) hP (by repeat (first | exact lal_id _ rfl | exact LAL.nil | refine LAL.cons ?_ ?_ | exact la_id _ rfl | exact LA.lend (lend_whole rfl (by simp)) | refine LA.agg ?_ | refine LA.fn ?_ | refine LA.lend ?_ | exact Lend.d _ | exact Lend.zs _ | exact lend_whole rfl (by simp) | refine Lend.ptr rfl ?_ | refine Lend.fn ?_ | exact LendL.nil | refine LendL.cons ?_ ?_)) rfl rfl ?_)
    exact ax_nil ⟨rfl, by repeat (first | exact trivial | refine ⟨rfl, ?_⟩ | refine ⟨?_, ?_⟩)⟩
  refine ax_q (q_mov rfl) ?_
  apply ax_and rfl rfl
  · intro g
    have g := (fun h => And.intro ((fun h => And.intro ((fun h => And.intro (id (and_T h).1) (id (and_T h).2)) (and_T h).1) (id (and_T h).2)) (and_T h).1) (id (and_T h).2)) g
    refine ax_q (q_mov rfl) ?_
    refine ax_q (q_ibin rfl rfl rfl) ?_
    refine ax_q (q_mov rfl) ?_
    apply ax_or rfl rfl
    · intro g
      have g := dF g
      refine ax_q (q_mov rfl) ?_
      refine ax_q (q_ibin rfl rfl rfl) ?_
      exact ax_nil ⟨rfl, by repeat (first | exact trivial | refine ⟨rfl, ?_⟩ | refine ⟨?_, ?_⟩)⟩
    exact ax_nil ⟨rfl, by repeat (first | exact trivial | refine ⟨rfl, ?_⟩ | refine ⟨?_, ?_⟩)⟩
  refine ax_q (q_mov rfl) ?_
  refine ax_nil ?_
  refine cx_keep rfl rfl ?_
  refine cx_ret (ret0 rfl rfl ?_)
  exact ⟨congrArg AM.bool (by exact askEq a), rfl⟩


/- loop.example/g00332/spec.l06Fit -/
def k_c_l06Fit : XCode :=
  .seq (.ops [.op (some 4) (.mov (.k (.bool false)))])
  (.keep [0, 1] (.seq (.block 0 (.seq (.ops [.op (some 6) (.mov (.t 0)),
       .op (some 7) (.bin .eql (.t 6) (.k (.int .i64 4))),
       .op (some 8) (.mov (.t 7)),
       .andor 11 false 2 8 [.op (some 9) (.mov (.t 1)), .op (some 10) (.bin .eql (.t 9) (.k (.int .i64 4)))] (.t 10),
       .op (some 5) (.mov (.t 11))])
    (.keep [0, 1, 5] (.cond (.t 5)
     (.seq (.ops [.op (some 4) (.mov (.k (.bool false)))])
      (.keep [4] (.ret)))
     (.seq (.ops [.op (some 13) (.mov (.t 0)),
         .op (some 14) (.bin .eql (.t 13) (.k (.int .i64 1))),
         .op (some 15) (.mov (.t 14)),
         .andor 18 false 2 15 [.op (some 16) (.mov (.t 1)), .op (some 17) (.bin .eql (.t 16) (.k (.int .i64 1)))] (.t 17),
         .op (some 12) (.mov (.t 18))])
      (.keep [0, 1, 12] (.cond (.t 12)
       (.seq (.ops [.op (some 4) (.mov (.k (.bool true)))])
        (.keep [4] (.ret)))
       (.skip))))))))
  (.keep [0, 1] (.seq (.ops [.op (some 19) (.mov (.t 0)),
     .op (some 20) (.mov (.t 1)),
     .op (some 21) (.bin .eql (.t 19) (.t 20)),
     .op (some 4) (.mov (.t 21))])
  (.keep [4] (.ret))))))
theorem k_c_l06Fit_fits : fitsF Try.prog 70 ⟨22, k_c_l06Fit, [.t 4]⟩ = true := by kernel_rfl
theorem c_l06Fit {a b : Int} : Con Try.prog noMv 70 [int a, int b] [] (fun r h => r = bool (modesFit a b) ∧ h = []) := by
  refine con_of2 k_c_l06Fit_fits rfl fun C hP hmv => ?_
  unfold k_c_l06Fit
  refine cx_seq ?_
  refine cx_ops ?_
  refine ax_q (q_mov rfl) ?_
  refine ax_nil ?_
  refine cx_keep rfl rfl ?_
  refine cx_seq ?_
  refine cx_block ?_
  refine cx_seq ?_
  refine cx_ops ?_
  refine ax_q (q_mov rfl) ?_
  refine ax_q (q_ibin rfl rfl rfl) ?_
  refine ax_q (q_mov rfl) ?_
  apply ax_or rfl rfl
  · intro g
    have g := dF g
    refine ax_q (q_mov rfl) ?_
    refine ax_q (q_ibin rfl rfl rfl) ?_
    exact ax_nil ⟨rfl, by repeat (first | exact trivial | refine ⟨rfl, ?_⟩ | refine ⟨?_, ?_⟩)⟩
  refine ax_q (q_mov rfl) ?_
  refine ax_nil ?_
  refine cx_keep rfl rfl ?_
  refine cx_cond rfl (fun h0 => ?_) (fun h0 => ?_)
  · have h0 := (fun h => (or_T h).imp dT dT) h0
    refine cx_seq ?_
    refine cx_ops ?_
    refine ax_q (q_mov rfl) ?_
    refine ax_nil ?_
    refine cx_keep rfl rfl ?_
    refine cx_ret (ret0 rfl rfl ?_)
    exact ⟨congrArg AM.bool (by rw [← fit_eq]; unfold l06Fit; rw [if_pos h0]), rfl⟩
  · have h0 := (fun h => And.intro (dF (or_F h).1) (dF (or_F h).2)) h0
    refine cx_seq ?_
    refine cx_ops ?_
    refine ax_q (q_mov rfl) ?_
    refine ax_q (q_ibin rfl rfl rfl) ?_
    refine ax_q (q_mov rfl) ?_
    apply ax_or rfl rfl
    · intro g
      have g := dF g
      refine ax_q (q_mov rfl) ?_
      refine ax_q (q_ibin rfl rfl rfl) ?_
      exact ax_nil ⟨rfl, by repeat (first | exact trivial | refine ⟨rfl, ?_⟩ | refine ⟨?_, ?_⟩)⟩
    refine ax_q (q_mov rfl) ?_
    refine ax_nil ?_
    refine cx_keep rfl rfl ?_
    refine cx_cond rfl (fun h1 => ?_) (fun h1 => ?_)
    · have h1 := (fun h => (or_T h).imp dT dT) h1
      refine cx_seq ?_
      refine cx_ops ?_
      refine ax_q (q_mov rfl) ?_
      refine ax_nil ?_
      refine cx_keep rfl rfl ?_
      refine cx_ret (ret0 rfl rfl ?_)
      exact ⟨congrArg AM.bool (by rw [← fit_eq]; unfold l06Fit; rw [if_neg (not_or.2 h0), if_pos h1]), rfl⟩
    · have h1 := (fun h => And.intro (dF (or_F h).1) (dF (or_F h).2)) h1
      refine cx_skip ?_
      refine cx_keep rfl rfl ?_
      refine cx_seq ?_
      refine cx_ops ?_
      refine ax_q (q_mov rfl) ?_
      refine ax_q (q_mov rfl) ?_
      refine ax_q (q_ibin rfl rfl rfl) ?_
      refine ax_q (q_mov rfl) ?_
      refine ax_nil ?_
      refine cx_keep rfl rfl ?_
      refine cx_ret (ret0 rfl rfl ?_)
      exact ⟨congrArg AM.bool (by rw [← fit_eq]; unfold l06Fit; rw [if_neg (not_or.2 h0), if_neg (not_or.2 h1)]), rfl⟩


/- loop.example/g00332/spec.LocksOK -/
def k_c_sLocksOK : XCode :=
  .seq (.ops [.op (some 1) (.box (.t 0)),
     .op (some 2) (.mov (.k (.bool false)))])
  (.keep [1] (.seq (.seq (.ops [.op (some 9) (.fadr (.t 1) 0),
      .op (some 10) (.load1 (.t 9)),
      .op (some 11) (.lenS (.t 10)),
      .op (some 12) (.bin .gtr (.t 11) (.k (.int .i64 60))),
      .op (some 13) (.mov (.t 12)),
      .andor 18 false 4 13 [.op (some 14) (.fadr (.t 1) 1), .op (some 15) (.load1 (.t 14)), .op (some 16) (.lenS (.t 15)), .op (some 17) (.bin .gtr (.t 16) (.k (.int .i64 100)))] (.t 17)])
   (.keep [1, 18] (.cond (.t 18)
    (.seq (.ops [.op (some 2) (.mov (.k (.bool false)))])
     (.keep [2] (.ret)))
    (.skip))))
  (.keep [1] (.seq (.seq (.ops [.op (some 3) (.mov (.k (.int .i64 0)))])
   (.keep [1, 3] (.block 0 (.loop (.seq (.seq (.ops [.op (some 19) (.mov (.t 3)),
         .op (some 20) (.fadr (.t 1) 0),
         .op (some 21) (.load1 (.t 20)),
         .op (some 22) (.lenS (.t 21)),
         .op (some 23) (.bin .lss (.t 19) (.t 22))])
      (.keep [1, 3, 23] (.cond (.t 23)
       (.skip)
       (.exit 0))))
     (.keep [1, 3] (.seq (.block 1 (.seq (.ops [.op (some 26) (.fadr (.t 1) 0),
          .op (some 27) (.load1 (.t 26)),
          .op (some 28) (.mov (.t 3)),
          .op (some 29) (.iadr 4 (.t 27) (.t 28)),
          .op (some 30) (.loadN 4 (.t 29)),
          .op (some 4) (.alloc [.int .i64 0, .int .i64 0, .int .i64 0, .int .i64 0]),
          .op none (.store 4 (.t 4) (.t 30))])
       (.keep [1, 3, 4] (.seq (.seq (.ops [.op (some 31) (.fadr (.t 4) 0),
           .op (some 32) (.load1 (.t 31)),
           .op (some 33) (.fadr (.t 4) 1),
           .op (some 34) (.load1 (.t 33)),
           .op (some 35) (.fadr (.t 4) 2),
           .op (some 36) (.load1 (.t 35)),
           .op (some 37) (.fadr (.t 4) 3),
           .op (some 38) (.load1 (.t 37)),
           .call (some 39) 50 [.t 32, .t 34, .t 36, .t 38],
           .op (some 40) (.not (.t 39))])
        (.keep [1, 3, 4, 40] (.cond (.t 40)
         (.seq (.ops [.op (some 2) (.mov (.k (.bool false)))])
          (.keep [2] (.ret)))
         (.skip))))
       (.keep [1, 3, 4] (.seq (.ops [.op (some 5) (.mov (.k (.int .i64 0)))])
       (.keep [1, 3, 4, 5] (.block 2 (.loop (.seq (.seq (.ops [.op (some 41) (.mov (.t 5)),
             .op (some 42) (.mov (.t 3)),
             .op (some 43) (.bin .lss (.t 41) (.t 42))])
          (.keep [1, 3, 4, 5, 43] (.cond (.t 43)
           (.skip)
           (.exit 2))))
         (.keep [1, 3, 4, 5] (.seq (.block 3 (.seq (.ops [.op (some 46) (.fadr (.t 1) 0),
              .op (some 47) (.load1 (.t 46)),
              .op (some 48) (.mov (.t 5)),
              .op (some 49) (.iadr 4 (.t 47) (.t 48)),
              .op (some 50) (.loadN 4 (.t 49)),
              .op (some 6) (.alloc [.int .i64 0, .int .i64 0, .int .i64 0, .int .i64 0]),
              .op none (.store 4 (.t 6) (.t 50))])
           (.keep [1, 3, 4, 5, 6] (.seq (.ops [.op (some 51) (.fadr (.t 4) 1),
              .op (some 52) (.load1 (.t 51)),
              .op (some 53) (.fadr (.t 6) 1),
              .op (some 54) (.load1 (.t 53)),
              .op (some 55) (.bin .eql (.t 52) (.t 54)),
              .op (some 56) (.mov (.t 55)),
              .andor 62 true 5 56 [.op (some 57) (.fadr (.t 4) 2), .op (some 58) (.load1 (.t 57)), .op (some 59) (.fadr (.t 6) 2), .op (some 60) (.load1 (.t 59)), .op (some 61) (.bin .eql (.t 58) (.t 60))] (.t 61),
              .op (some 63) (.mov (.t 62)),
              .andor 82 true 12 63 [.op (some 64) (.loadN 4 (.t 4)), .op (some 65) (.loadN 4 (.t 6)), .op (some 66) (.eqs false [0, 0, 0, 0] (.t 64) (.t 65)), .op (some 67) (.mov (.t 66)), .andor 81 false 16 67 [.op (some 68) (.fadr (.t 4) 0), .op (some 69) (.load1 (.t 68)), .op (some 70) (.fadr (.t 6) 0), .op (some 71) (.load1 (.t 70)), .op (some 72) (.bin .neq (.t 69) (.t 71)), .op (some 73) (.mov (.t 72)), .andor 80 true 22 73 [.op (some 74) (.fadr (.t 4) 3), .op (some 75) (.load1 (.t 74)), .op (some 76) (.fadr (.t 6) 3), .op (some 77) (.load1 (.t 76)), .call (some 78) 70 [.t 75, .t 77], .op (some 79) (.not (.t 78))] (.t 79)] (.t 80)] (.t 81)])
           (.keep [1, 3, 4, 5, 82] (.cond (.t 82)
            (.seq (.ops [.op (some 2) (.mov (.k (.bool false)))])
             (.keep [2] (.ret)))
            (.skip)))))))
         (.keep [1, 3, 4, 5] (.ops [.op (some 44) (.mov (.t 5)),
           .op (some 45) (.bin .add (.t 44) (.k (.int .i64 1))),
           .op (some 5) (.mov (.t 45))]))))))))))))))
     (.keep [1, 3] (.ops [.op (some 24) (.mov (.t 3)),
       .op (some 25) (.bin .add (.t 24) (.k (.int .i64 1))),
       .op (some 3) (.mov (.t 25))])))))))))
  (.keep [1] (.seq (.seq (.ops [.op (some 7) (.mov (.k (.int .i64 0)))])
   (.keep [1, 7] (.block 4 (.loop (.seq (.seq (.ops [.op (some 83) (.mov (.t 7)),
         .op (some 84) (.fadr (.t 1) 1),
         .op (some 85) (.load1 (.t 84)),
         .op (some 86) (.lenS (.t 85)),
         .op (some 87) (.bin .lss (.t 83) (.t 86))])
      (.keep [1, 7, 87] (.cond (.t 87)
       (.skip)
       (.exit 4))))
     (.keep [1, 7] (.seq (.block 5 (.seq (.ops [.op (some 90) (.fadr (.t 1) 1),
          .op (some 91) (.load1 (.t 90)),
          .op (some 92) (.mov (.t 7)),
          .op (some 93) (.iadr 2 (.t 91) (.t 92)),
          .op (some 94) (.loadN 2 (.t 93)),
          .op (some 8) (.alloc [.int .i64 0, .int .i64 0]),
          .op none (.store 2 (.t 8) (.t 94))])
       (.keep [1, 7, 8] (.seq (.ops [.op (some 95) (.fadr (.t 8) 0),
          .op (some 96) (.load1 (.t 95)),
          .call (some 97) 33 [.t 96, .k (.int .i64 1), .k (.int .i64 60)],
          .op (some 98) (.not (.t 97)),
          .op (some 99) (.mov (.t 98)),
          .andor 104 false 4 99 [.op (some 100) (.fadr (.t 8) 1), .op (some 101) (.load1 (.t 100)), .call (some 102) 33 [.t 101, .k (.int .i64 1), .k (.int .i64 60)], .op (some 103) (.not (.t 102))] (.t 103),
          .op (some 105) (.mov (.t 104)),
          .andor 111 false 10 105 [.op (some 106) (.fadr (.t 8) 0), .op (some 107) (.load1 (.t 106)), .op (some 108) (.fadr (.t 8) 1), .op (some 109) (.load1 (.t 108)), .op (some 110) (.bin .eql (.t 107) (.t 109))] (.t 110)])
       (.keep [1, 7, 111] (.cond (.t 111)
        (.seq (.ops [.op (some 2) (.mov (.k (.bool false)))])
         (.keep [2] (.ret)))
        (.skip)))))))
     (.keep [1, 7] (.ops [.op (some 88) (.mov (.t 7)),
       .op (some 89) (.bin .add (.t 88) (.k (.int .i64 1))),
       .op (some 7) (.mov (.t 89))])))))))))
  (.keep [] (.seq (.ops [.op (some 2) (.mov (.k (.bool true)))])
  (.keep [2] (.ret))))))))))
theorem k_c_sLocksOK_fits : fitsF Try.prog 32 ⟨112, k_c_sLocksOK, [.t 2]⟩ = true := by kernel_rfl
theorem c_sLocksOK {l : GLocks} (hw0 : l.Held.length ≤ 1048576) (hw1 : l.Waits.length ≤ 1048576) (hl : wfL GLock.wf l.Held) : Con Try.prog noMv 32 [l.av] [] (fun r h => r = bool (locksOK l) ∧ h = []) := by
  refine con_of2 k_c_sLocksOK_fits rfl fun C hP hmv => ?_
  unfold k_c_sLocksOK
  refine cx_seq ?_
  refine cx_ops ?_
  refine ax_e (e_box rfl rfl (by decide) rfl rfl rfl) ?_
  refine ax_q (q_mov rfl) ?_
  refine ax_nil ?_
  refine cx_keep rfl rfl ?_
  refine cx_seq ?_
  refine cx_seq ?_
  refine cx_ops ?_
  first | refine ax_q (q_fadr_ptr rfl) ?_ | refine ax_q (q_fadr_rptr rfl) ?_ | refine ax_q (q_fadr_ip rfl) ?_
  first | refine ax_q (q_load1_ptr rfl rfl rfl) ?_ | refine ax_q (q_load1_ip rfl) ?_ | refine ax_q (q_load1_rptr rfl rfl (by assumption) rfl) ?_ | refine ax_q (q_load1_rptr rfl rfl (mapAt (by first | assumption | omega)) rfl) ?_
  first | refine ax_q (q_lenS_map rfl) ?_ | refine ax_q (q_lenS_osl rfl) ?_ | refine ax_q (q_lenS_zs rfl) ?_ | refine ax_q (q_lenS rfl) ?_
  refine ax_q (q_ibin rfl rfl rfl) ?_
  refine ax_q (q_mov rfl) ?_
  apply ax_or rfl rfl
  · intro g
    have g := dF g
    first | refine ax_q (q_fadr_ptr rfl) ?_ | refine ax_q (q_fadr_rptr rfl) ?_ | refine ax_q (q_fadr_ip rfl) ?_
    first | refine ax_q (q_load1_ptr rfl rfl rfl) ?_ | refine ax_q (q_load1_ip rfl) ?_ | refine ax_q (q_load1_rptr rfl rfl (by assumption) rfl) ?_ | refine ax_q (q_load1_rptr rfl rfl (mapAt (by first | assumption | omega)) rfl) ?_
    first | refine ax_q (q_lenS_map rfl) ?_ | refine ax_q (q_lenS_osl rfl) ?_ | refine ax_q (q_lenS_zs rfl) ?_ | refine ax_q (q_lenS rfl) ?_
    refine ax_q (q_ibin rfl rfl rfl) ?_
    exact ax_nil ⟨rfl, by repeat (first | exact trivial | refine ⟨rfl, ?_⟩ | refine ⟨?_, ?_⟩)⟩
  refine ax_nil ?_
  refine cx_keep rfl rfl ?_
  refine cx_cond rfl (fun h0 => ?_) (fun h0 => ?_)
  · have h0 := (fun h => (or_T h).imp dT dT) h0
    refine cx_seq ?_
    refine cx_ops ?_
    refine ax_q (q_mov rfl) ?_
    refine ax_nil ?_
    refine cx_keep rfl rfl ?_
    refine cx_ret (ret0 rfl rfl ?_)
    have e : locksOK l = false := by
      unfold locksOK
      rcases h0 with h | h
      · rw [decide_eq_false (show ¬ ((l.Held.length : Int) ≤ 60) from by omega)]; simp
      · rw [decide_eq_false (show ¬ ((l.Waits.length : Int) ≤ 100) from by omega)]; simp
    exact ⟨by rw [e]; rfl, rfl⟩
  · have h0 := (fun h => And.intro (dF (or_F h).1) (dF (or_F h).2)) h0
    refine cx_skip ?_
    refine cx_keep rfl rfl ?_
    refine cx_seq ?_
    refine cx_seq ?_
    refine cx_ops ?_
    refine ax_q (q_mov rfl) ?_
    refine ax_nil ?_
    refine cx_keep rfl rfl ?_
    refine cx_block ?_
    refine cx_loopU (fun n k => k ≤ l.Held.length ∧ n = l.Held.length - k ∧ allIx (okAt l.Held) k = true) (fun k : Nat => [(3, int k)]) (fun _ => [(1, .box [.d (.sl 4 (l.Held.map GLock.row)), .d (.sl 2 (l.Waits.map GWait.row))])]) ⟨_, 0, ⟨Nat.zero_le _, rfl, rfl⟩, by repeat (first | exact trivial | refine ⟨rfl, ?_⟩ | refine ⟨?_, ?_⟩)⟩ ?_
    rintro n k ⟨hk, rfl, ht⟩
    refine cx_seq ?_
    refine cx_seq ?_
    refine cx_ops ?_
    refine ax_q (q_mov rfl) ?_
    first | refine ax_q (q_fadr_ptr rfl) ?_ | refine ax_q (q_fadr_rptr rfl) ?_ | refine ax_q (q_fadr_ip rfl) ?_
    first | refine ax_q (q_load1_ptr rfl rfl rfl) ?_ | refine ax_q (q_load1_ip rfl) ?_ | refine ax_q (q_load1_rptr rfl rfl (by assumption) rfl) ?_ | refine ax_q (q_load1_rptr rfl rfl (mapAt (by first | assumption | omega)) rfl) ?_
    first | refine ax_q (q_lenS_map rfl) ?_ | refine ax_q (q_lenS_osl rfl) ?_ | refine ax_q (q_lenS_zs rfl) ?_ | refine ax_q (q_lenS rfl) ?_
    refine ax_q (q_ibin rfl rfl rfl) ?_
    refine ax_nil ?_
    refine cx_keep rfl rfl ?_
    refine cx_cond rfl (fun h1 => ?_) (fun h1 => ?_)
    · have h1 := dT h1
      have h1x : k < l.Held.length := by omega
      refine cx_skip ?_
      refine cx_keep rfl rfl ?_
      refine cx_seq ?_
      refine cx_block ?_
      refine cx_seq ?_
      refine cx_ops ?_
      first | refine ax_q (q_fadr_ptr rfl) ?_ | refine ax_q (q_fadr_rptr rfl) ?_ | refine ax_q (q_fadr_ip rfl) ?_
      first | refine ax_q (q_load1_ptr rfl rfl rfl) ?_ | refine ax_q (q_load1_ip rfl) ?_ | refine ax_q (q_load1_rptr rfl rfl (by assumption) rfl) ?_ | refine ax_q (q_load1_rptr rfl rfl (mapAt (by first | assumption | omega)) rfl) ?_
      refine ax_q (q_mov rfl) ?_
      refine ax_q (q_ix rfl rfl (mapAt h1x)) ?_
      first | refine ax_q (q_ldN rfl rfl rfl) ?_ | refine ax_q (q_loadN_ip rfl (Nat.le_refl _)) ?_ | refine ax_q (q_loadN_ip rfl (by decide)) ?_ | refine ax_q (q_loadN_rptr rfl rfl (by assumption) (by decide)) ?_ | refine ax_q (q_loadN_rptr rfl rfl (mapAt (by first | assumption | omega)) (by decide)) ?_
      refine ax_e (e_alloc (by decide) rfl rfl) ?_
      refine ax_e (e_st rfl rfl rfl rfl rfl rfl rfl) ?_
      refine ax_nil ?_
      refine cx_keep rfl rfl ?_
      refine cx_seq ?_
      refine cx_seq ?_
      refine cx_ops ?_
      first | refine ax_q (q_fadr_ptr rfl) ?_ | refine ax_q (q_fadr_rptr rfl) ?_ | refine ax_q (q_fadr_ip rfl) ?_
      first | refine ax_q (q_load1_ptr rfl rfl rfl) ?_ | refine ax_q (q_load1_ip rfl) ?_ | refine ax_q (q_load1_rptr rfl rfl (by assumption) rfl) ?_ | refine ax_q (q_load1_rptr rfl rfl (mapAt (by first | assumption | omega)) rfl) ?_
      first | refine ax_q (q_fadr_ptr rfl) ?_ | refine ax_q (q_fadr_rptr rfl) ?_ | refine ax_q (q_fadr_ip rfl) ?_
      first | refine ax_q (q_load1_ptr rfl rfl rfl) ?_ | refine ax_q (q_load1_ip rfl) ?_ | refine ax_q (q_load1_rptr rfl rfl (by assumption) rfl) ?_ | refine ax_q (q_load1_rptr rfl rfl (mapAt (by first | assumption | omega)) rfl) ?_
      first | refine ax_q (q_fadr_ptr rfl) ?_ | refine ax_q (q_fadr_rptr rfl) ?_ | refine ax_q (q_fadr_ip rfl) ?_
      first | refine ax_q (q_load1_ptr rfl rfl rfl) ?_ | refine ax_q (q_load1_ip rfl) ?_ | refine ax_q (q_load1_rptr rfl rfl (by assumption) rfl) ?_ | refine ax_q (q_load1_rptr rfl rfl (mapAt (by first | assumption | omega)) rfl) ?_
      first | refine ax_q (q_fadr_ptr rfl) ?_ | refine ax_q (q_fadr_rptr rfl) ?_ | refine ax_q (q_fadr_ip rfl) ?_
      first | refine ax_q (q_load1_ptr rfl rfl rfl) ?_ | refine ax_q (q_load1_ip rfl) ?_ | refine ax_q (q_load1_rptr rfl rfl (by assumption) rfl) ?_ | refine ax_q (q_load1_rptr rfl rfl (mapAt (by first | assumption | omega)) rfl) ?_
      first | refine ax_call rfl (vc_pure0 (c_l06Ask (a := l.Held[k]) ) hP rfl rfl ?_) | refine ax_call rfl (vc_lend0 (c_l06Ask (a := l.Held[k]) ) hP (by repeat (first | exact lal_id _ rfl | exact LAL.nil | refine LAL.cons ?_ ?_ | exact la_id _ rfl | exact LA.lend (lend_whole rfl (by simp)) | refine LA.agg ?_ | refine LA.fn ?_ | refine LA.lend ?_ | exact Lend.d _ | exact Lend.zs _ | exact lend_whole rfl (by simp) | refine Lend.ptr rfl ?_ | refine Lend.fn ?_ | exact LendL.nil | refine LendL.cons ?_ ?_)) rfl rfl ?_)
      refine ax_q (q_not rfl) ?_
      refine ax_nil ?_
      refine cx_keep rfl rfl ?_
      refine cx_cond rfl (fun h2 => ?_) (fun h2 => ?_)
      · have h2 := bT h2
        refine cx_seq ?_
        refine cx_ops ?_
        refine ax_q (q_mov rfl) ?_
        refine ax_nil ?_
        refine cx_keep rfl rfl ?_
        refine cx_ret (ret0 rfl rfl ?_)
        exact ⟨by rw [show locksOK l = false from by unfold locksOK; rw [allIx_no h1x (by rw [okAt_get h1x, h2]; rfl)]; rfl]; rfl, rfl⟩
      · have h2 := bF h2
        refine cx_skip ?_
        refine cx_keep rfl rfl ?_
        refine cx_seq ?_
        refine cx_ops ?_
        refine ax_q (q_mov rfl) ?_
        refine ax_nil ?_
        refine cx_keep rfl rfl ?_
        refine cx_block ?_
        refine cx_loopU (fun n i => i ≤ k ∧ n = k - i ∧ ∀ j, j < i → ∀ x, l.Held[j]? = some x → twice l.Held[k] x = false) (fun i : Nat => [(5, int i)]) (fun _ => [(1, .box [.d (.sl 4 (l.Held.map GLock.row)), .d (.sl 2 (l.Waits.map GWait.row))]), (4, .box [.d (.int .i64 l.Held[k].Tx), .d (.int .i64 l.Held[k].Table), .d (.int .i64 l.Held[k].Row), .d (.int .i64 l.Held[k].Mode)])]) ⟨_, 0, ⟨Nat.zero_le _, rfl, fun j hj => by omega⟩, by repeat (first | exact trivial | refine ⟨rfl, ?_⟩ | refine ⟨?_, ?_⟩)⟩ ?_
        rintro n i ⟨hi, rfl, hb⟩
        refine cx_seq ?_
        refine cx_seq ?_
        refine cx_ops ?_
        refine ax_q (q_mov rfl) ?_
        refine ax_q (q_mov rfl) ?_
        refine ax_q (q_ibin rfl rfl rfl) ?_
        refine ax_nil ?_
        refine cx_keep rfl rfl ?_
        refine cx_cond rfl (fun h3 => ?_) (fun h3 => ?_)
        · have h3 := dT h3
          have h3x : i < l.Held.length := by omega
          refine cx_skip ?_
          refine cx_keep rfl rfl ?_
          refine cx_seq ?_
          refine cx_block ?_
          refine cx_seq ?_
          refine cx_ops ?_
          first | refine ax_q (q_fadr_ptr rfl) ?_ | refine ax_q (q_fadr_rptr rfl) ?_ | refine ax_q (q_fadr_ip rfl) ?_
          first | refine ax_q (q_load1_ptr rfl rfl rfl) ?_ | refine ax_q (q_load1_ip rfl) ?_ | refine ax_q (q_load1_rptr rfl rfl (by assumption) rfl) ?_ | refine ax_q (q_load1_rptr rfl rfl (mapAt (by first | assumption | omega)) rfl) ?_
          refine ax_q (q_mov rfl) ?_
          refine ax_q (q_ix rfl rfl (mapAt h3x)) ?_
          first | refine ax_q (q_ldN rfl rfl rfl) ?_ | refine ax_q (q_loadN_ip rfl (Nat.le_refl _)) ?_ | refine ax_q (q_loadN_ip rfl (by decide)) ?_ | refine ax_q (q_loadN_rptr rfl rfl (by assumption) (by decide)) ?_ | refine ax_q (q_loadN_rptr rfl rfl (mapAt (by first | assumption | omega)) (by decide)) ?_
          refine ax_e (e_alloc (by decide) rfl rfl) ?_
          refine ax_e (e_st rfl rfl rfl rfl rfl rfl rfl) ?_
          refine ax_nil ?_
          refine cx_keep rfl rfl ?_
          refine cx_seq ?_
          refine cx_ops ?_
          first | refine ax_q (q_fadr_ptr rfl) ?_ | refine ax_q (q_fadr_rptr rfl) ?_ | refine ax_q (q_fadr_ip rfl) ?_
          first | refine ax_q (q_load1_ptr rfl rfl rfl) ?_ | refine ax_q (q_load1_ip rfl) ?_ | refine ax_q (q_load1_rptr rfl rfl (by assumption) rfl) ?_ | refine ax_q (q_load1_rptr rfl rfl (mapAt (by first | assumption | omega)) rfl) ?_
          first | refine ax_q (q_fadr_ptr rfl) ?_ | refine ax_q (q_fadr_rptr rfl) ?_ | refine ax_q (q_fadr_ip rfl) ?_
          first | refine ax_q (q_load1_ptr rfl rfl rfl) ?_ | refine ax_q (q_load1_ip rfl) ?_ | refine ax_q (q_load1_rptr rfl rfl (by assumption) rfl) ?_ | refine ax_q (q_load1_rptr rfl rfl (mapAt (by first | assumption | omega)) rfl) ?_
          refine ax_q (q_ibin rfl rfl rfl) ?_
          refine ax_q (q_mov rfl) ?_
          apply ax_and rfl rfl
          · intro g
            have g := dT g
            first | refine ax_q (q_fadr_ptr rfl) ?_ | refine ax_q (q_fadr_rptr rfl) ?_ | refine ax_q (q_fadr_ip rfl) ?_
            first | refine ax_q (q_load1_ptr rfl rfl rfl) ?_ | refine ax_q (q_load1_ip rfl) ?_ | refine ax_q (q_load1_rptr rfl rfl (by assumption) rfl) ?_ | refine ax_q (q_load1_rptr rfl rfl (mapAt (by first | assumption | omega)) rfl) ?_
            first | refine ax_q (q_fadr_ptr rfl) ?_ | refine ax_q (q_fadr_rptr rfl) ?_ | refine ax_q (q_fadr_ip rfl) ?_
            first | refine ax_q (q_load1_ptr rfl rfl rfl) ?_ | refine ax_q (q_load1_ip rfl) ?_ | refine ax_q (q_load1_rptr rfl rfl (by assumption) rfl) ?_ | refine ax_q (q_load1_rptr rfl rfl (mapAt (by first | assumption | omega)) rfl) ?_
            refine ax_q (q_ibin rfl rfl rfl) ?_
            exact ax_nil ⟨rfl, by repeat (first | exact trivial | refine ⟨rfl, ?_⟩ | refine ⟨?_, ?_⟩)⟩
          refine ax_q (q_mov rfl) ?_
          apply ax_and rfl rfl
          · intro g
            have g := (fun h => And.intro (dT (and_T h).1) (dT (and_T h).2)) g
            first | refine ax_q (q_ldN rfl rfl rfl) ?_ | refine ax_q (q_loadN_ip rfl (Nat.le_refl _)) ?_ | refine ax_q (q_loadN_ip rfl (by decide)) ?_ | refine ax_q (q_loadN_rptr rfl rfl (by assumption) (by decide)) ?_ | refine ax_q (q_loadN_rptr rfl rfl (mapAt (by first | assumption | omega)) (by decide)) ?_
            first | refine ax_q (q_ldN rfl rfl rfl) ?_ | refine ax_q (q_loadN_ip rfl (Nat.le_refl _)) ?_ | refine ax_q (q_loadN_ip rfl (by decide)) ?_ | refine ax_q (q_loadN_rptr rfl rfl (by assumption) (by decide)) ?_ | refine ax_q (q_loadN_rptr rfl rfl (mapAt (by first | assumption | omega)) (by decide)) ?_
            first | refine ax_q (GLock.q_eqs rfl rfl) ?_ | refine ax_q (q_eqs rfl rfl rfl) ?_
            refine ax_q (q_mov rfl) ?_
            apply ax_or rfl rfl
            · intro g
              first | refine ax_q (q_fadr_ptr rfl) ?_ | refine ax_q (q_fadr_rptr rfl) ?_ | refine ax_q (q_fadr_ip rfl) ?_
              first | refine ax_q (q_load1_ptr rfl rfl rfl) ?_ | refine ax_q (q_load1_ip rfl) ?_ | refine ax_q (q_load1_rptr rfl rfl (by assumption) rfl) ?_ | refine ax_q (q_load1_rptr rfl rfl (mapAt (by first | assumption | omega)) rfl) ?_
              first | refine ax_q (q_fadr_ptr rfl) ?_ | refine ax_q (q_fadr_rptr rfl) ?_ | refine ax_q (q_fadr_ip rfl) ?_
              first | refine ax_q (q_load1_ptr rfl rfl rfl) ?_ | refine ax_q (q_load1_ip rfl) ?_ | refine ax_q (q_load1_rptr rfl rfl (by assumption) rfl) ?_ | refine ax_q (q_load1_rptr rfl rfl (mapAt (by first | assumption | omega)) rfl) ?_
              refine ax_q (q_ibin rfl rfl rfl) ?_
              refine ax_q (q_mov rfl) ?_
              apply ax_and rfl rfl
              · intro g
                have g := nT g
                first | refine ax_q (q_fadr_ptr rfl) ?_ | refine ax_q (q_fadr_rptr rfl) ?_ | refine ax_q (q_fadr_ip rfl) ?_
                first | refine ax_q (q_load1_ptr rfl rfl rfl) ?_ | refine ax_q (q_load1_ip rfl) ?_ | refine ax_q (q_load1_rptr rfl rfl (by assumption) rfl) ?_ | refine ax_q (q_load1_rptr rfl rfl (mapAt (by first | assumption | omega)) rfl) ?_
                first | refine ax_q (q_fadr_ptr rfl) ?_ | refine ax_q (q_fadr_rptr rfl) ?_ | refine ax_q (q_fadr_ip rfl) ?_
                first | refine ax_q (q_load1_ptr rfl rfl rfl) ?_ | refine ax_q (q_load1_ip rfl) ?_ | refine ax_q (q_load1_rptr rfl rfl (by assumption) rfl) ?_ | refine ax_q (q_load1_rptr rfl rfl (mapAt (by first | assumption | omega)) rfl) ?_
                first | refine ax_call rfl (vc_pure0 (c_l06Fit  ) hP rfl rfl ?_) | refine ax_call rfl (vc_lend0 (c_l06Fit  ) hP (by repeat (first | exact lal_id _ rfl | exact LAL.nil | refine LAL.cons ?_ ?_ | exact la_id _ rfl | exact LA.lend (lend_whole rfl (by simp)) | refine LA.agg ?_ | refine LA.fn ?_ | refine LA.lend ?_ | exact Lend.d _ | exact Lend.zs _ | exact lend_whole rfl (by simp) | refine Lend.ptr rfl ?_ | refine Lend.fn ?_ | exact LendL.nil | refine LendL.cons ?_ ?_)) rfl rfl ?_)
                refine ax_q (q_not rfl) ?_
                exact ax_nil ⟨rfl, by repeat (first | exact trivial | refine ⟨rfl, ?_⟩ | refine ⟨?_, ?_⟩)⟩
              exact ax_nil ⟨rfl, by repeat (first | exact trivial | refine ⟨rfl, ?_⟩ | refine ⟨?_, ?_⟩)⟩
            exact ax_nil ⟨rfl, by repeat (first | exact trivial | refine ⟨rfl, ?_⟩ | refine ⟨?_, ?_⟩)⟩
          refine ax_nil ?_
          refine cx_keep rfl rfl ?_
          refine cx_cond rfl (fun h4 => ?_) (fun h4 => ?_)
          · have h4 : twice l.Held[k] l.Held[i] = true := by rw [← twice_eq]; exact h4
            refine cx_seq ?_
            refine cx_ops ?_
            refine ax_q (q_mov rfl) ?_
            refine ax_nil ?_
            refine cx_keep rfl rfl ?_
            refine cx_ret (ret0 rfl rfl ?_)
            exact ⟨by rw [show locksOK l = false from by unfold locksOK; rw [allIx_no h1x (by rw [okAt_get h1x, any_take_hit (by omega) h3x h4]; simp)]; rfl]; rfl, rfl⟩
          · have h4 : twice l.Held[k] l.Held[i] = false := by rw [← twice_eq]; exact h4
            refine cx_skip ?_
            refine cx_keep rfl rfl ?_
            refine cx_ops ?_
            refine ax_q (q_mov rfl) ?_
            refine ax_qe (r' := int ((i + 1 : Nat) : Int)) (q_ibin rfl rfl rfl) (by rw [wi (by omega) (by omega)]; rfl) ?_
            refine ax_q (q_mov rfl) ?_
            refine ax_nil ?_
            exact ⟨_, i + 1, by omega, ⟨by omega, rfl, before_step h3x hb h4⟩, by repeat (first | exact trivial | refine ⟨rfl, ?_⟩ | refine ⟨?_, ?_⟩)⟩
        · have h3 := dF h3
          refine cx_exit rfl ?_
          refine cx_keep rfl rfl ?_
          refine cx_ops ?_
          refine ax_q (q_mov rfl) ?_
          refine ax_qe (r' := int ((k + 1 : Nat) : Int)) (q_ibin rfl rfl rfl) (by rw [wi (by omega) (by omega)]; rfl) ?_
          refine ax_q (q_mov rfl) ?_
          refine ax_nil ?_
          have h9 : okAt l.Held k = true := by rw [okAt_get h1x, h2, any_take (by omega) (fun j hj => hb j (by omega))]; rfl
          exact ⟨_, k + 1, by omega, ⟨by omega, rfl, allIx_step ht h9⟩, by repeat (first | exact trivial | refine ⟨rfl, ?_⟩ | refine ⟨?_, ?_⟩)⟩
    · have h1 := dF h1
      have h1x : k = l.Held.length := by omega
      subst h1x
      refine cx_exit rfl ?_
      refine cx_keep rfl rfl ?_
      refine cx_seq ?_
      refine cx_seq ?_
      refine cx_ops ?_
      refine ax_q (q_mov rfl) ?_
      refine ax_nil ?_
      refine cx_keep rfl rfl ?_
      refine cx_block ?_
      refine cx_loopU (fun n k => k ≤ l.Waits.length ∧ n = l.Waits.length - k ∧ ∀ j, j < k → ∀ x, l.Waits[j]? = some x → badWait x = false) (fun k : Nat => [(7, int k)]) (fun _ => [(1, .box [.d (.sl 4 (l.Held.map GLock.row)), .d (.sl 2 (l.Waits.map GWait.row))])]) ⟨_, 0, ⟨Nat.zero_le _, rfl, fun j hj => by omega⟩, by repeat (first | exact trivial | refine ⟨rfl, ?_⟩ | refine ⟨?_, ?_⟩)⟩ ?_
      rintro n k ⟨hk, rfl, hb⟩
      refine cx_seq ?_
      refine cx_seq ?_
      refine cx_ops ?_
      refine ax_q (q_mov rfl) ?_
      first | refine ax_q (q_fadr_ptr rfl) ?_ | refine ax_q (q_fadr_rptr rfl) ?_ | refine ax_q (q_fadr_ip rfl) ?_
      first | refine ax_q (q_load1_ptr rfl rfl rfl) ?_ | refine ax_q (q_load1_ip rfl) ?_ | refine ax_q (q_load1_rptr rfl rfl (by assumption) rfl) ?_ | refine ax_q (q_load1_rptr rfl rfl (mapAt (by first | assumption | omega)) rfl) ?_
      first | refine ax_q (q_lenS_map rfl) ?_ | refine ax_q (q_lenS_osl rfl) ?_ | refine ax_q (q_lenS_zs rfl) ?_ | refine ax_q (q_lenS rfl) ?_
      refine ax_q (q_ibin rfl rfl rfl) ?_
      refine ax_nil ?_
      refine cx_keep rfl rfl ?_
      refine cx_cond rfl (fun h5 => ?_) (fun h5 => ?_)
      · have h5 := dT h5
        have h5x : k < l.Waits.length := by omega
        refine cx_skip ?_
        refine cx_keep rfl rfl ?_
        refine cx_seq ?_
        refine cx_block ?_
        refine cx_seq ?_
        refine cx_ops ?_
        first | refine ax_q (q_fadr_ptr rfl) ?_ | refine ax_q (q_fadr_rptr rfl) ?_ | refine ax_q (q_fadr_ip rfl) ?_
        first | refine ax_q (q_load1_ptr rfl rfl rfl) ?_ | refine ax_q (q_load1_ip rfl) ?_ | refine ax_q (q_load1_rptr rfl rfl (by assumption) rfl) ?_ | refine ax_q (q_load1_rptr rfl rfl (mapAt (by first | assumption | omega)) rfl) ?_
        refine ax_q (q_mov rfl) ?_
        refine ax_q (q_ix rfl rfl (mapAt h5x)) ?_
        first | refine ax_q (q_ldN rfl rfl rfl) ?_ | refine ax_q (q_loadN_ip rfl (Nat.le_refl _)) ?_ | refine ax_q (q_loadN_ip rfl (by decide)) ?_ | refine ax_q (q_loadN_rptr rfl rfl (by assumption) (by decide)) ?_ | refine ax_q (q_loadN_rptr rfl rfl (mapAt (by first | assumption | omega)) (by decide)) ?_
        refine ax_e (e_alloc (by decide) rfl rfl) ?_
        refine ax_e (e_st rfl rfl rfl rfl rfl rfl rfl) ?_
        refine ax_nil ?_
        refine cx_keep rfl rfl ?_
        refine cx_seq ?_
        refine cx_ops ?_
        first | refine ax_q (q_fadr_ptr rfl) ?_ | refine ax_q (q_fadr_rptr rfl) ?_ | refine ax_q (q_fadr_ip rfl) ?_
        first | refine ax_q (q_load1_ptr rfl rfl rfl) ?_ | refine ax_q (q_load1_ip rfl) ?_ | refine ax_q (q_load1_rptr rfl rfl (by assumption) rfl) ?_ | refine ax_q (q_load1_rptr rfl rfl (mapAt (by first | assumption | omega)) rfl) ?_
        first | refine ax_call rfl (vc_pure0 (c_l01In  ) hP rfl rfl ?_) | refine ax_call rfl (vc_lend0 (c_l01In  ) hP (by repeat (first | exact lal_id _ rfl | exact LAL.nil | refine LAL.cons ?_ ?_ | exact la_id _ rfl | exact LA.lend (lend_whole rfl (by simp)) | refine LA.agg ?_ | refine LA.fn ?_ | refine LA.lend ?_ | exact Lend.d _ | exact Lend.zs _ | exact lend_whole rfl (by simp) | refine Lend.ptr rfl ?_ | refine Lend.fn ?_ | exact LendL.nil | refine LendL.cons ?_ ?_)) rfl rfl ?_)
        refine ax_q (q_not rfl) ?_
        refine ax_q (q_mov rfl) ?_
        apply ax_or rfl rfl
        · intro g
          have g := bF g
          first | refine ax_q (q_fadr_ptr rfl) ?_ | refine ax_q (q_fadr_rptr rfl) ?_ | refine ax_q (q_fadr_ip rfl) ?_
          first | refine ax_q (q_load1_ptr rfl rfl rfl) ?_ | refine ax_q (q_load1_ip rfl) ?_ | refine ax_q (q_load1_rptr rfl rfl (by assumption) rfl) ?_ | refine ax_q (q_load1_rptr rfl rfl (mapAt (by first | assumption | omega)) rfl) ?_
          first | refine ax_call rfl (vc_pure0 (c_l01In  ) hP rfl rfl ?_) | refine ax_call rfl (vc_lend0 (c_l01In  ) hP (by repeat (first | exact lal_id _ rfl | exact LAL.nil | refine LAL.cons ?_ ?_ | exact la_id _ rfl | exact LA.lend (lend_whole rfl (by simp)) | refine LA.agg ?_ | refine LA.fn ?_ | refine LA.lend ?_ | exact Lend.d _ | exact Lend.zs _ | exact lend_whole rfl (by simp) | refine Lend.ptr rfl ?_ | refine Lend.fn ?_ | exact LendL.nil | refine LendL.cons ?_ ?_)) rfl rfl ?_)
          refine ax_q (q_not rfl) ?_
          exact ax_nil ⟨rfl, by repeat (first | exact trivial | refine ⟨rfl, ?_⟩ | refine ⟨?_, ?_⟩)⟩
        refine ax_q (q_mov rfl) ?_
        apply ax_or rfl rfl
        · intro g
          have g := (fun h => And.intro (bF (or_F h).1) (bF (or_F h).2)) g
          first | refine ax_q (q_fadr_ptr rfl) ?_ | refine ax_q (q_fadr_rptr rfl) ?_ | refine ax_q (q_fadr_ip rfl) ?_
          first | refine ax_q (q_load1_ptr rfl rfl rfl) ?_ | refine ax_q (q_load1_ip rfl) ?_ | refine ax_q (q_load1_rptr rfl rfl (by assumption) rfl) ?_ | refine ax_q (q_load1_rptr rfl rfl (mapAt (by first | assumption | omega)) rfl) ?_
          first | refine ax_q (q_fadr_ptr rfl) ?_ | refine ax_q (q_fadr_rptr rfl) ?_ | refine ax_q (q_fadr_ip rfl) ?_
          first | refine ax_q (q_load1_ptr rfl rfl rfl) ?_ | refine ax_q (q_load1_ip rfl) ?_ | refine ax_q (q_load1_rptr rfl rfl (by assumption) rfl) ?_ | refine ax_q (q_load1_rptr rfl rfl (mapAt (by first | assumption | omega)) rfl) ?_
          refine ax_q (q_ibin rfl rfl rfl) ?_
          exact ax_nil ⟨rfl, by repeat (first | exact trivial | refine ⟨rfl, ?_⟩ | refine ⟨?_, ?_⟩)⟩
        refine ax_nil ?_
        refine cx_keep rfl rfl ?_
        refine cx_cond rfl (fun h6 => ?_) (fun h6 => ?_)
        · have h6 : badWait l.Waits[k] = true := h6
          refine cx_seq ?_
          refine cx_ops ?_
          refine ax_q (q_mov rfl) ?_
          refine ax_nil ?_
          refine cx_keep rfl rfl ?_
          refine cx_ret (ret0 rfl rfl ?_)
          exact ⟨by rw [show locksOK l = false from by unfold locksOK; rw [any_hit h5x h6]; simp]; rfl, rfl⟩
        · have h6 : badWait l.Waits[k] = false := h6
          refine cx_skip ?_
          refine cx_keep rfl rfl ?_
          refine cx_ops ?_
          refine ax_q (q_mov rfl) ?_
          refine ax_qe (r' := int ((k + 1 : Nat) : Int)) (q_ibin rfl rfl rfl) (by rw [wi (by omega) (by omega)]; rfl) ?_
          refine ax_q (q_mov rfl) ?_
          refine ax_nil ?_
          exact ⟨_, k + 1, by omega, ⟨by omega, rfl, before_step h5x hb h6⟩, by repeat (first | exact trivial | refine ⟨rfl, ?_⟩ | refine ⟨?_, ?_⟩)⟩
      · have h5 := dF h5
        have h5x : k = l.Waits.length := by omega
        refine cx_exit rfl ?_
        refine cx_keep rfl rfl ?_
        refine cx_seq ?_
        refine cx_ops ?_
        refine ax_q (q_mov rfl) ?_
        refine ax_nil ?_
        refine cx_keep rfl rfl ?_
        refine cx_ret (ret0 rfl rfl ?_)
        exact ⟨by rw [show locksOK l = true from by unfold locksOK; rw [ht, any_all (fun i hi => hb i (by omega)), decide_eq_true (show (l.Held.length : Int) ≤ 60 by omega), decide_eq_true (show (l.Waits.length : Int) ≤ 100 by omega)]; rfl]; rfl, rfl⟩


/- loop.example/g00332/spec.l06Free -/
def k_c_l06Free : XCode :=
  .seq (.ops [.op (some 2) (.box (.t 0)),
     .op (some 4) (.alloc [.nils 4, .nils 2])])
  (.keep [1, 2, 4] (.seq (.ops [.op (some 8) (.bslice 4 []),
     .op (some 9) (.bslice 2 []),
     .op (some 10) (.build [.nils 4, .nils 2] [(0, 1, .t 8), (1, 1, .t 9)]),
     .op (some 5) (.alloc [.nils 4, .nils 2]),
     .op none (.store 2 (.t 5) (.t 10))])
  (.keep [1, 2, 4, 5] (.seq (.seq (.ops [.op (some 6) (.mov (.k (.int .i64 0)))])
   (.keep [1, 2, 4, 5, 6] (.block 0 (.loop (.seq (.seq (.ops [.op (some 11) (.mov (.t 6)),
         .op (some 12) (.fadr (.t 2) 0),
         .op (some 13) (.load1 (.t 12)),
         .op (some 14) (.lenS (.t 13)),
         .op (some 15) (.bin .lss (.t 11) (.t 14))])
      (.keep [1, 2, 4, 5, 6, 15] (.cond (.t 15)
       (.skip)
       (.exit 0))))
     (.keep [1, 2, 4, 5, 6] (.seq (.block 1 (.seq (.ops [.op (some 18) (.fadr (.t 2) 0),
          .op (some 19) (.load1 (.t 18)),
          .op (some 20) (.mov (.t 6)),
          .op (some 21) (.iadr 4 (.t 19) (.t 20)),
          .op (some 22) (.fadr (.t 21) 0),
          .op (some 23) (.load1 (.t 22)),
          .op (some 24) (.mov (.t 1)),
          .op (some 25) (.bin .neq (.t 23) (.t 24))])
       (.keep [1, 2, 4, 5, 6, 25] (.cond (.t 25)
        (.drawE [[], [0], [], [2], [], [2, 3, 4], [2, 3, 4, 5], [2, 3, 4, 5, 6], [0, 1, 2, 3, 4, 5, 6, 7], [0, 1, 2, 3, 4, 5, 6, 7, 8], [0, 1, 2, 3, 4, 5, 6, 7, 8, 9]] [.op (some 26) (.fadr (.t 5) 0),
           .op (some 27) (.load1 (.t 26)),
           .op (some 28) (.fadr (.t 2) 0),
           .op (some 29) (.load1 (.t 28)),
           .op (some 30) (.mov (.t 6)),
           .op (some 31) (.iadr 4 (.t 29) (.t 30)),
           .op (some 32) (.loadN 4 (.t 31)),
           .op (some 33) (.bslice 4 [.t 32])]
          [.op (some 34) (.app 4 32 [.int .i64 0, .int .i64 0, .int .i64 0, .int .i64 0] (.t 27) (.t 33)),
           .op (some 35) (.fadr (.t 5) 0),
           .op none (.store 1 (.t 35) (.t 34))])
        (.skip)))))
     (.keep [1, 2, 4, 5, 6] (.ops [.op (some 16) (.mov (.t 6)),
       .op (some 17) (.bin .add (.t 16) (.k (.int .i64 1))),
       .op (some 6) (.mov (.t 17))])))))))))
  (.keep [1, 2, 4, 5] (.seq (.seq (.ops [.op (some 7) (.mov (.k (.int .i64 0)))])
   (.keep [1, 2, 4, 5, 7] (.block 2 (.loop (.seq (.seq (.ops [.op (some 36) (.mov (.t 7)),
         .op (some 37) (.fadr (.t 2) 1),
         .op (some 38) (.load1 (.t 37)),
         .op (some 39) (.lenS (.t 38)),
         .op (some 40) (.bin .lss (.t 36) (.t 39))])
      (.keep [1, 2, 4, 5, 7, 40] (.cond (.t 40)
       (.skip)
       (.exit 2))))
     (.keep [1, 2, 4, 5, 7] (.seq (.block 3 (.seq (.ops [.op (some 43) (.fadr (.t 2) 1),
          .op (some 44) (.load1 (.t 43)),
          .op (some 45) (.mov (.t 7)),
          .op (some 46) (.iadr 2 (.t 44) (.t 45)),
          .op (some 47) (.fadr (.t 46) 0),
          .op (some 48) (.load1 (.t 47)),
          .op (some 49) (.mov (.t 1)),
          .op (some 50) (.bin .neq (.t 48) (.t 49)),
          .op (some 51) (.mov (.t 50)),
          .andor 60 true 8 51 [.op (some 52) (.fadr (.t 2) 1), .op (some 53) (.load1 (.t 52)), .op (some 54) (.mov (.t 7)), .op (some 55) (.iadr 2 (.t 53) (.t 54)), .op (some 56) (.fadr (.t 55) 1), .op (some 57) (.load1 (.t 56)), .op (some 58) (.mov (.t 1)), .op (some 59) (.bin .neq (.t 57) (.t 58))] (.t 59)])
       (.keep [1, 2, 4, 5, 7, 60] (.cond (.t 60)
        (.drawE [[], [0], [], [2], [], [2, 3, 4], [2, 3, 4, 5], [2, 3, 4, 5, 6], [0, 1, 2, 3, 4, 5, 6, 7], [0, 1, 2, 3, 4, 5, 6, 7, 8], [0, 1, 2, 3, 4, 5, 6, 7, 8, 9]] [.op (some 61) (.fadr (.t 5) 1),
           .op (some 62) (.load1 (.t 61)),
           .op (some 63) (.fadr (.t 2) 1),
           .op (some 64) (.load1 (.t 63)),
           .op (some 65) (.mov (.t 7)),
           .op (some 66) (.iadr 2 (.t 64) (.t 65)),
           .op (some 67) (.loadN 2 (.t 66)),
           .op (some 68) (.bslice 2 [.t 67])]
          [.op (some 69) (.app 2 16 [.int .i64 0, .int .i64 0] (.t 62) (.t 68)),
           .op (some 70) (.fadr (.t 5) 1),
           .op none (.store 1 (.t 70) (.t 69))])
        (.skip)))))
     (.keep [1, 2, 4, 5, 7] (.ops [.op (some 41) (.mov (.t 7)),
       .op (some 42) (.bin .add (.t 41) (.k (.int .i64 1))),
       .op (some 7) (.mov (.t 42))])))))))))
  (.keep [4, 5] (.seq (.ops [.op (some 71) (.loadN 2 (.t 5)),
     .op none (.store 2 (.t 4) (.t 71))])
  (.keep [4] (.ret))))))))))
theorem k_c_l06Free_fits : fitsF Try.prog 34 ⟨72, k_c_l06Free, [.cN 4 2]⟩ = true := by kernel_rfl
theorem c_l06Free {l : GLocks} {tx : Int} (hw0 : l.Held.length ≤ 1048576) (hw1 : l.Waits.length ≤ 1048576) : Con Try.prog noMv 34 [l.av, int tx] [] (fun r h => r = (freed l tx).avO 0 1 ∧ h = (freed l tx).hO 0 1) := by
  refine con_of2 k_c_l06Free_fits rfl fun C hP hmv => ?_
  unfold k_c_l06Free
  let q : GLock → Bool := fun x => !decide (x.Tx = tx)
  let q2 : GWait → Bool := fun x => !(decide (x.Tx = tx) || decide (x.For = tx))
  refine cx_seq ?_
  refine cx_ops ?_
  refine ax_e (e_box rfl rfl (by decide) rfl rfl rfl) ?_
  refine ax_e (e_alloc (by decide) rfl rfl) ?_
  refine ax_nil ?_
  refine cx_keep rfl rfl ?_
  refine cx_seq ?_
  refine cx_ops ?_
  refine ax_e (e_bslice rfl (by decide) rfl rfl) ?_
  refine ax_e (e_bslice rfl (by decide) rfl rfl) ?_
  refine ax_q (q_build rfl) ?_
  refine ax_e (e_alloc (by decide) rfl rfl) ?_
  refine ax_e (e_st rfl rfl rfl rfl rfl rfl rfl) ?_
  refine ax_nil ?_
  refine cx_keep rfl rfl ?_
  refine cx_seq ?_
  refine cx_seq ?_
  refine cx_ops ?_
  refine ax_q (q_mov rfl) ?_
  refine ax_nil ?_
  refine cx_keep rfl rfl ?_
  refine cx_block ?_
  refine cx_loopU (fun n k => k ≤ l.Held.length ∧ n = l.Held.length - k) (fun k : Nat => [(6, int k)]) (fun k => [(2, .box [.d (.sl 4 (l.Held.map GLock.row)), .d (.sl 2 (l.Waits.map GWait.row))]), (4, .box [.zs 4, .zs 2]), (5, .box [.osl 8 4 0 ((l.Held.take k).filter q).length, .osl 9 2 0 0]), (8, .rows 4 (((l.Held.take k).filter q).map GLock.row)), (9, .rows 2 [])]) ⟨_, 0, ⟨Nat.zero_le _, rfl⟩, by repeat (first | exact trivial | refine ⟨rfl, ?_⟩ | refine ⟨?_, ?_⟩)⟩ ?_
  rintro n k ⟨hk, rfl⟩
  refine cx_seq ?_
  refine cx_seq ?_
  refine cx_ops ?_
  refine ax_q (q_mov rfl) ?_
  first | refine ax_q (q_fadr_ptr rfl) ?_ | refine ax_q (q_fadr_rptr rfl) ?_ | refine ax_q (q_fadr_ip rfl) ?_
  first | refine ax_q (q_load1_ptr rfl rfl rfl) ?_ | refine ax_q (q_load1_ip rfl) ?_ | refine ax_q (q_load1_rptr rfl rfl (by assumption) rfl) ?_ | refine ax_q (q_load1_rptr rfl rfl (mapAt (by first | assumption | omega)) rfl) ?_
  first | refine ax_q (q_lenS_map rfl) ?_ | refine ax_q (q_lenS_osl rfl) ?_ | refine ax_q (q_lenS_zs rfl) ?_ | refine ax_q (q_lenS rfl) ?_
  refine ax_q (q_ibin rfl rfl rfl) ?_
  refine ax_nil ?_
  refine cx_keep rfl rfl ?_
  refine cx_cond rfl (fun h0 => ?_) (fun h0 => ?_)
  · have h0 := dT h0
    have h0x : k < l.Held.length := by omega
    have hfl := @filt_le _ q l.Held k
    refine cx_skip ?_
    refine cx_keep rfl rfl ?_
    refine cx_seq ?_
    refine cx_block ?_
    refine cx_seq ?_
    refine cx_ops ?_
    first | refine ax_q (q_fadr_ptr rfl) ?_ | refine ax_q (q_fadr_rptr rfl) ?_ | refine ax_q (q_fadr_ip rfl) ?_
    first | refine ax_q (q_load1_ptr rfl rfl rfl) ?_ | refine ax_q (q_load1_ip rfl) ?_ | refine ax_q (q_load1_rptr rfl rfl (by assumption) rfl) ?_ | refine ax_q (q_load1_rptr rfl rfl (mapAt (by first | assumption | omega)) rfl) ?_
    refine ax_q (q_mov rfl) ?_
    refine ax_q (q_ix rfl rfl (mapAt h0x)) ?_
    first | refine ax_q (q_fadr_ptr rfl) ?_ | refine ax_q (q_fadr_rptr rfl) ?_ | refine ax_q (q_fadr_ip rfl) ?_
    first | refine ax_q (q_load1_ptr rfl rfl rfl) ?_ | refine ax_q (q_load1_ip rfl) ?_ | refine ax_q (q_load1_rptr rfl rfl (by assumption) rfl) ?_ | refine ax_q (q_load1_rptr rfl rfl (mapAt (by first | assumption | omega)) rfl) ?_
    refine ax_q (q_mov rfl) ?_
    refine ax_q (q_ibin rfl rfl rfl) ?_
    refine ax_nil ?_
    refine cx_keep rfl rfl ?_
    refine cx_cond rfl (fun h1 => ?_) (fun h1 => ?_)
    · have h1 := nT h1
      have e1 := filt_succ (q := q) h0x (by show (!decide _) = true; rw [decide_eq_false h1]; rfl)
      refine cx_drawE ?_
      first | refine ⟨_, loc_q (q_fadr_ptr rfl), ?_⟩ | refine ⟨_, loc_q (q_fadr_rptr rfl), ?_⟩ | refine ⟨_, loc_q (q_fadr_ip rfl), ?_⟩
      first | refine ⟨_, loc_q (q_load1_ptr rfl rfl rfl), ?_⟩ | refine ⟨_, loc_q (q_load1_ip rfl), ?_⟩ | refine ⟨_, loc_q (q_load1_rptr rfl rfl (by assumption) rfl), ?_⟩ | refine ⟨_, loc_q (q_load1_rptr rfl rfl (mapAt (by first | assumption | omega)) rfl), ?_⟩
      first | refine ⟨_, loc_q (q_fadr_ptr rfl), ?_⟩ | refine ⟨_, loc_q (q_fadr_rptr rfl), ?_⟩ | refine ⟨_, loc_q (q_fadr_ip rfl), ?_⟩
      first | refine ⟨_, loc_q (q_load1_ptr rfl rfl rfl), ?_⟩ | refine ⟨_, loc_q (q_load1_ip rfl), ?_⟩ | refine ⟨_, loc_q (q_load1_rptr rfl rfl (by assumption) rfl), ?_⟩ | refine ⟨_, loc_q (q_load1_rptr rfl rfl (mapAt (by first | assumption | omega)) rfl), ?_⟩
      refine ⟨_, loc_q (q_mov rfl), ?_⟩
      refine ⟨_, loc_q (q_ix rfl rfl (mapAt h0x)), ?_⟩
      first | refine ⟨_, loc_q (q_ldN rfl rfl rfl), ?_⟩ | refine ⟨_, loc_q (q_loadN_ip rfl (Nat.le_refl _)), ?_⟩ | refine ⟨_, loc_q (q_loadN_ip rfl (by decide)), ?_⟩ | refine ⟨_, loc_q (q_loadN_rptr rfl rfl (by assumption) (by decide)), ?_⟩ | refine ⟨_, loc_q (q_loadN_rptr rfl rfl (mapAt (by first | assumption | omega)) (by decide)), ?_⟩
      refine ⟨_, loc_bslice rfl, ?_⟩
      refine ⟨rfl, ?_⟩
      refine ax_e (e_appn (n' := ((l.Held.take (k + 1)).filter q).length) (rs' := ((l.Held.take (k + 1)).filter q).map GLock.row) rfl rfl (by simp) rfl (src_osl rfl (by simp)) (.inl (by decide)) (by simp; omega) (by rw [e1]; simp) (by rw [e1]; exact app1 rfl)) ?_
      first | refine ax_q (q_fadr_ptr rfl) ?_ | refine ax_q (q_fadr_rptr rfl) ?_ | refine ax_q (q_fadr_ip rfl) ?_
      refine ax_e (e_st rfl rfl rfl rfl rfl rfl rfl) ?_
      refine ax_nil ?_
      refine cx_keep rfl rfl ?_
      refine cx_ops ?_
      refine ax_q (q_mov rfl) ?_
      refine ax_qe (r' := int ((k + 1 : Nat) : Int)) (q_ibin rfl rfl rfl) (by rw [wi (by omega) (by omega)]; rfl) ?_
      refine ax_q (q_mov rfl) ?_
      refine ax_nil ?_
      exact ⟨_, k + 1, by omega, ⟨by omega, rfl⟩, by repeat (first | exact trivial | refine ⟨rfl, ?_⟩ | refine ⟨?_, ?_⟩)⟩
    · have h1 := nF h1
      have e1 := filt_same (q := q) h0x (by show (!decide _) = false; rw [decide_eq_true h1]; rfl)
      rw [← e1]
      refine cx_skip ?_
      refine cx_keep rfl rfl ?_
      refine cx_ops ?_
      refine ax_q (q_mov rfl) ?_
      refine ax_qe (r' := int ((k + 1 : Nat) : Int)) (q_ibin rfl rfl rfl) (by rw [wi (by omega) (by omega)]; rfl) ?_
      refine ax_q (q_mov rfl) ?_
      refine ax_nil ?_
      exact ⟨_, k + 1, by omega, ⟨by omega, rfl⟩, by repeat (first | exact trivial | refine ⟨rfl, ?_⟩ | refine ⟨?_, ?_⟩)⟩
  · have h0 := dF h0
    have h0x : k = l.Held.length := by omega
    subst h0x
    rw [List.take_length]
    refine cx_exit rfl ?_
    refine cx_keep rfl rfl ?_
    refine cx_seq ?_
    refine cx_seq ?_
    refine cx_ops ?_
    refine ax_q (q_mov rfl) ?_
    refine ax_nil ?_
    refine cx_keep rfl rfl ?_
    refine cx_block ?_
    refine cx_loopU (fun n k => k ≤ l.Waits.length ∧ n = l.Waits.length - k) (fun k : Nat => [(7, int k)]) (fun k => [(2, .box [.d (.sl 4 (l.Held.map GLock.row)), .d (.sl 2 (l.Waits.map GWait.row))]), (4, .box [.zs 4, .zs 2]), (5, .box [.osl 8 4 0 (l.Held.filter q).length, .osl 9 2 0 ((l.Waits.take k).filter q2).length]), (8, .rows 4 ((l.Held.filter q).map GLock.row)), (9, .rows 2 (((l.Waits.take k).filter q2).map GWait.row))]) ⟨_, 0, ⟨Nat.zero_le _, rfl⟩, by repeat (first | exact trivial | refine ⟨rfl, ?_⟩ | refine ⟨?_, ?_⟩)⟩ ?_
    rintro n k ⟨hk, rfl⟩
    refine cx_seq ?_
    refine cx_seq ?_
    refine cx_ops ?_
    refine ax_q (q_mov rfl) ?_
    first | refine ax_q (q_fadr_ptr rfl) ?_ | refine ax_q (q_fadr_rptr rfl) ?_ | refine ax_q (q_fadr_ip rfl) ?_
    first | refine ax_q (q_load1_ptr rfl rfl rfl) ?_ | refine ax_q (q_load1_ip rfl) ?_ | refine ax_q (q_load1_rptr rfl rfl (by assumption) rfl) ?_ | refine ax_q (q_load1_rptr rfl rfl (mapAt (by first | assumption | omega)) rfl) ?_
    first | refine ax_q (q_lenS_map rfl) ?_ | refine ax_q (q_lenS_osl rfl) ?_ | refine ax_q (q_lenS_zs rfl) ?_ | refine ax_q (q_lenS rfl) ?_
    refine ax_q (q_ibin rfl rfl rfl) ?_
    refine ax_nil ?_
    refine cx_keep rfl rfl ?_
    refine cx_cond rfl (fun h2 => ?_) (fun h2 => ?_)
    · have h2 := dT h2
      have h2x : k < l.Waits.length := by omega
      have hfl := @filt_le _ q2 l.Waits k
      refine cx_skip ?_
      refine cx_keep rfl rfl ?_
      refine cx_seq ?_
      refine cx_block ?_
      refine cx_seq ?_
      refine cx_ops ?_
      first | refine ax_q (q_fadr_ptr rfl) ?_ | refine ax_q (q_fadr_rptr rfl) ?_ | refine ax_q (q_fadr_ip rfl) ?_
      first | refine ax_q (q_load1_ptr rfl rfl rfl) ?_ | refine ax_q (q_load1_ip rfl) ?_ | refine ax_q (q_load1_rptr rfl rfl (by assumption) rfl) ?_ | refine ax_q (q_load1_rptr rfl rfl (mapAt (by first | assumption | omega)) rfl) ?_
      refine ax_q (q_mov rfl) ?_
      refine ax_q (q_ix rfl rfl (mapAt h2x)) ?_
      first | refine ax_q (q_fadr_ptr rfl) ?_ | refine ax_q (q_fadr_rptr rfl) ?_ | refine ax_q (q_fadr_ip rfl) ?_
      first | refine ax_q (q_load1_ptr rfl rfl rfl) ?_ | refine ax_q (q_load1_ip rfl) ?_ | refine ax_q (q_load1_rptr rfl rfl (by assumption) rfl) ?_ | refine ax_q (q_load1_rptr rfl rfl (mapAt (by first | assumption | omega)) rfl) ?_
      refine ax_q (q_mov rfl) ?_
      refine ax_q (q_ibin rfl rfl rfl) ?_
      refine ax_q (q_mov rfl) ?_
      apply ax_and rfl rfl
      · intro g
        have g := nT g
        first | refine ax_q (q_fadr_ptr rfl) ?_ | refine ax_q (q_fadr_rptr rfl) ?_ | refine ax_q (q_fadr_ip rfl) ?_
        first | refine ax_q (q_load1_ptr rfl rfl rfl) ?_ | refine ax_q (q_load1_ip rfl) ?_ | refine ax_q (q_load1_rptr rfl rfl (by assumption) rfl) ?_ | refine ax_q (q_load1_rptr rfl rfl (mapAt (by first | assumption | omega)) rfl) ?_
        refine ax_q (q_mov rfl) ?_
        refine ax_q (q_ix rfl rfl (mapAt h2x)) ?_
        first | refine ax_q (q_fadr_ptr rfl) ?_ | refine ax_q (q_fadr_rptr rfl) ?_ | refine ax_q (q_fadr_ip rfl) ?_
        first | refine ax_q (q_load1_ptr rfl rfl rfl) ?_ | refine ax_q (q_load1_ip rfl) ?_ | refine ax_q (q_load1_rptr rfl rfl (by assumption) rfl) ?_ | refine ax_q (q_load1_rptr rfl rfl (mapAt (by first | assumption | omega)) rfl) ?_
        refine ax_q (q_mov rfl) ?_
        refine ax_q (q_ibin rfl rfl rfl) ?_
        exact ax_nil ⟨rfl, by repeat (first | exact trivial | refine ⟨rfl, ?_⟩ | refine ⟨?_, ?_⟩)⟩
      refine ax_nil ?_
      refine cx_keep rfl rfl ?_
      refine cx_cond rfl (fun h3 => ?_) (fun h3 => ?_)
      · have h3 := (fun h => And.intro (nT (and_T h).1) (nT (and_T h).2)) h3
        have e3 := filt_succ (q := q2) h2x (by show (!(decide _ || decide _)) = true; rw [decide_eq_false h3.1, decide_eq_false h3.2]; rfl)
        refine cx_drawE ?_
        first | refine ⟨_, loc_q (q_fadr_ptr rfl), ?_⟩ | refine ⟨_, loc_q (q_fadr_rptr rfl), ?_⟩ | refine ⟨_, loc_q (q_fadr_ip rfl), ?_⟩
        first | refine ⟨_, loc_q (q_load1_ptr rfl rfl rfl), ?_⟩ | refine ⟨_, loc_q (q_load1_ip rfl), ?_⟩ | refine ⟨_, loc_q (q_load1_rptr rfl rfl (by assumption) rfl), ?_⟩ | refine ⟨_, loc_q (q_load1_rptr rfl rfl (mapAt (by first | assumption | omega)) rfl), ?_⟩
        first | refine ⟨_, loc_q (q_fadr_ptr rfl), ?_⟩ | refine ⟨_, loc_q (q_fadr_rptr rfl), ?_⟩ | refine ⟨_, loc_q (q_fadr_ip rfl), ?_⟩
        first | refine ⟨_, loc_q (q_load1_ptr rfl rfl rfl), ?_⟩ | refine ⟨_, loc_q (q_load1_ip rfl), ?_⟩ | refine ⟨_, loc_q (q_load1_rptr rfl rfl (by assumption) rfl), ?_⟩ | refine ⟨_, loc_q (q_load1_rptr rfl rfl (mapAt (by first | assumption | omega)) rfl), ?_⟩
        refine ⟨_, loc_q (q_mov rfl), ?_⟩
        refine ⟨_, loc_q (q_ix rfl rfl (mapAt h2x)), ?_⟩
        first | refine ⟨_, loc_q (q_ldN rfl rfl rfl), ?_⟩ | refine ⟨_, loc_q (q_loadN_ip rfl (Nat.le_refl _)), ?_⟩ | refine ⟨_, loc_q (q_loadN_ip rfl (by decide)), ?_⟩ | refine ⟨_, loc_q (q_loadN_rptr rfl rfl (by assumption) (by decide)), ?_⟩ | refine ⟨_, loc_q (q_loadN_rptr rfl rfl (mapAt (by first | assumption | omega)) (by decide)), ?_⟩
        refine ⟨_, loc_bslice rfl, ?_⟩
        refine ⟨rfl, ?_⟩
        refine ax_e (e_appn (n' := ((l.Waits.take (k + 1)).filter q2).length) (rs' := ((l.Waits.take (k + 1)).filter q2).map GWait.row) rfl rfl (by simp) rfl (src_osl rfl (by simp)) (.inl (by decide)) (by simp; omega) (by rw [e3]; simp) (by rw [e3]; exact app1 rfl)) ?_
        first | refine ax_q (q_fadr_ptr rfl) ?_ | refine ax_q (q_fadr_rptr rfl) ?_ | refine ax_q (q_fadr_ip rfl) ?_
        refine ax_e (e_st rfl rfl rfl rfl rfl rfl rfl) ?_
        refine ax_nil ?_
        refine cx_keep rfl rfl ?_
        refine cx_ops ?_
        refine ax_q (q_mov rfl) ?_
        refine ax_qe (r' := int ((k + 1 : Nat) : Int)) (q_ibin rfl rfl rfl) (by rw [wi (by omega) (by omega)]; rfl) ?_
        refine ax_q (q_mov rfl) ?_
        refine ax_nil ?_
        exact ⟨_, k + 1, by omega, ⟨by omega, rfl⟩, by repeat (first | exact trivial | refine ⟨rfl, ?_⟩ | refine ⟨?_, ?_⟩)⟩
      · have h3 := (fun h => (and_F h).imp nF nF) h3
        have e3 := filt_same (q := q2) h2x (by show (!(decide _ || decide _)) = false; rcases h3 with h3 | h3 <;> simp [h3])
        rw [← e3]
        refine cx_skip ?_
        refine cx_keep rfl rfl ?_
        refine cx_ops ?_
        refine ax_q (q_mov rfl) ?_
        refine ax_qe (r' := int ((k + 1 : Nat) : Int)) (q_ibin rfl rfl rfl) (by rw [wi (by omega) (by omega)]; rfl) ?_
        refine ax_q (q_mov rfl) ?_
        refine ax_nil ?_
        exact ⟨_, k + 1, by omega, ⟨by omega, rfl⟩, by repeat (first | exact trivial | refine ⟨rfl, ?_⟩ | refine ⟨?_, ?_⟩)⟩
    · have h2 := dF h2
      have h2x : k = l.Waits.length := by omega
      subst h2x
      rw [List.take_length]
      refine cx_exit rfl ?_
      refine cx_keep rfl rfl ?_
      refine cx_seq ?_
      refine cx_ops ?_
      first | refine ax_q (q_ldN rfl rfl rfl) ?_ | refine ax_q (q_loadN_ip rfl (Nat.le_refl _)) ?_ | refine ax_q (q_loadN_ip rfl (by decide)) ?_ | refine ax_q (q_loadN_rptr rfl rfl (by assumption) (by decide)) ?_ | refine ax_q (q_loadN_rptr rfl rfl (mapAt (by first | assumption | omega)) (by decide)) ?_
      refine ax_e (e_st rfl rfl rfl rfl rfl rfl rfl) ?_
      refine ax_nil ?_
      refine cx_keep rfl rfl ?_
      refine cx_ret (retN (fun e => bif Nat.beq e 9 then 1 else 0) [8, 9] rfl rfl rfl rfl rfl ?_)
      exact ⟨rfl, rfl⟩


/- loop.example/g00332/spec.FreeLocks -/
def k_c_sFreeLocks : XCode :=
  .seq (.ops [.op (some 2) (.box (.t 0)),
     .op (some 4) (.alloc [.nils 4, .nils 2]),
     .op (some 5) (.mov (.k (.int .i64 0)))])
  (.keep [1, 2, 4] (.seq (.seq (.ops [.op (some 6) (.loadN 2 (.t 2)),
      .call (some 7) 32 [.t 6],
      .op (some 8) (.not (.t 7))])
   (.keep [1, 2, 4, 8] (.cond (.t 8)
    (.seq (.ops [.op (some 9) (.build [.nils 4, .nils 2] []),
        .op none (.store 2 (.t 4) (.t 9)),
        .op (some 5) (.mov (.k (.int .i64 1)))])
     (.keep [4, 5] (.ret)))
    (.skip))))
  (.keep [1, 2, 4] (.seq (.seq (.ops [.op (some 10) (.mov (.t 1)),
      .call (some 11) 33 [.t 10, .k (.int .i64 1), .k (.int .i64 60)],
      .op (some 12) (.not (.t 11))])
   (.keep [1, 2, 4, 12] (.cond (.t 12)
    (.seq (.ops [.op (some 13) (.build [.nils 4, .nils 2] []),
        .op none (.store 2 (.t 4) (.t 13)),
        .op (some 5) (.mov (.k (.int .i64 4)))])
     (.keep [4, 5] (.ret)))
    (.skip))))
  (.keep [1, 2, 4] (.seq (.ops [.op (some 14) (.loadN 2 (.t 2)),
     .op (some 15) (.mov (.t 1)),
     .call (some 16) 34 [.t 14, .t 15],
     .op none (.store 2 (.t 4) (.t 16)),
     .op (some 5) (.mov (.k (.int .i64 0)))])
  (.keep [4, 5] (.ret))))))))
theorem k_c_sFreeLocks_fits : fitsF Try.prog 11 ⟨17, k_c_sFreeLocks, [.cN 4 2, .t 5]⟩ = true := by kernel_rfl
theorem c_sFreeLocks {l : GLocks} {tx : Int} (hw0 : l.Held.length ≤ 1048576) (hw1 : l.Waits.length ≤ 1048576) (hl : wfL GLock.wf l.Held) : Con Try.prog noMv 11 [l.av, int tx] [] (fun r h => r = .tup [(freeLocks l tx).1.avO 0 1, int (freeLocks l tx).2] ∧ h = (freeLocks l tx).1.hO 0 1) := by
  refine con_of2 k_c_sFreeLocks_fits rfl fun C hP hmv => ?_
  unfold k_c_sFreeLocks
  refine cx_seq ?_
  refine cx_ops ?_
  refine ax_e (e_box rfl rfl (by decide) rfl rfl rfl) ?_
  refine ax_e (e_alloc (by decide) rfl rfl) ?_
  refine ax_q (q_mov rfl) ?_
  refine ax_nil ?_
  refine cx_keep rfl rfl ?_
  refine cx_seq ?_
  refine cx_seq ?_
  refine cx_ops ?_
  first | refine ax_q (q_ldN rfl rfl rfl) ?_ | refine ax_q (q_loadN_ip rfl (Nat.le_refl _)) ?_ | refine ax_q (q_loadN_ip rfl (by decide)) ?_ | refine ax_q (q_loadN_rptr rfl rfl (by assumption) (by decide)) ?_ | refine ax_q (q_loadN_rptr rfl rfl (mapAt (by first | assumption | omega)) (by decide)) ?_
  first | refine ax_call rfl (vc_pure0 (c_sLocksOK  ?_ ?_ ?_) hP rfl rfl ?_) | refine ax_call rfl (vc_lend0 (c_sLocksOK  ?_ ?_ ?_) hP (by repeat (first | exact lal_id _ rfl | exact LAL.nil | refine LAL.cons ?_ ?_ | exact la_id _ rfl | exact LA.lend (lend_whole rfl (by simp)) | refine LA.agg ?_ | refine LA.fn ?_ | refine LA.lend ?_ | exact Lend.d _ | exact Lend.zs _ | exact lend_whole rfl (by simp) | refine Lend.ptr rfl ?_ | refine Lend.fn ?_ | exact LendL.nil | refine LendL.cons ?_ ?_)) rfl rfl ?_)
  · first | assumption | omega | (simp; done) | (simp; omega)
  · first | assumption | omega | (simp; done) | (simp; omega)
  · first | assumption | omega | (simp; done) | (simp; omega)
  refine ax_q (q_not rfl) ?_
  refine ax_nil ?_
  refine cx_keep rfl rfl ?_
  refine cx_cond rfl (fun h0 => ?_) (fun h0 => ?_)
  · have h0 := bT h0
    refine cx_seq ?_
    refine cx_ops ?_
    refine ax_q (q_build rfl) ?_
    refine ax_e (e_st rfl rfl rfl rfl rfl rfl rfl) ?_
    refine ax_q (q_mov rfl) ?_
    refine ax_nil ?_
    refine cx_keep rfl rfl ?_
    have e : freeLocks l tx = (.zero, 1) := by unfold freeLocks; rw [if_pos h0]
    refine cx_wk (wk_virt 900 4 rfl rfl rfl) ?_
    refine cx_wk (wk_zsb 4 900 0 rfl rfl rfl) ?_
    refine cx_wk (wk_virt 901 2 rfl rfl rfl) ?_
    refine cx_wk (wk_zsb 4 901 1 rfl rfl rfl) ?_
    refine cx_ret (retN (fun e => bif Nat.beq e 901 then 1 else 0) [900, 901] rfl rfl rfl rfl rfl ?_)
    rw [e]; exact ⟨rfl, rfl⟩
  · have h0 := bF h0
    refine cx_skip ?_
    refine cx_keep rfl rfl ?_
    refine cx_seq ?_
    refine cx_seq ?_
    refine cx_ops ?_
    refine ax_q (q_mov rfl) ?_
    first | refine ax_call rfl (vc_pure0 (c_l01In  ) hP rfl rfl ?_) | refine ax_call rfl (vc_lend0 (c_l01In  ) hP (by repeat (first | exact lal_id _ rfl | exact LAL.nil | refine LAL.cons ?_ ?_ | exact la_id _ rfl | exact LA.lend (lend_whole rfl (by simp)) | refine LA.agg ?_ | refine LA.fn ?_ | refine LA.lend ?_ | exact Lend.d _ | exact Lend.zs _ | exact lend_whole rfl (by simp) | refine Lend.ptr rfl ?_ | refine Lend.fn ?_ | exact LendL.nil | refine LendL.cons ?_ ?_)) rfl rfl ?_)
    refine ax_q (q_not rfl) ?_
    refine ax_nil ?_
    refine cx_keep rfl rfl ?_
    refine cx_cond rfl (fun h1 => ?_) (fun h1 => ?_)
    · have h1 := bT h1
      refine cx_seq ?_
      refine cx_ops ?_
      refine ax_q (q_build rfl) ?_
      refine ax_e (e_st rfl rfl rfl rfl rfl rfl rfl) ?_
      refine ax_q (q_mov rfl) ?_
      refine ax_nil ?_
      refine cx_keep rfl rfl ?_
      have e : freeLocks l tx = (.zero, 4) := by unfold freeLocks; rw [if_neg (by rw [h0]; simp), if_pos (show isTx tx = false from h1)]
      refine cx_wk (wk_virt 900 4 rfl rfl rfl) ?_
      refine cx_wk (wk_zsb 4 900 0 rfl rfl rfl) ?_
      refine cx_wk (wk_virt 901 2 rfl rfl rfl) ?_
      refine cx_wk (wk_zsb 4 901 1 rfl rfl rfl) ?_
      refine cx_ret (retN (fun e => bif Nat.beq e 901 then 1 else 0) [900, 901] rfl rfl rfl rfl rfl ?_)
      rw [e]; exact ⟨rfl, rfl⟩
    · have h1 := bF h1
      refine cx_skip ?_
      refine cx_keep rfl rfl ?_
      refine cx_seq ?_
      refine cx_ops ?_
      first | refine ax_q (q_ldN rfl rfl rfl) ?_ | refine ax_q (q_loadN_ip rfl (Nat.le_refl _)) ?_ | refine ax_q (q_loadN_ip rfl (by decide)) ?_ | refine ax_q (q_loadN_rptr rfl rfl (by assumption) (by decide)) ?_ | refine ax_q (q_loadN_rptr rfl rfl (mapAt (by first | assumption | omega)) (by decide)) ?_
      refine ax_q (q_mov rfl) ?_
      first | refine ax_call rfl (vc_pure (c_l06Free  ?_ ?_) hP rfl ?_) | refine ax_call rfl (vc_lend (c_l06Free  ?_ ?_) hP (by repeat (first | exact lal_id _ rfl | exact LAL.nil | refine LAL.cons ?_ ?_ | exact la_id _ rfl | exact LA.lend (lend_whole rfl (by simp)) | refine LA.agg ?_ | refine LA.fn ?_ | refine LA.lend ?_ | exact Lend.d _ | exact Lend.zs _ | exact lend_whole rfl (by simp) | refine Lend.ptr rfl ?_ | refine Lend.fn ?_ | exact LendL.nil | refine LendL.cons ?_ ?_)) ?_)
      · first | assumption | omega | (simp; done) | (simp; omega)
      · first | assumption | omega | (simp; done) | (simp; omega)
      rintro r h ⟨rfl, rfl⟩
      refine ⟨fun i => 16 + 200 * i, [0, 1], ⟨rfl, rfl, rfl, rfl, rfl, (by first | exact (fun h => absurd h Bool.false_ne_true) | exact (fun _ => ⟨rfl, (noisl_of (by repeat (first | exact trivial | refine ⟨noisl_map (fun _ => rfl), ?_⟩ | refine ⟨?_, ?_⟩)))⟩))⟩, ?_⟩
      skip
      refine ax_e (e_st rfl rfl rfl rfl rfl rfl rfl) ?_
      refine ax_q (q_mov rfl) ?_
      refine ax_nil ?_
      refine cx_keep rfl rfl ?_
      refine cx_ret (retN (fun e => bif Nat.beq e 216 then 1 else 0) [16, 216] rfl rfl rfl rfl rfl ?_)
      rw [freeLocks_ok h0 h1]; exact ⟨rfl, rfl⟩


/- loop.example/g00332/laws.szLockS -/
def k_c_szLockS : XCode :=
  .seq (.ops [.op (some 4) (.mov (.k (.int .i64 0)))])
  (.keep [0, 1] (.seq (.ops [.op (some 5) (.mov (.t 1)),
     .op (some 6) (.mov (.t 0)),
     .op (some 7) (.lenS (.t 6)),
     .op (some 8) (.bin .sub (.t 5) (.t 7)),
     .op (some 1) (.mov (.t 8))])
  (.keep [1] (.seq (.seq (.ops [.op (some 9) (.mov (.t 1)),
      .op (some 10) (.bin .lss (.t 9) (.k (.int .i64 0)))])
   (.keep [1, 10] (.cond (.t 10)
    (.seq (.ops [.op (some 4) (.mov (.k (.int .i64 (-1))))])
     (.keep [4] (.ret)))
    (.skip))))
  (.keep [1] (.seq (.ops [.op (some 11) (.mov (.t 1)),
     .op (some 4) (.mov (.t 11))])
  (.keep [4] (.ret))))))))
theorem k_c_szLockS_fits : fitsF Try.prog 38 ⟨12, k_c_szLockS, [.t 4]⟩ = true := by kernel_rfl
theorem c_szLockS {xs : List GLock} {left : Int} (h0 : 0 ≤ left) (hl : left ≤ 1048576) (hw : wfL GLock.wf xs) : Con Try.prog noMv 38 [.d (.sl 4 (xs.map GLock.row)), int left] [] (fun r h => r = int (szF left (szL (fun _ => 0) xs)) ∧ h = []) := by
  refine con_of2 k_c_szLockS_fits rfl fun C hP hmv => ?_
  unfold k_c_szLockS
  have hw1 := hw.1
  have sp := szF_spec left (szL (fun _ => 0) xs)
  have e0 : szL (fun _ => 0) xs = xs.length := by unfold szL; rw [sumBy_zero]; rfl
  rw [e0] at sp ⊢
  refine cx_seq ?_
  refine cx_ops ?_
  refine ax_q (q_mov rfl) ?_
  refine ax_nil ?_
  refine cx_keep rfl rfl ?_
  refine cx_seq ?_
  refine cx_ops ?_
  refine ax_q (q_mov rfl) ?_
  refine ax_q (q_mov rfl) ?_
  first | refine ax_q (q_lenS_map rfl) ?_ | refine ax_q (q_lenS_osl rfl) ?_ | refine ax_q (q_lenS_zs rfl) ?_ | refine ax_q (q_lenS rfl) ?_
  refine ax_q (q_sub rfl rfl (by omega)) ?_
  refine ax_q (q_mov rfl) ?_
  refine ax_nil ?_
  refine cx_keep rfl rfl ?_
  refine cx_seq ?_
  refine cx_seq ?_
  refine cx_ops ?_
  refine ax_q (q_mov rfl) ?_
  refine ax_q (q_ibin rfl rfl rfl) ?_
  refine ax_nil ?_
  refine cx_keep rfl rfl ?_
  refine cx_cond rfl (fun h0 => ?_) (fun h0 => ?_)
  · have h0 := dT h0
    refine cx_seq ?_
    refine cx_ops ?_
    refine ax_q (q_mov rfl) ?_
    refine ax_nil ?_
    refine cx_keep rfl rfl ?_
    refine cx_ret (ret0 rfl rfl ?_)
    exact ⟨congrArg int (by omega), rfl⟩
  · have h0 := dF h0
    refine cx_skip ?_
    refine cx_keep rfl rfl ?_
    refine cx_seq ?_
    refine cx_ops ?_
    refine ax_q (q_mov rfl) ?_
    refine ax_q (q_mov rfl) ?_
    refine ax_nil ?_
    refine cx_keep rfl rfl ?_
    refine cx_ret (ret0 rfl rfl ?_)
    exact ⟨congrArg int (by omega), rfl⟩


/- loop.example/g00332/laws.szWaitS -/
def k_c_szWaitS : XCode :=
  .seq (.ops [.op (some 4) (.mov (.k (.int .i64 0)))])
  (.keep [0, 1] (.seq (.ops [.op (some 5) (.mov (.t 1)),
     .op (some 6) (.mov (.t 0)),
     .op (some 7) (.lenS (.t 6)),
     .op (some 8) (.bin .sub (.t 5) (.t 7)),
     .op (some 1) (.mov (.t 8))])
  (.keep [1] (.seq (.seq (.ops [.op (some 9) (.mov (.t 1)),
      .op (some 10) (.bin .lss (.t 9) (.k (.int .i64 0)))])
   (.keep [1, 10] (.cond (.t 10)
    (.seq (.ops [.op (some 4) (.mov (.k (.int .i64 (-1))))])
     (.keep [4] (.ret)))
    (.skip))))
  (.keep [1] (.seq (.ops [.op (some 11) (.mov (.t 1)),
     .op (some 4) (.mov (.t 11))])
  (.keep [4] (.ret))))))))
theorem k_c_szWaitS_fits : fitsF Try.prog 39 ⟨12, k_c_szWaitS, [.t 4]⟩ = true := by kernel_rfl
theorem c_szWaitS {xs : List GWait} {left : Int} (h0 : 0 ≤ left) (hl : left ≤ 1048576) (hw : wfL GWait.wf xs) : Con Try.prog noMv 39 [.d (.sl 2 (xs.map GWait.row)), int left] [] (fun r h => r = int (szF left (szL (fun _ => 0) xs)) ∧ h = []) := by
  refine con_of2 k_c_szWaitS_fits rfl fun C hP hmv => ?_
  unfold k_c_szWaitS
  have hw1 := hw.1
  have sp := szF_spec left (szL (fun _ => 0) xs)
  have e0 : szL (fun _ => 0) xs = xs.length := by unfold szL; rw [sumBy_zero]; rfl
  rw [e0] at sp ⊢
  refine cx_seq ?_
  refine cx_ops ?_
  refine ax_q (q_mov rfl) ?_
  refine ax_nil ?_
  refine cx_keep rfl rfl ?_
  refine cx_seq ?_
  refine cx_ops ?_
  refine ax_q (q_mov rfl) ?_
  refine ax_q (q_mov rfl) ?_
  first | refine ax_q (q_lenS_map rfl) ?_ | refine ax_q (q_lenS_osl rfl) ?_ | refine ax_q (q_lenS_zs rfl) ?_ | refine ax_q (q_lenS rfl) ?_
  refine ax_q (q_sub rfl rfl (by omega)) ?_
  refine ax_q (q_mov rfl) ?_
  refine ax_nil ?_
  refine cx_keep rfl rfl ?_
  refine cx_seq ?_
  refine cx_seq ?_
  refine cx_ops ?_
  refine ax_q (q_mov rfl) ?_
  refine ax_q (q_ibin rfl rfl rfl) ?_
  refine ax_nil ?_
  refine cx_keep rfl rfl ?_
  refine cx_cond rfl (fun h0 => ?_) (fun h0 => ?_)
  · have h0 := dT h0
    refine cx_seq ?_
    refine cx_ops ?_
    refine ax_q (q_mov rfl) ?_
    refine ax_nil ?_
    refine cx_keep rfl rfl ?_
    refine cx_ret (ret0 rfl rfl ?_)
    exact ⟨congrArg int (by omega), rfl⟩
  · have h0 := dF h0
    refine cx_skip ?_
    refine cx_keep rfl rfl ?_
    refine cx_seq ?_
    refine cx_ops ?_
    refine ax_q (q_mov rfl) ?_
    refine ax_q (q_mov rfl) ?_
    refine ax_nil ?_
    refine cx_keep rfl rfl ?_
    refine cx_ret (ret0 rfl rfl ?_)
    exact ⟨congrArg int (by omega), rfl⟩


/- loop.example/g00332/laws.szLocks -/
def k_c_szLocks : XCode :=
  .seq (.ops [.op (some 2) (.box (.t 0)),
     .op (some 4) (.mov (.k (.int .i64 0)))])
  (.keep [1, 2] (.seq (.ops [.op (some 5) (.fadr (.t 2) 0),
     .op (some 6) (.load1 (.t 5)),
     .op (some 7) (.mov (.t 1)),
     .call (some 8) 38 [.t 6, .t 7],
     .op (some 1) (.mov (.t 8))])
  (.keep [1, 2] (.seq (.seq (.ops [.op (some 9) (.mov (.t 1)),
      .op (some 10) (.bin .lss (.t 9) (.k (.int .i64 0)))])
   (.keep [1, 2, 10] (.cond (.t 10)
    (.seq (.ops [.op (some 4) (.mov (.k (.int .i64 (-1))))])
     (.keep [4] (.ret)))
    (.skip))))
  (.keep [1, 2] (.seq (.ops [.op (some 11) (.fadr (.t 2) 1),
     .op (some 12) (.load1 (.t 11)),
     .op (some 13) (.mov (.t 1)),
     .call (some 14) 39 [.t 12, .t 13],
     .op (some 1) (.mov (.t 14))])
  (.keep [1] (.seq (.seq (.ops [.op (some 15) (.mov (.t 1)),
      .op (some 16) (.bin .lss (.t 15) (.k (.int .i64 0)))])
   (.keep [1, 16] (.cond (.t 16)
    (.seq (.ops [.op (some 4) (.mov (.k (.int .i64 (-1))))])
     (.keep [4] (.ret)))
    (.skip))))
  (.keep [1] (.seq (.ops [.op (some 17) (.mov (.t 1)),
     .op (some 4) (.mov (.t 17))])
  (.keep [4] (.ret))))))))))))
theorem k_c_szLocks_fits : fitsF Try.prog 14 ⟨18, k_c_szLocks, [.t 4]⟩ = true := by kernel_rfl
theorem c_szLocks {a : GLocks} {left : Int} (h0 : 0 ≤ left) (hl : left ≤ 1048576) (hw : a.wf) : Con Try.prog noMv 14 [a.av, int left] [] (fun r h => r = int (szF left (GLocks.sz a)) ∧ h = []) := by
  refine con_of2 k_c_szLocks_fits rfl fun C hP hmv => ?_
  unfold k_c_szLocks
  have sp := szF_spec left (GLocks.sz a)
  have e0 : GLocks.sz a = szL (fun _ => 0) a.Held + szL (fun _ => 0) a.Waits := rfl
  rw [e0] at sp ⊢
  obtain ⟨w0, w1⟩ := hw
  refine cx_seq ?_
  refine cx_ops ?_
  refine ax_e (e_box rfl rfl (by decide) rfl rfl rfl) ?_
  refine ax_q (q_mov rfl) ?_
  refine ax_nil ?_
  refine cx_keep rfl rfl ?_
  refine cx_seq ?_
  refine cx_ops ?_
  first | refine ax_q (q_fadr_ptr rfl) ?_ | refine ax_q (q_fadr_rptr rfl) ?_ | refine ax_q (q_fadr_ip rfl) ?_
  first | refine ax_q (q_load1_ptr rfl rfl rfl) ?_ | refine ax_q (q_load1_ip rfl) ?_ | refine ax_q (q_load1_rptr rfl rfl (by assumption) rfl) ?_ | refine ax_q (q_load1_rptr rfl rfl (mapAt (by first | assumption | omega)) rfl) ?_
  refine ax_q (q_mov rfl) ?_
  have q0 := szF_spec left (szL (fun _ => 0) a.Held)
  first | refine ax_call rfl (vc_pure0 (c_szLockS  ?_ ?_ ?_) hP rfl rfl ?_) | refine ax_call rfl (vc_lend0 (c_szLockS  ?_ ?_ ?_) hP (by repeat (first | exact lal_id _ rfl | exact LAL.nil | refine LAL.cons ?_ ?_ | exact la_id _ rfl | exact LA.lend (lend_whole rfl (by simp)) | refine LA.agg ?_ | refine LA.fn ?_ | refine LA.lend ?_ | exact Lend.d _ | exact Lend.zs _ | exact lend_whole rfl (by simp) | refine Lend.ptr rfl ?_ | refine Lend.fn ?_ | exact LendL.nil | refine LendL.cons ?_ ?_)) rfl rfl ?_)
  · first | assumption | omega | (simp; done) | (simp; omega)
  · first | assumption | omega | (simp; done) | (simp; omega)
  · first | assumption | omega | (simp; done) | (simp; omega)
  refine ax_q (q_mov rfl) ?_
  refine ax_nil ?_
  refine cx_keep rfl rfl ?_
  refine cx_seq ?_
  refine cx_seq ?_
  refine cx_ops ?_
  refine ax_q (q_mov rfl) ?_
  refine ax_q (q_ibin rfl rfl rfl) ?_
  refine ax_nil ?_
  refine cx_keep rfl rfl ?_
  refine cx_cond rfl (fun h0 => ?_) (fun h0 => ?_)
  · have h0 := dT h0
    refine cx_seq ?_
    refine cx_ops ?_
    refine ax_q (q_mov rfl) ?_
    refine ax_nil ?_
    refine cx_keep rfl rfl ?_
    refine cx_ret (ret0 rfl rfl ?_)
    exact ⟨congrArg int (by omega), rfl⟩
  · have h0 := dF h0
    refine cx_skip ?_
    refine cx_keep rfl rfl ?_
    refine cx_seq ?_
    refine cx_ops ?_
    first | refine ax_q (q_fadr_ptr rfl) ?_ | refine ax_q (q_fadr_rptr rfl) ?_ | refine ax_q (q_fadr_ip rfl) ?_
    first | refine ax_q (q_load1_ptr rfl rfl rfl) ?_ | refine ax_q (q_load1_ip rfl) ?_ | refine ax_q (q_load1_rptr rfl rfl (by assumption) rfl) ?_ | refine ax_q (q_load1_rptr rfl rfl (mapAt (by first | assumption | omega)) rfl) ?_
    refine ax_q (q_mov rfl) ?_
    have q1 := szF_spec (szF left (szL (fun _ => 0) a.Held)) (szL (fun _ => 0) a.Waits)
    first | refine ax_call rfl (vc_pure0 (c_szWaitS  ?_ ?_ ?_) hP rfl rfl ?_) | refine ax_call rfl (vc_lend0 (c_szWaitS  ?_ ?_ ?_) hP (by repeat (first | exact lal_id _ rfl | exact LAL.nil | refine LAL.cons ?_ ?_ | exact la_id _ rfl | exact LA.lend (lend_whole rfl (by simp)) | refine LA.agg ?_ | refine LA.fn ?_ | refine LA.lend ?_ | exact Lend.d _ | exact Lend.zs _ | exact lend_whole rfl (by simp) | refine Lend.ptr rfl ?_ | refine Lend.fn ?_ | exact LendL.nil | refine LendL.cons ?_ ?_)) rfl rfl ?_)
    · first | assumption | omega | (simp; done) | (simp; omega)
    · first | assumption | omega | (simp; done) | (simp; omega)
    · first | assumption | omega | (simp; done) | (simp; omega)
    refine ax_q (q_mov rfl) ?_
    refine ax_nil ?_
    refine cx_keep rfl rfl ?_
    refine cx_seq ?_
    refine cx_seq ?_
    refine cx_ops ?_
    refine ax_q (q_mov rfl) ?_
    refine ax_q (q_ibin rfl rfl rfl) ?_
    refine ax_nil ?_
    refine cx_keep rfl rfl ?_
    refine cx_cond rfl (fun h1 => ?_) (fun h1 => ?_)
    · have h1 := dT h1
      refine cx_seq ?_
      refine cx_ops ?_
      refine ax_q (q_mov rfl) ?_
      refine ax_nil ?_
      refine cx_keep rfl rfl ?_
      refine cx_ret (ret0 rfl rfl ?_)
      exact ⟨congrArg int (by omega), rfl⟩
    · have h1 := dF h1
      refine cx_skip ?_
      refine cx_keep rfl rfl ?_
      refine cx_seq ?_
      refine cx_ops ?_
      refine ax_q (q_mov rfl) ?_
      refine ax_q (q_mov rfl) ?_
      refine ax_nil ?_
      refine cx_keep rfl rfl ?_
      refine cx_ret (ret0 rfl rfl ?_)
      exact ⟨congrArg int (by omega), rfl⟩


/- loop.example/g00332/laws.toLock -/
def k_c_toLock : XCode :=
  .seq (.ops [.op (some 1) (.box (.t 0)),
     .op (some 2) (.alloc [.int .i64 0, .int .i64 0, .int .i64 0, .int .i64 0])])
  (.keep [1, 2] (.seq (.ops [.op (some 3) (.alloc [.int .i64 0, .int .i64 0, .int .i64 0, .int .i64 0])])
  (.keep [1, 2, 3] (.seq (.ops [.op (some 4) (.fadr (.t 1) 0),
     .op (some 5) (.load1 (.t 4)),
     .op (some 6) (.fadr (.t 3) 0),
     .op none (.store 1 (.t 6) (.t 5))])
  (.keep [1, 2, 3] (.seq (.ops [.op (some 7) (.fadr (.t 1) 1),
     .op (some 8) (.load1 (.t 7)),
     .op (some 9) (.fadr (.t 3) 1),
     .op none (.store 1 (.t 9) (.t 8))])
  (.keep [1, 2, 3] (.seq (.ops [.op (some 10) (.fadr (.t 1) 2),
     .op (some 11) (.load1 (.t 10)),
     .op (some 12) (.fadr (.t 3) 2),
     .op none (.store 1 (.t 12) (.t 11))])
  (.keep [1, 2, 3] (.seq (.ops [.op (some 13) (.fadr (.t 1) 3),
     .op (some 14) (.load1 (.t 13)),
     .op (some 15) (.fadr (.t 3) 3),
     .op none (.store 1 (.t 15) (.t 14))])
  (.keep [2, 3] (.seq (.ops [.op (some 16) (.loadN 4 (.t 3)),
     .op none (.store 4 (.t 2) (.t 16))])
  (.keep [2] (.ret))))))))))))))
theorem k_c_toLock_fits : fitsF Try.prog 72 ⟨17, k_c_toLock, [.cN 2 4]⟩ = true := by kernel_rfl
theorem c_toLock {a : GLock} : Con Try.prog noMv 72 [a.av] [] (fun r h => r = a.av ∧ h = []) := by
  refine con_of2 k_c_toLock_fits rfl fun C hP hmv => ?_
  unfold k_c_toLock
  refine cx_seq ?_
  refine cx_ops ?_
  refine ax_e (e_box rfl rfl (by decide) rfl rfl rfl) ?_
  refine ax_e (e_alloc (by decide) rfl rfl) ?_
  refine ax_nil ?_
  refine cx_keep rfl rfl ?_
  refine cx_seq ?_
  refine cx_ops ?_
  refine ax_e (e_alloc (by decide) rfl rfl) ?_
  refine ax_nil ?_
  refine cx_keep rfl rfl ?_
  refine cx_seq ?_
  refine cx_ops ?_
  first | refine ax_q (q_fadr_ptr rfl) ?_ | refine ax_q (q_fadr_rptr rfl) ?_ | refine ax_q (q_fadr_ip rfl) ?_
  first | refine ax_q (q_load1_ptr rfl rfl rfl) ?_ | refine ax_q (q_load1_ip rfl) ?_ | refine ax_q (q_load1_rptr rfl rfl (by assumption) rfl) ?_ | refine ax_q (q_load1_rptr rfl rfl (mapAt (by first | assumption | omega)) rfl) ?_
  first | refine ax_q (q_fadr_ptr rfl) ?_ | refine ax_q (q_fadr_rptr rfl) ?_ | refine ax_q (q_fadr_ip rfl) ?_
  refine ax_e (e_st rfl rfl rfl rfl rfl rfl rfl) ?_
  refine ax_nil ?_
  refine cx_keep rfl rfl ?_
  refine cx_seq ?_
  refine cx_ops ?_
  first | refine ax_q (q_fadr_ptr rfl) ?_ | refine ax_q (q_fadr_rptr rfl) ?_ | refine ax_q (q_fadr_ip rfl) ?_
  first | refine ax_q (q_load1_ptr rfl rfl rfl) ?_ | refine ax_q (q_load1_ip rfl) ?_ | refine ax_q (q_load1_rptr rfl rfl (by assumption) rfl) ?_ | refine ax_q (q_load1_rptr rfl rfl (mapAt (by first | assumption | omega)) rfl) ?_
  first | refine ax_q (q_fadr_ptr rfl) ?_ | refine ax_q (q_fadr_rptr rfl) ?_ | refine ax_q (q_fadr_ip rfl) ?_
  refine ax_e (e_st rfl rfl rfl rfl rfl rfl rfl) ?_
  refine ax_nil ?_
  refine cx_keep rfl rfl ?_
  refine cx_seq ?_
  refine cx_ops ?_
  first | refine ax_q (q_fadr_ptr rfl) ?_ | refine ax_q (q_fadr_rptr rfl) ?_ | refine ax_q (q_fadr_ip rfl) ?_
  first | refine ax_q (q_load1_ptr rfl rfl rfl) ?_ | refine ax_q (q_load1_ip rfl) ?_ | refine ax_q (q_load1_rptr rfl rfl (by assumption) rfl) ?_ | refine ax_q (q_load1_rptr rfl rfl (mapAt (by first | assumption | omega)) rfl) ?_
  first | refine ax_q (q_fadr_ptr rfl) ?_ | refine ax_q (q_fadr_rptr rfl) ?_ | refine ax_q (q_fadr_ip rfl) ?_
  refine ax_e (e_st rfl rfl rfl rfl rfl rfl rfl) ?_
  refine ax_nil ?_
  refine cx_keep rfl rfl ?_
  refine cx_seq ?_
  refine cx_ops ?_
  first | refine ax_q (q_fadr_ptr rfl) ?_ | refine ax_q (q_fadr_rptr rfl) ?_ | refine ax_q (q_fadr_ip rfl) ?_
  first | refine ax_q (q_load1_ptr rfl rfl rfl) ?_ | refine ax_q (q_load1_ip rfl) ?_ | refine ax_q (q_load1_rptr rfl rfl (by assumption) rfl) ?_ | refine ax_q (q_load1_rptr rfl rfl (mapAt (by first | assumption | omega)) rfl) ?_
  first | refine ax_q (q_fadr_ptr rfl) ?_ | refine ax_q (q_fadr_rptr rfl) ?_ | refine ax_q (q_fadr_ip rfl) ?_
  refine ax_e (e_st rfl rfl rfl rfl rfl rfl rfl) ?_
  refine ax_nil ?_
  refine cx_keep rfl rfl ?_
  refine cx_seq ?_
  refine cx_ops ?_
  first | refine ax_q (q_ldN rfl rfl rfl) ?_ | refine ax_q (q_loadN_ip rfl (Nat.le_refl _)) ?_ | refine ax_q (q_loadN_ip rfl (by decide)) ?_ | refine ax_q (q_loadN_rptr rfl rfl (by assumption) (by decide)) ?_ | refine ax_q (q_loadN_rptr rfl rfl (mapAt (by first | assumption | omega)) (by decide)) ?_
  refine ax_e (e_st rfl rfl rfl rfl rfl rfl rfl) ?_
  refine ax_nil ?_
  refine cx_keep rfl rfl ?_
  refine cx_ret (ret0 rfl rfl ?_)
  exact ⟨rfl, rfl⟩


/- loop.example/g00332/laws.toLockS -/
def k_c_toLockS : XCode :=
  .seq (.ops [.op (some 2) (.mov (.k (.nils 4)))])
  (.keep [0] (.seq (.ops [.op (some 5) (.mov (.t 0)),
     .op (some 6) (.lenS (.t 5)),
     .op (some 7) (.mkslice 4 32 [.int .i64 0, .int .i64 0, .int .i64 0, .int .i64 0] (.t 6) (.t 6)),
     .op (some 3) (.mov (.t 7))])
  (.keep [0, 3] (.seq (.seq (.ops [.op (some 4) (.mov (.k (.int .i64 0)))])
   (.keep [0, 3, 4] (.block 0 (.loop (.seq (.seq (.ops [.op (some 8) (.mov (.t 4)),
         .op (some 9) (.mov (.t 0)),
         .op (some 10) (.lenS (.t 9)),
         .op (some 11) (.bin .lss (.t 8) (.t 10))])
      (.keep [0, 3, 4, 11] (.cond (.t 11)
       (.skip)
       (.exit 0))))
     (.keep [0, 3, 4] (.seq (.block 1 (.ops [.op (some 14) (.mov (.t 3)),
         .op (some 15) (.mov (.t 4)),
         .op (some 16) (.mov (.t 0)),
         .op (some 17) (.mov (.t 4)),
         .op (some 18) (.iadr 4 (.t 16) (.t 17)),
         .op (some 19) (.loadN 4 (.t 18)),
         .call (some 20) 72 [.t 19],
         .op (some 21) (.iadr 4 (.t 14) (.t 15)),
         .op none (.store 4 (.t 21) (.t 20))]))
     (.keep [0, 3, 4] (.ops [.op (some 12) (.mov (.t 4)),
       .op (some 13) (.bin .add (.t 12) (.k (.int .i64 1))),
       .op (some 4) (.mov (.t 13))])))))))))
  (.keep [3] (.seq (.ops [.op (some 22) (.mov (.t 3)),
     .op (some 2) (.mov (.t 22))])
  (.keep [2] (.ret))))))))
theorem k_c_toLockS_fits : fitsF Try.prog 40 ⟨23, k_c_toLockS, [.t 2]⟩ = true := by kernel_rfl
theorem c_toLockS {xs : List GLock} (hw : xs.length ≤ 1048576) : Con Try.prog noMv 40 [.d (.sl 4 (xs.map GLock.row))] [] (fun r h => r = .osl 0 4 0 xs.length ∧ h = [(0, .rows 4 (xs.map GLock.row))]) := by
  refine con_of2 k_c_toLockS_fits rfl fun C hP hmv => ?_
  unfold k_c_toLockS
  refine cx_seq ?_
  refine cx_ops ?_
  refine ax_q (q_mov rfl) ?_
  refine ax_nil ?_
  refine cx_keep rfl rfl ?_
  refine cx_seq ?_
  refine cx_ops ?_
  refine ax_q (q_mov rfl) ?_
  first | refine ax_q (q_lenS_map rfl) ?_ | refine ax_q (q_lenS_osl rfl) ?_ | refine ax_q (q_lenS_zs rfl) ?_ | refine ax_q (q_lenS rfl) ?_
  refine ax_ee (e_mkslice rfl rfl rfl (by omega) (by omega) (by omega) (by decide) rfl rfl) (by rw [Int.toNat_natCast]) ?_
  refine ax_q (q_mov rfl) ?_
  refine ax_nil ?_
  refine cx_keep rfl rfl ?_
  refine cx_seq ?_
  refine cx_seq ?_
  refine cx_ops ?_
  refine ax_q (q_mov rfl) ?_
  refine ax_nil ?_
  refine cx_keep rfl rfl ?_
  refine cx_block ?_
  refine cx_loopU (fun n k => k ≤ xs.length ∧ n = xs.length - k) (fun k : Nat => [(4, int k)]) (fun k => [(7, .rows 4 ((xs.take k).map GLock.row ++ List.replicate (xs.length - k) [.int .i64 0, .int .i64 0, .int .i64 0, .int .i64 0]))]) ⟨_, 0, ⟨Nat.zero_le _, rfl⟩, by repeat (first | exact trivial | refine ⟨rfl, ?_⟩ | refine ⟨?_, ?_⟩)⟩ ?_
  rintro n k ⟨hk, rfl⟩
  refine cx_seq ?_
  refine cx_seq ?_
  refine cx_ops ?_
  refine ax_q (q_mov rfl) ?_
  refine ax_q (q_mov rfl) ?_
  first | refine ax_q (q_lenS_map rfl) ?_ | refine ax_q (q_lenS_osl rfl) ?_ | refine ax_q (q_lenS_zs rfl) ?_ | refine ax_q (q_lenS rfl) ?_
  refine ax_q (q_ibin rfl rfl rfl) ?_
  refine ax_nil ?_
  refine cx_keep rfl rfl ?_
  refine cx_cond rfl (fun h0 => ?_) (fun h0 => ?_)
  · have h0 := dT h0
    have h1x : k < xs.length := by omega
    refine cx_skip ?_
    refine cx_keep rfl rfl ?_
    refine cx_seq ?_
    refine cx_block ?_
    refine cx_ops ?_
    refine ax_q (q_mov rfl) ?_
    refine ax_q (q_mov rfl) ?_
    refine ax_q (q_mov rfl) ?_
    refine ax_q (q_mov rfl) ?_
    refine ax_q (q_ix rfl rfl (mapAt h1x)) ?_
    first | refine ax_q (q_ldN rfl rfl rfl) ?_ | refine ax_q (q_loadN_ip rfl (Nat.le_refl _)) ?_ | refine ax_q (q_loadN_ip rfl (by decide)) ?_ | refine ax_q (q_loadN_rptr rfl rfl (by assumption) (by decide)) ?_ | refine ax_q (q_loadN_rptr rfl rfl (mapAt (by first | assumption | omega)) (by decide)) ?_
    first | refine ax_call rfl (vc_pure0 (c_toLock  ) hP rfl rfl ?_) | refine ax_call rfl (vc_lend0 (c_toLock  ) hP (by repeat (first | exact lal_id _ rfl | exact LAL.nil | refine LAL.cons ?_ ?_ | exact la_id _ rfl | exact LA.lend (lend_whole rfl (by simp)) | refine LA.agg ?_ | refine LA.fn ?_ | refine LA.lend ?_ | exact Lend.d _ | exact Lend.zs _ | exact lend_whole rfl (by simp) | refine Lend.ptr rfl ?_ | refine Lend.fn ?_ | exact LendL.nil | refine LendL.cons ?_ ?_)) rfl rfl ?_)
    refine ax_q (q_ixo rfl rfl h1x) ?_
    refine ax_e (e_str (q := GLock.row xs[k]) rfl rfl rfl rfl rfl rfl (fillAtL h1x) rfl rfl (fillSetL h1x)) ?_
    refine ax_nil ?_
    refine cx_keep rfl rfl ?_
    refine cx_ops ?_
    refine ax_q (q_mov rfl) ?_
    refine ax_q (q_add rfl rfl (by omega)) ?_
    refine ax_q (q_mov rfl) ?_
    refine ax_nil ?_
    exact ⟨_, k + 1, by omega, ⟨by omega, rfl⟩, by repeat (first | exact trivial | refine ⟨rfl, ?_⟩ | refine ⟨?_, ?_⟩)⟩
  · have h0 := dF h0
    refine cx_exit rfl ?_
    refine cx_keep rfl rfl ?_
    refine cx_seq ?_
    refine cx_ops ?_
    refine ax_q (q_mov rfl) ?_
    refine ax_q (q_mov rfl) ?_
    refine ax_nil ?_
    refine cx_keep rfl rfl ?_
    refine cx_ret (retN (fun _ => 0) [7] rfl rfl rfl rfl rfl ?_)
    exact ⟨rfl, by rw [show k = xs.length from by omega, List.take_length, Nat.sub_self, List.replicate_zero, List.append_nil]; rfl⟩


/- loop.example/g00332/laws.toWait -/
def k_c_toWait : XCode :=
  .seq (.ops [.op (some 1) (.box (.t 0)),
     .op (some 2) (.alloc [.int .i64 0, .int .i64 0])])
  (.keep [1, 2] (.seq (.ops [.op (some 3) (.alloc [.int .i64 0, .int .i64 0])])
  (.keep [1, 2, 3] (.seq (.ops [.op (some 4) (.fadr (.t 1) 0),
     .op (some 5) (.load1 (.t 4)),
     .op (some 6) (.fadr (.t 3) 0),
     .op none (.store 1 (.t 6) (.t 5))])
  (.keep [1, 2, 3] (.seq (.ops [.op (some 7) (.fadr (.t 1) 1),
     .op (some 8) (.load1 (.t 7)),
     .op (some 9) (.fadr (.t 3) 1),
     .op none (.store 1 (.t 9) (.t 8))])
  (.keep [2, 3] (.seq (.ops [.op (some 10) (.loadN 2 (.t 3)),
     .op none (.store 2 (.t 2) (.t 10))])
  (.keep [2] (.ret))))))))))
theorem k_c_toWait_fits : fitsF Try.prog 73 ⟨11, k_c_toWait, [.cN 2 2]⟩ = true := by kernel_rfl
theorem c_toWait {a : GWait} : Con Try.prog noMv 73 [a.av] [] (fun r h => r = a.av ∧ h = []) := by
  refine con_of2 k_c_toWait_fits rfl fun C hP hmv => ?_
  unfold k_c_toWait
  refine cx_seq ?_
  refine cx_ops ?_
  refine ax_e (e_box rfl rfl (by decide) rfl rfl rfl) ?_
  refine ax_e (e_alloc (by decide) rfl rfl) ?_
  refine ax_nil ?_
  refine cx_keep rfl rfl ?_
  refine cx_seq ?_
  refine cx_ops ?_
  refine ax_e (e_alloc (by decide) rfl rfl) ?_
  refine ax_nil ?_
  refine cx_keep rfl rfl ?_
  refine cx_seq ?_
  refine cx_ops ?_
  first | refine ax_q (q_fadr_ptr rfl) ?_ | refine ax_q (q_fadr_rptr rfl) ?_ | refine ax_q (q_fadr_ip rfl) ?_
  first | refine ax_q (q_load1_ptr rfl rfl rfl) ?_ | refine ax_q (q_load1_ip rfl) ?_ | refine ax_q (q_load1_rptr rfl rfl (by assumption) rfl) ?_ | refine ax_q (q_load1_rptr rfl rfl (mapAt (by first | assumption | omega)) rfl) ?_
  first | refine ax_q (q_fadr_ptr rfl) ?_ | refine ax_q (q_fadr_rptr rfl) ?_ | refine ax_q (q_fadr_ip rfl) ?_
  refine ax_e (e_st rfl rfl rfl rfl rfl rfl rfl) ?_
  refine ax_nil ?_
  refine cx_keep rfl rfl ?_
  refine cx_seq ?_
  refine cx_ops ?_
  first | refine ax_q (q_fadr_ptr rfl) ?_ | refine ax_q (q_fadr_rptr rfl) ?_ | refine ax_q (q_fadr_ip rfl) ?_
  first | refine ax_q (q_load1_ptr rfl rfl rfl) ?_ | refine ax_q (q_load1_ip rfl) ?_ | refine ax_q (q_load1_rptr rfl rfl (by assumption) rfl) ?_ | refine ax_q (q_load1_rptr rfl rfl (mapAt (by first | assumption | omega)) rfl) ?_
  first | refine ax_q (q_fadr_ptr rfl) ?_ | refine ax_q (q_fadr_rptr rfl) ?_ | refine ax_q (q_fadr_ip rfl) ?_
  refine ax_e (e_st rfl rfl rfl rfl rfl rfl rfl) ?_
  refine ax_nil ?_
  refine cx_keep rfl rfl ?_
  refine cx_seq ?_
  refine cx_ops ?_
  first | refine ax_q (q_ldN rfl rfl rfl) ?_ | refine ax_q (q_loadN_ip rfl (Nat.le_refl _)) ?_ | refine ax_q (q_loadN_ip rfl (by decide)) ?_ | refine ax_q (q_loadN_rptr rfl rfl (by assumption) (by decide)) ?_ | refine ax_q (q_loadN_rptr rfl rfl (mapAt (by first | assumption | omega)) (by decide)) ?_
  refine ax_e (e_st rfl rfl rfl rfl rfl rfl rfl) ?_
  refine ax_nil ?_
  refine cx_keep rfl rfl ?_
  refine cx_ret (ret0 rfl rfl ?_)
  exact ⟨rfl, rfl⟩


/- loop.example/g00332/laws.toWaitS -/
def k_c_toWaitS : XCode :=
  .seq (.ops [.op (some 2) (.mov (.k (.nils 2)))])
  (.keep [0] (.seq (.ops [.op (some 5) (.mov (.t 0)),
     .op (some 6) (.lenS (.t 5)),
     .op (some 7) (.mkslice 2 16 [.int .i64 0, .int .i64 0] (.t 6) (.t 6)),
     .op (some 3) (.mov (.t 7))])
  (.keep [0, 3] (.seq (.seq (.ops [.op (some 4) (.mov (.k (.int .i64 0)))])
   (.keep [0, 3, 4] (.block 0 (.loop (.seq (.seq (.ops [.op (some 8) (.mov (.t 4)),
         .op (some 9) (.mov (.t 0)),
         .op (some 10) (.lenS (.t 9)),
         .op (some 11) (.bin .lss (.t 8) (.t 10))])
      (.keep [0, 3, 4, 11] (.cond (.t 11)
       (.skip)
       (.exit 0))))
     (.keep [0, 3, 4] (.seq (.block 1 (.ops [.op (some 14) (.mov (.t 3)),
         .op (some 15) (.mov (.t 4)),
         .op (some 16) (.mov (.t 0)),
         .op (some 17) (.mov (.t 4)),
         .op (some 18) (.iadr 2 (.t 16) (.t 17)),
         .op (some 19) (.loadN 2 (.t 18)),
         .call (some 20) 73 [.t 19],
         .op (some 21) (.iadr 2 (.t 14) (.t 15)),
         .op none (.store 2 (.t 21) (.t 20))]))
     (.keep [0, 3, 4] (.ops [.op (some 12) (.mov (.t 4)),
       .op (some 13) (.bin .add (.t 12) (.k (.int .i64 1))),
       .op (some 4) (.mov (.t 13))])))))))))
  (.keep [3] (.seq (.ops [.op (some 22) (.mov (.t 3)),
     .op (some 2) (.mov (.t 22))])
  (.keep [2] (.ret))))))))
theorem k_c_toWaitS_fits : fitsF Try.prog 41 ⟨23, k_c_toWaitS, [.t 2]⟩ = true := by kernel_rfl
theorem c_toWaitS {xs : List GWait} (hw : xs.length ≤ 1048576) : Con Try.prog noMv 41 [.d (.sl 2 (xs.map GWait.row))] [] (fun r h => r = .osl 0 2 0 xs.length ∧ h = [(0, .rows 2 (xs.map GWait.row))]) := by
  refine con_of2 k_c_toWaitS_fits rfl fun C hP hmv => ?_
  unfold k_c_toWaitS
  refine cx_seq ?_
  refine cx_ops ?_
  refine ax_q (q_mov rfl) ?_
  refine ax_nil ?_
  refine cx_keep rfl rfl ?_
  refine cx_seq ?_
  refine cx_ops ?_
  refine ax_q (q_mov rfl) ?_
  first | refine ax_q (q_lenS_map rfl) ?_ | refine ax_q (q_lenS_osl rfl) ?_ | refine ax_q (q_lenS_zs rfl) ?_ | refine ax_q (q_lenS rfl) ?_
  refine ax_ee (e_mkslice rfl rfl rfl (by omega) (by omega) (by omega) (by decide) rfl rfl) (by rw [Int.toNat_natCast]) ?_
  refine ax_q (q_mov rfl) ?_
  refine ax_nil ?_
  refine cx_keep rfl rfl ?_
  refine cx_seq ?_
  refine cx_seq ?_
  refine cx_ops ?_
  refine ax_q (q_mov rfl) ?_
  refine ax_nil ?_
  refine cx_keep rfl rfl ?_
  refine cx_block ?_
  refine cx_loopU (fun n k => k ≤ xs.length ∧ n = xs.length - k) (fun k : Nat => [(4, int k)]) (fun k => [(7, .rows 2 ((xs.take k).map GWait.row ++ List.replicate (xs.length - k) [.int .i64 0, .int .i64 0]))]) ⟨_, 0, ⟨Nat.zero_le _, rfl⟩, by repeat (first | exact trivial | refine ⟨rfl, ?_⟩ | refine ⟨?_, ?_⟩)⟩ ?_
  rintro n k ⟨hk, rfl⟩
  refine cx_seq ?_
  refine cx_seq ?_
  refine cx_ops ?_
  refine ax_q (q_mov rfl) ?_
  refine ax_q (q_mov rfl) ?_
  first | refine ax_q (q_lenS_map rfl) ?_ | refine ax_q (q_lenS_osl rfl) ?_ | refine ax_q (q_lenS_zs rfl) ?_ | refine ax_q (q_lenS rfl) ?_
  refine ax_q (q_ibin rfl rfl rfl) ?_
  refine ax_nil ?_
  refine cx_keep rfl rfl ?_
  refine cx_cond rfl (fun h0 => ?_) (fun h0 => ?_)
  · have h0 := dT h0
    have h1x : k < xs.length := by omega
    refine cx_skip ?_
    refine cx_keep rfl rfl ?_
    refine cx_seq ?_
    refine cx_block ?_
    refine cx_ops ?_
    refine ax_q (q_mov rfl) ?_
    refine ax_q (q_mov rfl) ?_
    refine ax_q (q_mov rfl) ?_
    refine ax_q (q_mov rfl) ?_
    refine ax_q (q_ix rfl rfl (mapAt h1x)) ?_
    first | refine ax_q (q_ldN rfl rfl rfl) ?_ | refine ax_q (q_loadN_ip rfl (Nat.le_refl _)) ?_ | refine ax_q (q_loadN_ip rfl (by decide)) ?_ | refine ax_q (q_loadN_rptr rfl rfl (by assumption) (by decide)) ?_ | refine ax_q (q_loadN_rptr rfl rfl (mapAt (by first | assumption | omega)) (by decide)) ?_
    first | refine ax_call rfl (vc_pure0 (c_toWait  ) hP rfl rfl ?_) | refine ax_call rfl (vc_lend0 (c_toWait  ) hP (by repeat (first | exact lal_id _ rfl | exact LAL.nil | refine LAL.cons ?_ ?_ | exact la_id _ rfl | exact LA.lend (lend_whole rfl (by simp)) | refine LA.agg ?_ | refine LA.fn ?_ | refine LA.lend ?_ | exact Lend.d _ | exact Lend.zs _ | exact lend_whole rfl (by simp) | refine Lend.ptr rfl ?_ | refine Lend.fn ?_ | exact LendL.nil | refine LendL.cons ?_ ?_)) rfl rfl ?_)
    refine ax_q (q_ixo rfl rfl h1x) ?_
    refine ax_e (e_str (q := GWait.row xs[k]) rfl rfl rfl rfl rfl rfl (fillAtL h1x) rfl rfl (fillSetL h1x)) ?_
    refine ax_nil ?_
    refine cx_keep rfl rfl ?_
    refine cx_ops ?_
    refine ax_q (q_mov rfl) ?_
    refine ax_q (q_add rfl rfl (by omega)) ?_
    refine ax_q (q_mov rfl) ?_
    refine ax_nil ?_
    exact ⟨_, k + 1, by omega, ⟨by omega, rfl⟩, by repeat (first | exact trivial | refine ⟨rfl, ?_⟩ | refine ⟨?_, ?_⟩)⟩
  · have h0 := dF h0
    refine cx_exit rfl ?_
    refine cx_keep rfl rfl ?_
    refine cx_seq ?_
    refine cx_ops ?_
    refine ax_q (q_mov rfl) ?_
    refine ax_q (q_mov rfl) ?_
    refine ax_nil ?_
    refine cx_keep rfl rfl ?_
    refine cx_ret (retN (fun _ => 0) [7] rfl rfl rfl rfl rfl ?_)
    exact ⟨rfl, by rw [show k = xs.length from by omega, List.take_length, Nat.sub_self, List.replicate_zero, List.append_nil]; rfl⟩


/- loop.example/g00332/laws.toLocks -/
def k_c_toLocks : XCode :=
  .seq (.ops [.op (some 1) (.box (.t 0)),
     .op (some 2) (.alloc [.nils 4, .nils 2])])
  (.keep [1, 2] (.seq (.ops [.op (some 3) (.alloc [.nils 4, .nils 2])])
  (.keep [1, 2, 3] (.seq (.ops [.op (some 4) (.fadr (.t 1) 0),
     .op (some 5) (.load1 (.t 4)),
     .call (some 6) 40 [.t 5],
     .op (some 7) (.fadr (.t 3) 0),
     .op none (.store 1 (.t 7) (.t 6))])
  (.keep [1, 2, 3] (.seq (.ops [.op (some 8) (.fadr (.t 1) 1),
     .op (some 9) (.load1 (.t 8)),
     .call (some 10) 41 [.t 9],
     .op (some 11) (.fadr (.t 3) 1),
     .op none (.store 1 (.t 11) (.t 10))])
  (.keep [2, 3] (.seq (.ops [.op (some 12) (.loadN 2 (.t 3)),
     .op none (.store 2 (.t 2) (.t 12))])
  (.keep [2] (.ret))))))))))
theorem k_c_toLocks_fits : fitsF Try.prog 15 ⟨13, k_c_toLocks, [.cN 2 2]⟩ = true := by kernel_rfl
theorem c_toLocks {a : GLocks} (hw0 : a.Held.length ≤ 1048576) (hw1 : a.Waits.length ≤ 1048576) : Con Try.prog noMv 15 [a.av] [] (fun r h => r = a.avO 0 1 ∧ h = a.hO 0 1) := by
  refine con_of2 k_c_toLocks_fits rfl fun C hP hmv => ?_
  unfold k_c_toLocks
  refine cx_seq ?_
  refine cx_ops ?_
  refine ax_e (e_box rfl rfl (by decide) rfl rfl rfl) ?_
  refine ax_e (e_alloc (by decide) rfl rfl) ?_
  refine ax_nil ?_
  refine cx_keep rfl rfl ?_
  refine cx_seq ?_
  refine cx_ops ?_
  refine ax_e (e_alloc (by decide) rfl rfl) ?_
  refine ax_nil ?_
  refine cx_keep rfl rfl ?_
  refine cx_seq ?_
  refine cx_ops ?_
  first | refine ax_q (q_fadr_ptr rfl) ?_ | refine ax_q (q_fadr_rptr rfl) ?_ | refine ax_q (q_fadr_ip rfl) ?_
  first | refine ax_q (q_load1_ptr rfl rfl rfl) ?_ | refine ax_q (q_load1_ip rfl) ?_ | refine ax_q (q_load1_rptr rfl rfl (by assumption) rfl) ?_ | refine ax_q (q_load1_rptr rfl rfl (mapAt (by first | assumption | omega)) rfl) ?_
  first | refine ax_call rfl (vc_pure (c_toLockS  ?_) hP rfl ?_) | refine ax_call rfl (vc_lend (c_toLockS  ?_) hP (by repeat (first | exact lal_id _ rfl | exact LAL.nil | refine LAL.cons ?_ ?_ | exact la_id _ rfl | exact LA.lend (lend_whole rfl (by simp)) | refine LA.agg ?_ | refine LA.fn ?_ | refine LA.lend ?_ | exact Lend.d _ | exact Lend.zs _ | exact lend_whole rfl (by simp) | refine Lend.ptr rfl ?_ | refine Lend.fn ?_ | exact LendL.nil | refine LendL.cons ?_ ?_)) ?_)
  · first | assumption | omega | (simp; done) | (simp; omega)
  rintro r h ⟨rfl, rfl⟩
  refine ⟨fun i => 6 + 200 * i, [0], ⟨rfl, rfl, rfl, rfl, rfl, (by first | exact (fun h => absurd h Bool.false_ne_true) | exact (fun _ => ⟨rfl, (noisl_of (by repeat (first | exact trivial | refine ⟨noisl_map (fun _ => rfl), ?_⟩ | refine ⟨?_, ?_⟩)))⟩))⟩, ?_⟩
  skip
  first | refine ax_q (q_fadr_ptr rfl) ?_ | refine ax_q (q_fadr_rptr rfl) ?_ | refine ax_q (q_fadr_ip rfl) ?_
  refine ax_e (e_st rfl rfl rfl rfl rfl rfl rfl) ?_
  refine ax_nil ?_
  refine cx_keep rfl rfl ?_
  refine cx_seq ?_
  refine cx_ops ?_
  first | refine ax_q (q_fadr_ptr rfl) ?_ | refine ax_q (q_fadr_rptr rfl) ?_ | refine ax_q (q_fadr_ip rfl) ?_
  first | refine ax_q (q_load1_ptr rfl rfl rfl) ?_ | refine ax_q (q_load1_ip rfl) ?_ | refine ax_q (q_load1_rptr rfl rfl (by assumption) rfl) ?_ | refine ax_q (q_load1_rptr rfl rfl (mapAt (by first | assumption | omega)) rfl) ?_
  first | refine ax_call rfl (vc_pure (c_toWaitS  ?_) hP rfl ?_) | refine ax_call rfl (vc_lend (c_toWaitS  ?_) hP (by repeat (first | exact lal_id _ rfl | exact LAL.nil | refine LAL.cons ?_ ?_ | exact la_id _ rfl | exact LA.lend (lend_whole rfl (by simp)) | refine LA.agg ?_ | refine LA.fn ?_ | refine LA.lend ?_ | exact Lend.d _ | exact Lend.zs _ | exact lend_whole rfl (by simp) | refine Lend.ptr rfl ?_ | refine Lend.fn ?_ | exact LendL.nil | refine LendL.cons ?_ ?_)) ?_)
  · first | assumption | omega | (simp; done) | (simp; omega)
  rintro r h ⟨rfl, rfl⟩
  refine ⟨fun i => 10 + 200 * i, [0], ⟨rfl, rfl, rfl, rfl, rfl, (by first | exact (fun h => absurd h Bool.false_ne_true) | exact (fun _ => ⟨rfl, (noisl_of (by repeat (first | exact trivial | refine ⟨noisl_map (fun _ => rfl), ?_⟩ | refine ⟨?_, ?_⟩)))⟩))⟩, ?_⟩
  skip
  first | refine ax_q (q_fadr_ptr rfl) ?_ | refine ax_q (q_fadr_rptr rfl) ?_ | refine ax_q (q_fadr_ip rfl) ?_
  refine ax_e (e_st rfl rfl rfl rfl rfl rfl rfl) ?_
  refine ax_nil ?_
  refine cx_keep rfl rfl ?_
  refine cx_seq ?_
  refine cx_ops ?_
  first | refine ax_q (q_ldN rfl rfl rfl) ?_ | refine ax_q (q_loadN_ip rfl (Nat.le_refl _)) ?_ | refine ax_q (q_loadN_ip rfl (by decide)) ?_ | refine ax_q (q_loadN_rptr rfl rfl (by assumption) (by decide)) ?_ | refine ax_q (q_loadN_rptr rfl rfl (mapAt (by first | assumption | omega)) (by decide)) ?_
  refine ax_e (e_st rfl rfl rfl rfl rfl rfl rfl) ?_
  refine ax_nil ?_
  refine cx_keep rfl rfl ?_
  refine cx_ret (retN (fun e => bif Nat.beq e 10 then 1 else 0) [6, 10] rfl rfl rfl rfl rfl ?_)
  exact ⟨rfl, rfl⟩


/- loop.example/g00332/laws.eqLock -/
def k_c_eqLock : XCode :=
  .seq (.ops [.op (some 2) (.box (.t 0)),
     .op (some 3) (.box (.t 1)),
     .op (some 4) (.mov (.k (.bool false)))])
  (.keep [2, 3] (.seq (.seq (.ops [.op (some 5) (.fadr (.t 2) 0),
      .op (some 6) (.load1 (.t 5)),
      .op (some 7) (.fadr (.t 3) 0),
      .op (some 8) (.load1 (.t 7)),
      .op (some 9) (.bin .neq (.t 6) (.t 8))])
   (.keep [2, 3, 9] (.cond (.t 9)
    (.seq (.ops [.op (some 4) (.mov (.k (.bool false)))])
     (.keep [4] (.ret)))
    (.skip))))
  (.keep [2, 3] (.seq (.seq (.ops [.op (some 10) (.fadr (.t 2) 1),
      .op (some 11) (.load1 (.t 10)),
      .op (some 12) (.fadr (.t 3) 1),
      .op (some 13) (.load1 (.t 12)),
      .op (some 14) (.bin .neq (.t 11) (.t 13))])
   (.keep [2, 3, 14] (.cond (.t 14)
    (.seq (.ops [.op (some 4) (.mov (.k (.bool false)))])
     (.keep [4] (.ret)))
    (.skip))))
  (.keep [2, 3] (.seq (.seq (.ops [.op (some 15) (.fadr (.t 2) 2),
      .op (some 16) (.load1 (.t 15)),
      .op (some 17) (.fadr (.t 3) 2),
      .op (some 18) (.load1 (.t 17)),
      .op (some 19) (.bin .neq (.t 16) (.t 18))])
   (.keep [2, 3, 19] (.cond (.t 19)
    (.seq (.ops [.op (some 4) (.mov (.k (.bool false)))])
     (.keep [4] (.ret)))
    (.skip))))
  (.keep [2, 3] (.seq (.seq (.ops [.op (some 20) (.fadr (.t 2) 3),
      .op (some 21) (.load1 (.t 20)),
      .op (some 22) (.fadr (.t 3) 3),
      .op (some 23) (.load1 (.t 22)),
      .op (some 24) (.bin .neq (.t 21) (.t 23))])
   (.keep [24] (.cond (.t 24)
    (.seq (.ops [.op (some 4) (.mov (.k (.bool false)))])
     (.keep [4] (.ret)))
    (.skip))))
  (.keep [] (.seq (.ops [.op (some 4) (.mov (.k (.bool true)))])
  (.keep [4] (.ret))))))))))))
theorem k_c_eqLock_fits : fitsF Try.prog 74 ⟨25, k_c_eqLock, [.t 4]⟩ = true := by kernel_rfl
theorem c_eqLock {a b : GLock}  : Con Try.prog noMv 74 [a.av, b.av] [] (fun r h => r = bool (eqb a b) ∧ h = []) := by
  refine con_of2 k_c_eqLock_fits rfl fun C hP hmv => ?_
  unfold k_c_eqLock
  refine cx_seq ?_
  refine cx_ops ?_
  refine ax_e (e_box rfl rfl (by decide) rfl rfl rfl) ?_
  refine ax_e (e_box rfl rfl (by decide) rfl rfl rfl) ?_
  refine ax_q (q_mov rfl) ?_
  refine ax_nil ?_
  refine cx_keep rfl rfl ?_
  refine cx_seq ?_
  refine cx_seq ?_
  refine cx_ops ?_
  first | refine ax_q (q_fadr_ptr rfl) ?_ | refine ax_q (q_fadr_rptr rfl) ?_ | refine ax_q (q_fadr_ip rfl) ?_
  first | refine ax_q (q_load1_ptr rfl rfl rfl) ?_ | refine ax_q (q_load1_ip rfl) ?_ | refine ax_q (q_load1_rptr rfl rfl (by assumption) rfl) ?_ | refine ax_q (q_load1_rptr rfl rfl (mapAt (by first | assumption | omega)) rfl) ?_
  first | refine ax_q (q_fadr_ptr rfl) ?_ | refine ax_q (q_fadr_rptr rfl) ?_ | refine ax_q (q_fadr_ip rfl) ?_
  first | refine ax_q (q_load1_ptr rfl rfl rfl) ?_ | refine ax_q (q_load1_ip rfl) ?_ | refine ax_q (q_load1_rptr rfl rfl (by assumption) rfl) ?_ | refine ax_q (q_load1_rptr rfl rfl (mapAt (by first | assumption | omega)) rfl) ?_
  refine ax_q (q_ibin rfl rfl rfl) ?_
  refine ax_nil ?_
  refine cx_keep rfl rfl ?_
  refine cx_cond rfl (fun h0 => ?_) (fun h0 => ?_)
  · have h0 := nT h0
    refine cx_seq ?_
    refine cx_ops ?_
    refine ax_q (q_mov rfl) ?_
    refine ax_nil ?_
    refine cx_keep rfl rfl ?_
    refine cx_ret (ret0 rfl rfl ?_)
    exact ⟨congrArg AM.bool (eqb_f (fun h => h0 (by rw [h]))).symm, rfl⟩
  · have h0 := nF h0
    refine cx_skip ?_
    refine cx_keep rfl rfl ?_
    refine cx_seq ?_
    refine cx_seq ?_
    refine cx_ops ?_
    first | refine ax_q (q_fadr_ptr rfl) ?_ | refine ax_q (q_fadr_rptr rfl) ?_ | refine ax_q (q_fadr_ip rfl) ?_
    first | refine ax_q (q_load1_ptr rfl rfl rfl) ?_ | refine ax_q (q_load1_ip rfl) ?_ | refine ax_q (q_load1_rptr rfl rfl (by assumption) rfl) ?_ | refine ax_q (q_load1_rptr rfl rfl (mapAt (by first | assumption | omega)) rfl) ?_
    first | refine ax_q (q_fadr_ptr rfl) ?_ | refine ax_q (q_fadr_rptr rfl) ?_ | refine ax_q (q_fadr_ip rfl) ?_
    first | refine ax_q (q_load1_ptr rfl rfl rfl) ?_ | refine ax_q (q_load1_ip rfl) ?_ | refine ax_q (q_load1_rptr rfl rfl (by assumption) rfl) ?_ | refine ax_q (q_load1_rptr rfl rfl (mapAt (by first | assumption | omega)) rfl) ?_
    refine ax_q (q_ibin rfl rfl rfl) ?_
    refine ax_nil ?_
    refine cx_keep rfl rfl ?_
    refine cx_cond rfl (fun h1 => ?_) (fun h1 => ?_)
    · have h1 := nT h1
      refine cx_seq ?_
      refine cx_ops ?_
      refine ax_q (q_mov rfl) ?_
      refine ax_nil ?_
      refine cx_keep rfl rfl ?_
      refine cx_ret (ret0 rfl rfl ?_)
      exact ⟨congrArg AM.bool (eqb_f (fun h => h1 (by rw [h]))).symm, rfl⟩
    · have h1 := nF h1
      refine cx_skip ?_
      refine cx_keep rfl rfl ?_
      refine cx_seq ?_
      refine cx_seq ?_
      refine cx_ops ?_
      first | refine ax_q (q_fadr_ptr rfl) ?_ | refine ax_q (q_fadr_rptr rfl) ?_ | refine ax_q (q_fadr_ip rfl) ?_
      first | refine ax_q (q_load1_ptr rfl rfl rfl) ?_ | refine ax_q (q_load1_ip rfl) ?_ | refine ax_q (q_load1_rptr rfl rfl (by assumption) rfl) ?_ | refine ax_q (q_load1_rptr rfl rfl (mapAt (by first | assumption | omega)) rfl) ?_
      first | refine ax_q (q_fadr_ptr rfl) ?_ | refine ax_q (q_fadr_rptr rfl) ?_ | refine ax_q (q_fadr_ip rfl) ?_
      first | refine ax_q (q_load1_ptr rfl rfl rfl) ?_ | refine ax_q (q_load1_ip rfl) ?_ | refine ax_q (q_load1_rptr rfl rfl (by assumption) rfl) ?_ | refine ax_q (q_load1_rptr rfl rfl (mapAt (by first | assumption | omega)) rfl) ?_
      refine ax_q (q_ibin rfl rfl rfl) ?_
      refine ax_nil ?_
      refine cx_keep rfl rfl ?_
      refine cx_cond rfl (fun h2 => ?_) (fun h2 => ?_)
      · have h2 := nT h2
        refine cx_seq ?_
        refine cx_ops ?_
        refine ax_q (q_mov rfl) ?_
        refine ax_nil ?_
        refine cx_keep rfl rfl ?_
        refine cx_ret (ret0 rfl rfl ?_)
        exact ⟨congrArg AM.bool (eqb_f (fun h => h2 (by rw [h]))).symm, rfl⟩
      · have h2 := nF h2
        refine cx_skip ?_
        refine cx_keep rfl rfl ?_
        refine cx_seq ?_
        refine cx_seq ?_
        refine cx_ops ?_
        first | refine ax_q (q_fadr_ptr rfl) ?_ | refine ax_q (q_fadr_rptr rfl) ?_ | refine ax_q (q_fadr_ip rfl) ?_
        first | refine ax_q (q_load1_ptr rfl rfl rfl) ?_ | refine ax_q (q_load1_ip rfl) ?_ | refine ax_q (q_load1_rptr rfl rfl (by assumption) rfl) ?_ | refine ax_q (q_load1_rptr rfl rfl (mapAt (by first | assumption | omega)) rfl) ?_
        first | refine ax_q (q_fadr_ptr rfl) ?_ | refine ax_q (q_fadr_rptr rfl) ?_ | refine ax_q (q_fadr_ip rfl) ?_
        first | refine ax_q (q_load1_ptr rfl rfl rfl) ?_ | refine ax_q (q_load1_ip rfl) ?_ | refine ax_q (q_load1_rptr rfl rfl (by assumption) rfl) ?_ | refine ax_q (q_load1_rptr rfl rfl (mapAt (by first | assumption | omega)) rfl) ?_
        refine ax_q (q_ibin rfl rfl rfl) ?_
        refine ax_nil ?_
        refine cx_keep rfl rfl ?_
        refine cx_cond rfl (fun h3 => ?_) (fun h3 => ?_)
        · have h3 := nT h3
          refine cx_seq ?_
          refine cx_ops ?_
          refine ax_q (q_mov rfl) ?_
          refine ax_nil ?_
          refine cx_keep rfl rfl ?_
          refine cx_ret (ret0 rfl rfl ?_)
          exact ⟨congrArg AM.bool (eqb_f (fun h => h3 (by rw [h]))).symm, rfl⟩
        · have h3 := nF h3
          refine cx_skip ?_
          refine cx_keep rfl rfl ?_
          refine cx_seq ?_
          refine cx_ops ?_
          refine ax_q (q_mov rfl) ?_
          refine ax_nil ?_
          refine cx_keep rfl rfl ?_
          refine cx_ret (ret0 rfl rfl ?_)
          exact ⟨congrArg AM.bool (eqb_t (GLock.ext1 h0 h1 h2 h3)).symm, rfl⟩


/- loop.example/g00332/laws.eqLockS -/
def k_c_eqLockS : XCode :=
  .seq (.ops [.op (some 4) (.mov (.k (.bool false)))])
  (.keep [0, 1] (.seq (.seq (.ops [.op (some 6) (.mov (.t 0)),
      .op (some 7) (.lenS (.t 6)),
      .op (some 8) (.mov (.t 1)),
      .op (some 9) (.lenS (.t 8)),
      .op (some 10) (.bin .neq (.t 7) (.t 9))])
   (.keep [0, 1, 10] (.cond (.t 10)
    (.seq (.ops [.op (some 4) (.mov (.k (.bool false)))])
     (.keep [4] (.ret)))
    (.skip))))
  (.keep [0, 1] (.seq (.seq (.ops [.op (some 5) (.mov (.k (.int .i64 0)))])
   (.keep [0, 1, 5] (.block 0 (.loop (.seq (.seq (.ops [.op (some 11) (.mov (.t 5)),
         .op (some 12) (.mov (.t 0)),
         .op (some 13) (.lenS (.t 12)),
         .op (some 14) (.bin .lss (.t 11) (.t 13))])
      (.keep [0, 1, 5, 14] (.cond (.t 14)
       (.skip)
       (.exit 0))))
     (.keep [0, 1, 5] (.seq (.block 1 (.seq (.draw [.op (some 17) (.mov (.t 0)),
          .op (some 18) (.mov (.t 5)),
          .op (some 19) (.iadr 4 (.t 17) (.t 18)),
          .op (some 20) (.loadN 4 (.t 19)),
          .op (some 21) (.mov (.t 1)),
          .op (some 22) (.mov (.t 5)),
          .op (some 23) (.iadr 4 (.t 21) (.t 22)),
          .op (some 24) (.loadN 4 (.t 23)),
          .call (some 25) 74 [.t 20, .t 24],
          .op (some 26) (.not (.t 25))])
       (.keep [0, 1, 5, 26] (.cond (.t 26)
        (.seq (.ops [.op (some 4) (.mov (.k (.bool false)))])
         (.keep [4] (.ret)))
        (.skip)))))
     (.keep [0, 1, 5] (.ops [.op (some 15) (.mov (.t 5)),
       .op (some 16) (.bin .add (.t 15) (.k (.int .i64 1))),
       .op (some 5) (.mov (.t 16))])))))))))
  (.keep [] (.seq (.ops [.op (some 4) (.mov (.k (.bool true)))])
  (.keep [4] (.ret))))))))
theorem k_c_eqLockS_fits : fitsF Try.prog 42 ⟨27, k_c_eqLockS, [.t 4]⟩ = true := by kernel_rfl
theorem c_eqLockS {xs ys : List GLock} (hw : xs.length ≤ 9223372036854775807) : Con Try.prog noMv 42 [.d (.sl 4 (xs.map GLock.row)), .d (.sl 4 (ys.map GLock.row))] [] (fun r h => r = bool (eqb xs ys) ∧ h = []) := by
  refine con_of2 k_c_eqLockS_fits rfl fun C hP hmv => ?_
  unfold k_c_eqLockS
  refine cx_seq ?_
  refine cx_ops ?_
  refine ax_q (q_mov rfl) ?_
  refine ax_nil ?_
  refine cx_keep rfl rfl ?_
  refine cx_seq ?_
  refine cx_seq ?_
  refine cx_ops ?_
  refine ax_q (q_mov rfl) ?_
  first | refine ax_q (q_lenS_map rfl) ?_ | refine ax_q (q_lenS_osl rfl) ?_ | refine ax_q (q_lenS_zs rfl) ?_ | refine ax_q (q_lenS rfl) ?_
  refine ax_q (q_mov rfl) ?_
  first | refine ax_q (q_lenS_map rfl) ?_ | refine ax_q (q_lenS_osl rfl) ?_ | refine ax_q (q_lenS_zs rfl) ?_ | refine ax_q (q_lenS rfl) ?_
  refine ax_q (q_ibin rfl rfl rfl) ?_
  refine ax_nil ?_
  refine cx_keep rfl rfl ?_
  refine cx_cond rfl (fun h0 => ?_) (fun h0 => ?_)
  · have h0 := nT h0
    refine cx_seq ?_
    refine cx_ops ?_
    refine ax_q (q_mov rfl) ?_
    refine ax_nil ?_
    refine cx_keep rfl rfl ?_
    refine cx_ret (ret0 rfl rfl ?_)
    exact ⟨congrArg AM.bool (eqb_f (fun h => h0 (by rw [h]))).symm, rfl⟩
  · have h0 := nF h0
    refine cx_skip ?_
    refine cx_keep rfl rfl ?_
    refine cx_seq ?_
    refine cx_seq ?_
    refine cx_ops ?_
    refine ax_q (q_mov rfl) ?_
    refine ax_nil ?_
    refine cx_keep rfl rfl ?_
    refine cx_block ?_
    have hl : xs.length = ys.length := by omega
    refine cx_loopU (fun n k => k ≤ xs.length ∧ n = xs.length - k ∧ xs.take k = ys.take k) (fun k : Nat => [(5, int k)]) (fun _ => []) ⟨_, 0, ⟨Nat.zero_le _, rfl, rfl⟩, by repeat (first | exact trivial | refine ⟨rfl, ?_⟩ | refine ⟨?_, ?_⟩)⟩ ?_
    rintro n k ⟨hk, rfl, ht⟩
    refine cx_seq ?_
    refine cx_seq ?_
    refine cx_ops ?_
    refine ax_q (q_mov rfl) ?_
    refine ax_q (q_mov rfl) ?_
    first | refine ax_q (q_lenS_map rfl) ?_ | refine ax_q (q_lenS_osl rfl) ?_ | refine ax_q (q_lenS_zs rfl) ?_ | refine ax_q (q_lenS rfl) ?_
    refine ax_q (q_ibin rfl rfl rfl) ?_
    refine ax_nil ?_
    refine cx_keep rfl rfl ?_
    refine cx_cond rfl (fun h1 => ?_) (fun h1 => ?_)
    · have h1 := dT h1
      have h1x : k < xs.length := by omega
      have h1y : k < ys.length := by omega
      refine cx_skip ?_
      refine cx_keep rfl rfl ?_
      refine cx_seq ?_
      refine cx_block ?_
      refine cx_seq ?_
      refine cx_draw ?_
      refine ax_q (q_mov rfl) ?_
      refine ax_q (q_mov rfl) ?_
      refine ax_q (q_ix rfl rfl (mapAt h1x)) ?_
      first | refine ax_q (q_ldN rfl rfl rfl) ?_ | refine ax_q (q_loadN_ip rfl (Nat.le_refl _)) ?_ | refine ax_q (q_loadN_ip rfl (by decide)) ?_ | refine ax_q (q_loadN_rptr rfl rfl (by assumption) (by decide)) ?_ | refine ax_q (q_loadN_rptr rfl rfl (mapAt (by first | assumption | omega)) (by decide)) ?_
      refine ax_q (q_mov rfl) ?_
      refine ax_q (q_mov rfl) ?_
      refine ax_q (q_ix rfl rfl (mapAt h1y)) ?_
      first | refine ax_q (q_ldN rfl rfl rfl) ?_ | refine ax_q (q_loadN_ip rfl (Nat.le_refl _)) ?_ | refine ax_q (q_loadN_ip rfl (by decide)) ?_ | refine ax_q (q_loadN_rptr rfl rfl (by assumption) (by decide)) ?_ | refine ax_q (q_loadN_rptr rfl rfl (mapAt (by first | assumption | omega)) (by decide)) ?_
      first | refine ax_callq rfl (c_eqLock) hP (lal_id _ rfl) rfl ?_ | refine ax_call rfl (vc_pure0 (c_eqLock) hP rfl rfl ?_)
      refine ax_q (q_not rfl) ?_
      refine ax_nil ?_
      refine cx_keep rfl rfl ?_
      refine cx_cond rfl (fun h2 => ?_) (fun h2 => ?_)
      · have h2 := bT h2
        refine cx_seq ?_
        refine cx_ops ?_
        refine ax_q (q_mov rfl) ?_
        refine ax_nil ?_
        refine cx_keep rfl rfl ?_
        refine cx_ret (ret0 rfl rfl ?_)
        exact ⟨congrArg AM.bool (eqbL_no h1x h1y h2).symm, rfl⟩
      · have h2 := bF h2
        refine cx_skip ?_
        refine cx_keep rfl rfl ?_
        refine cx_ops ?_
        refine ax_q (q_mov rfl) ?_
        refine ax_q (q_add rfl rfl (by omega)) ?_
        refine ax_q (q_mov rfl) ?_
        refine ax_nil ?_
        exact ⟨_, k + 1, by omega, ⟨by omega, rfl, eqbL_step h1x h1y ht h2⟩, by repeat (first | exact trivial | refine ⟨rfl, ?_⟩ | refine ⟨?_, ?_⟩)⟩
    · have h1 := dF h1
      refine cx_exit rfl ?_
      refine cx_keep rfl rfl ?_
      refine cx_seq ?_
      refine cx_ops ?_
      refine ax_q (q_mov rfl) ?_
      refine ax_nil ?_
      refine cx_keep rfl rfl ?_
      refine cx_ret (ret0 rfl rfl ?_)
      exact ⟨congrArg AM.bool (eqb_t (eq_of_take hl (by rwa [show k = xs.length from by omega] at ht))).symm, rfl⟩


/- loop.example/g00332/laws.eqWait -/
def k_c_eqWait : XCode :=
  .seq (.ops [.op (some 2) (.box (.t 0)),
     .op (some 3) (.box (.t 1)),
     .op (some 4) (.mov (.k (.bool false)))])
  (.keep [2, 3] (.seq (.seq (.ops [.op (some 5) (.fadr (.t 2) 0),
      .op (some 6) (.load1 (.t 5)),
      .op (some 7) (.fadr (.t 3) 0),
      .op (some 8) (.load1 (.t 7)),
      .op (some 9) (.bin .neq (.t 6) (.t 8))])
   (.keep [2, 3, 9] (.cond (.t 9)
    (.seq (.ops [.op (some 4) (.mov (.k (.bool false)))])
     (.keep [4] (.ret)))
    (.skip))))
  (.keep [2, 3] (.seq (.seq (.ops [.op (some 10) (.fadr (.t 2) 1),
      .op (some 11) (.load1 (.t 10)),
      .op (some 12) (.fadr (.t 3) 1),
      .op (some 13) (.load1 (.t 12)),
      .op (some 14) (.bin .neq (.t 11) (.t 13))])
   (.keep [14] (.cond (.t 14)
    (.seq (.ops [.op (some 4) (.mov (.k (.bool false)))])
     (.keep [4] (.ret)))
    (.skip))))
  (.keep [] (.seq (.ops [.op (some 4) (.mov (.k (.bool true)))])
  (.keep [4] (.ret))))))))
theorem k_c_eqWait_fits : fitsF Try.prog 75 ⟨15, k_c_eqWait, [.t 4]⟩ = true := by kernel_rfl
theorem c_eqWait {a b : GWait}  : Con Try.prog noMv 75 [a.av, b.av] [] (fun r h => r = bool (eqb a b) ∧ h = []) := by
  refine con_of2 k_c_eqWait_fits rfl fun C hP hmv => ?_
  unfold k_c_eqWait
  refine cx_seq ?_
  refine cx_ops ?_
  refine ax_e (e_box rfl rfl (by decide) rfl rfl rfl) ?_
  refine ax_e (e_box rfl rfl (by decide) rfl rfl rfl) ?_
  refine ax_q (q_mov rfl) ?_
  refine ax_nil ?_
  refine cx_keep rfl rfl ?_
  refine cx_seq ?_
  refine cx_seq ?_
  refine cx_ops ?_
  first | refine ax_q (q_fadr_ptr rfl) ?_ | refine ax_q (q_fadr_rptr rfl) ?_ | refine ax_q (q_fadr_ip rfl) ?_
  first | refine ax_q (q_load1_ptr rfl rfl rfl) ?_ | refine ax_q (q_load1_ip rfl) ?_ | refine ax_q (q_load1_rptr rfl rfl (by assumption) rfl) ?_ | refine ax_q (q_load1_rptr rfl rfl (mapAt (by first | assumption | omega)) rfl) ?_
  first | refine ax_q (q_fadr_ptr rfl) ?_ | refine ax_q (q_fadr_rptr rfl) ?_ | refine ax_q (q_fadr_ip rfl) ?_
  first | refine ax_q (q_load1_ptr rfl rfl rfl) ?_ | refine ax_q (q_load1_ip rfl) ?_ | refine ax_q (q_load1_rptr rfl rfl (by assumption) rfl) ?_ | refine ax_q (q_load1_rptr rfl rfl (mapAt (by first | assumption | omega)) rfl) ?_
  refine ax_q (q_ibin rfl rfl rfl) ?_
  refine ax_nil ?_
  refine cx_keep rfl rfl ?_
  refine cx_cond rfl (fun h0 => ?_) (fun h0 => ?_)
  · have h0 := nT h0
    refine cx_seq ?_
    refine cx_ops ?_
    refine ax_q (q_mov rfl) ?_
    refine ax_nil ?_
    refine cx_keep rfl rfl ?_
    refine cx_ret (ret0 rfl rfl ?_)
    exact ⟨congrArg AM.bool (eqb_f (fun h => h0 (by rw [h]))).symm, rfl⟩
  · have h0 := nF h0
    refine cx_skip ?_
    refine cx_keep rfl rfl ?_
    refine cx_seq ?_
    refine cx_seq ?_
    refine cx_ops ?_
    first | refine ax_q (q_fadr_ptr rfl) ?_ | refine ax_q (q_fadr_rptr rfl) ?_ | refine ax_q (q_fadr_ip rfl) ?_
    first | refine ax_q (q_load1_ptr rfl rfl rfl) ?_ | refine ax_q (q_load1_ip rfl) ?_ | refine ax_q (q_load1_rptr rfl rfl (by assumption) rfl) ?_ | refine ax_q (q_load1_rptr rfl rfl (mapAt (by first | assumption | omega)) rfl) ?_
    first | refine ax_q (q_fadr_ptr rfl) ?_ | refine ax_q (q_fadr_rptr rfl) ?_ | refine ax_q (q_fadr_ip rfl) ?_
    first | refine ax_q (q_load1_ptr rfl rfl rfl) ?_ | refine ax_q (q_load1_ip rfl) ?_ | refine ax_q (q_load1_rptr rfl rfl (by assumption) rfl) ?_ | refine ax_q (q_load1_rptr rfl rfl (mapAt (by first | assumption | omega)) rfl) ?_
    refine ax_q (q_ibin rfl rfl rfl) ?_
    refine ax_nil ?_
    refine cx_keep rfl rfl ?_
    refine cx_cond rfl (fun h1 => ?_) (fun h1 => ?_)
    · have h1 := nT h1
      refine cx_seq ?_
      refine cx_ops ?_
      refine ax_q (q_mov rfl) ?_
      refine ax_nil ?_
      refine cx_keep rfl rfl ?_
      refine cx_ret (ret0 rfl rfl ?_)
      exact ⟨congrArg AM.bool (eqb_f (fun h => h1 (by rw [h]))).symm, rfl⟩
    · have h1 := nF h1
      refine cx_skip ?_
      refine cx_keep rfl rfl ?_
      refine cx_seq ?_
      refine cx_ops ?_
      refine ax_q (q_mov rfl) ?_
      refine ax_nil ?_
      refine cx_keep rfl rfl ?_
      refine cx_ret (ret0 rfl rfl ?_)
      exact ⟨congrArg AM.bool (eqb_t (GWait.ext1 h0 h1)).symm, rfl⟩


/- loop.example/g00332/laws.eqWaitS -/
def k_c_eqWaitS : XCode :=
  .seq (.ops [.op (some 4) (.mov (.k (.bool false)))])
  (.keep [0, 1] (.seq (.seq (.ops [.op (some 6) (.mov (.t 0)),
      .op (some 7) (.lenS (.t 6)),
      .op (some 8) (.mov (.t 1)),
      .op (some 9) (.lenS (.t 8)),
      .op (some 10) (.bin .neq (.t 7) (.t 9))])
   (.keep [0, 1, 10] (.cond (.t 10)
    (.seq (.ops [.op (some 4) (.mov (.k (.bool false)))])
     (.keep [4] (.ret)))
    (.skip))))
  (.keep [0, 1] (.seq (.seq (.ops [.op (some 5) (.mov (.k (.int .i64 0)))])
   (.keep [0, 1, 5] (.block 0 (.loop (.seq (.seq (.ops [.op (some 11) (.mov (.t 5)),
         .op (some 12) (.mov (.t 0)),
         .op (some 13) (.lenS (.t 12)),
         .op (some 14) (.bin .lss (.t 11) (.t 13))])
      (.keep [0, 1, 5, 14] (.cond (.t 14)
       (.skip)
       (.exit 0))))
     (.keep [0, 1, 5] (.seq (.block 1 (.seq (.draw [.op (some 17) (.mov (.t 0)),
          .op (some 18) (.mov (.t 5)),
          .op (some 19) (.iadr 2 (.t 17) (.t 18)),
          .op (some 20) (.loadN 2 (.t 19)),
          .op (some 21) (.mov (.t 1)),
          .op (some 22) (.mov (.t 5)),
          .op (some 23) (.iadr 2 (.t 21) (.t 22)),
          .op (some 24) (.loadN 2 (.t 23)),
          .call (some 25) 75 [.t 20, .t 24],
          .op (some 26) (.not (.t 25))])
       (.keep [0, 1, 5, 26] (.cond (.t 26)
        (.seq (.ops [.op (some 4) (.mov (.k (.bool false)))])
         (.keep [4] (.ret)))
        (.skip)))))
     (.keep [0, 1, 5] (.ops [.op (some 15) (.mov (.t 5)),
       .op (some 16) (.bin .add (.t 15) (.k (.int .i64 1))),
       .op (some 5) (.mov (.t 16))])))))))))
  (.keep [] (.seq (.ops [.op (some 4) (.mov (.k (.bool true)))])
  (.keep [4] (.ret))))))))
theorem k_c_eqWaitS_fits : fitsF Try.prog 43 ⟨27, k_c_eqWaitS, [.t 4]⟩ = true := by kernel_rfl
theorem c_eqWaitS {xs ys : List GWait} (hw : xs.length ≤ 9223372036854775807) : Con Try.prog noMv 43 [.d (.sl 2 (xs.map GWait.row)), .d (.sl 2 (ys.map GWait.row))] [] (fun r h => r = bool (eqb xs ys) ∧ h = []) := by
  refine con_of2 k_c_eqWaitS_fits rfl fun C hP hmv => ?_
  unfold k_c_eqWaitS
  refine cx_seq ?_
  refine cx_ops ?_
  refine ax_q (q_mov rfl) ?_
  refine ax_nil ?_
  refine cx_keep rfl rfl ?_
  refine cx_seq ?_
  refine cx_seq ?_
  refine cx_ops ?_
  refine ax_q (q_mov rfl) ?_
  first | refine ax_q (q_lenS_map rfl) ?_ | refine ax_q (q_lenS_osl rfl) ?_ | refine ax_q (q_lenS_zs rfl) ?_ | refine ax_q (q_lenS rfl) ?_
  refine ax_q (q_mov rfl) ?_
  first | refine ax_q (q_lenS_map rfl) ?_ | refine ax_q (q_lenS_osl rfl) ?_ | refine ax_q (q_lenS_zs rfl) ?_ | refine ax_q (q_lenS rfl) ?_
  refine ax_q (q_ibin rfl rfl rfl) ?_
  refine ax_nil ?_
  refine cx_keep rfl rfl ?_
  refine cx_cond rfl (fun h0 => ?_) (fun h0 => ?_)
  · have h0 := nT h0
    refine cx_seq ?_
    refine cx_ops ?_
    refine ax_q (q_mov rfl) ?_
    refine ax_nil ?_
    refine cx_keep rfl rfl ?_
    refine cx_ret (ret0 rfl rfl ?_)
    exact ⟨congrArg AM.bool (eqb_f (fun h => h0 (by rw [h]))).symm, rfl⟩
  · have h0 := nF h0
    refine cx_skip ?_
    refine cx_keep rfl rfl ?_
    refine cx_seq ?_
    refine cx_seq ?_
    refine cx_ops ?_
    refine ax_q (q_mov rfl) ?_
    refine ax_nil ?_
    refine cx_keep rfl rfl ?_
    refine cx_block ?_
    have hl : xs.length = ys.length := by omega
    refine cx_loopU (fun n k => k ≤ xs.length ∧ n = xs.length - k ∧ xs.take k = ys.take k) (fun k : Nat => [(5, int k)]) (fun _ => []) ⟨_, 0, ⟨Nat.zero_le _, rfl, rfl⟩, by repeat (first | exact trivial | refine ⟨rfl, ?_⟩ | refine ⟨?_, ?_⟩)⟩ ?_
    rintro n k ⟨hk, rfl, ht⟩
    refine cx_seq ?_
    refine cx_seq ?_
    refine cx_ops ?_
    refine ax_q (q_mov rfl) ?_
    refine ax_q (q_mov rfl) ?_
    first | refine ax_q (q_lenS_map rfl) ?_ | refine ax_q (q_lenS_osl rfl) ?_ | refine ax_q (q_lenS_zs rfl) ?_ | refine ax_q (q_lenS rfl) ?_
    refine ax_q (q_ibin rfl rfl rfl) ?_
    refine ax_nil ?_
    refine cx_keep rfl rfl ?_
    refine cx_cond rfl (fun h1 => ?_) (fun h1 => ?_)
    · have h1 := dT h1
      have h1x : k < xs.length := by omega
      have h1y : k < ys.length := by omega
      refine cx_skip ?_
      refine cx_keep rfl rfl ?_
      refine cx_seq ?_
      refine cx_block ?_
      refine cx_seq ?_
      refine cx_draw ?_
      refine ax_q (q_mov rfl) ?_
      refine ax_q (q_mov rfl) ?_
      refine ax_q (q_ix rfl rfl (mapAt h1x)) ?_
      first | refine ax_q (q_ldN rfl rfl rfl) ?_ | refine ax_q (q_loadN_ip rfl (Nat.le_refl _)) ?_ | refine ax_q (q_loadN_ip rfl (by decide)) ?_ | refine ax_q (q_loadN_rptr rfl rfl (by assumption) (by decide)) ?_ | refine ax_q (q_loadN_rptr rfl rfl (mapAt (by first | assumption | omega)) (by decide)) ?_
      refine ax_q (q_mov rfl) ?_
      refine ax_q (q_mov rfl) ?_
      refine ax_q (q_ix rfl rfl (mapAt h1y)) ?_
      first | refine ax_q (q_ldN rfl rfl rfl) ?_ | refine ax_q (q_loadN_ip rfl (Nat.le_refl _)) ?_ | refine ax_q (q_loadN_ip rfl (by decide)) ?_ | refine ax_q (q_loadN_rptr rfl rfl (by assumption) (by decide)) ?_ | refine ax_q (q_loadN_rptr rfl rfl (mapAt (by first | assumption | omega)) (by decide)) ?_
      first | refine ax_callq rfl (c_eqWait) hP (lal_id _ rfl) rfl ?_ | refine ax_call rfl (vc_pure0 (c_eqWait) hP rfl rfl ?_)
      refine ax_q (q_not rfl) ?_
      refine ax_nil ?_
      refine cx_keep rfl rfl ?_
      refine cx_cond rfl (fun h2 => ?_) (fun h2 => ?_)
      · have h2 := bT h2
        refine cx_seq ?_
        refine cx_ops ?_
        refine ax_q (q_mov rfl) ?_
        refine ax_nil ?_
        refine cx_keep rfl rfl ?_
        refine cx_ret (ret0 rfl rfl ?_)
        exact ⟨congrArg AM.bool (eqbL_no h1x h1y h2).symm, rfl⟩
      · have h2 := bF h2
        refine cx_skip ?_
        refine cx_keep rfl rfl ?_
        refine cx_ops ?_
        refine ax_q (q_mov rfl) ?_
        refine ax_q (q_add rfl rfl (by omega)) ?_
        refine ax_q (q_mov rfl) ?_
        refine ax_nil ?_
        exact ⟨_, k + 1, by omega, ⟨by omega, rfl, eqbL_step h1x h1y ht h2⟩, by repeat (first | exact trivial | refine ⟨rfl, ?_⟩ | refine ⟨?_, ?_⟩)⟩
    · have h1 := dF h1
      refine cx_exit rfl ?_
      refine cx_keep rfl rfl ?_
      refine cx_seq ?_
      refine cx_ops ?_
      refine ax_q (q_mov rfl) ?_
      refine ax_nil ?_
      refine cx_keep rfl rfl ?_
      refine cx_ret (ret0 rfl rfl ?_)
      exact ⟨congrArg AM.bool (eqb_t (eq_of_take hl (by rwa [show k = xs.length from by omega] at ht))).symm, rfl⟩


/- loop.example/g00332/laws.eqLocks -/
def k_c_eqLocks : XCode :=
  .seq (.ops [.op (some 2) (.box (.t 0)),
     .op (some 3) (.box (.t 1)),
     .op (some 4) (.mov (.k (.bool false)))])
  (.keep [2, 3] (.seq (.seq (.ops [.op (some 5) (.fadr (.t 2) 0),
      .op (some 6) (.load1 (.t 5)),
      .op (some 7) (.fadr (.t 3) 0),
      .op (some 8) (.load1 (.t 7)),
      .call (some 9) 42 [.t 6, .t 8],
      .op (some 10) (.not (.t 9))])
   (.keep [2, 3, 10] (.cond (.t 10)
    (.seq (.ops [.op (some 4) (.mov (.k (.bool false)))])
     (.keep [4] (.ret)))
    (.skip))))
  (.keep [2, 3] (.seq (.seq (.ops [.op (some 11) (.fadr (.t 2) 1),
      .op (some 12) (.load1 (.t 11)),
      .op (some 13) (.fadr (.t 3) 1),
      .op (some 14) (.load1 (.t 13)),
      .call (some 15) 43 [.t 12, .t 14],
      .op (some 16) (.not (.t 15))])
   (.keep [16] (.cond (.t 16)
    (.seq (.ops [.op (some 4) (.mov (.k (.bool false)))])
     (.keep [4] (.ret)))
    (.skip))))
  (.keep [] (.seq (.ops [.op (some 4) (.mov (.k (.bool true)))])
  (.keep [4] (.ret))))))))
theorem k_c_eqLocks_fits : fitsF Try.prog 16 ⟨17, k_c_eqLocks, [.t 4]⟩ = true := by kernel_rfl
theorem c_eqLocks {a b : GLocks} (hw0 : a.Held.length ≤ 9223372036854775807) (hw1 : a.Waits.length ≤ 9223372036854775807) : Con Try.prog noMv 16 [a.av, b.av] [] (fun r h => r = bool (eqb a b) ∧ h = []) := by
  refine con_of2 k_c_eqLocks_fits rfl fun C hP hmv => ?_
  unfold k_c_eqLocks
  refine cx_seq ?_
  refine cx_ops ?_
  refine ax_e (e_box rfl rfl (by decide) rfl rfl rfl) ?_
  refine ax_e (e_box rfl rfl (by decide) rfl rfl rfl) ?_
  refine ax_q (q_mov rfl) ?_
  refine ax_nil ?_
  refine cx_keep rfl rfl ?_
  refine cx_seq ?_
  refine cx_seq ?_
  refine cx_ops ?_
  first | refine ax_q (q_fadr_ptr rfl) ?_ | refine ax_q (q_fadr_rptr rfl) ?_ | refine ax_q (q_fadr_ip rfl) ?_
  first | refine ax_q (q_load1_ptr rfl rfl rfl) ?_ | refine ax_q (q_load1_ip rfl) ?_ | refine ax_q (q_load1_rptr rfl rfl (by assumption) rfl) ?_ | refine ax_q (q_load1_rptr rfl rfl (mapAt (by first | assumption | omega)) rfl) ?_
  first | refine ax_q (q_fadr_ptr rfl) ?_ | refine ax_q (q_fadr_rptr rfl) ?_ | refine ax_q (q_fadr_ip rfl) ?_
  first | refine ax_q (q_load1_ptr rfl rfl rfl) ?_ | refine ax_q (q_load1_ip rfl) ?_ | refine ax_q (q_load1_rptr rfl rfl (by assumption) rfl) ?_ | refine ax_q (q_load1_rptr rfl rfl (mapAt (by first | assumption | omega)) rfl) ?_
  first | refine ax_call rfl (vc_pure0 (c_eqLockS  ?_) hP rfl rfl ?_) | refine ax_call rfl (vc_lend0 (c_eqLockS  ?_) hP (by repeat (first | exact lal_id _ rfl | exact LAL.nil | refine LAL.cons ?_ ?_ | exact la_id _ rfl | exact LA.lend (lend_whole rfl (by simp)) | refine LA.agg ?_ | refine LA.fn ?_ | refine LA.lend ?_ | exact Lend.d _ | exact Lend.zs _ | exact lend_whole rfl (by simp) | refine Lend.ptr rfl ?_ | refine Lend.fn ?_ | exact LendL.nil | refine LendL.cons ?_ ?_)) rfl rfl ?_)
  · first | assumption | omega | (simp; done) | (simp; omega)
  refine ax_q (q_not rfl) ?_
  refine ax_nil ?_
  refine cx_keep rfl rfl ?_
  refine cx_cond rfl (fun h0 => ?_) (fun h0 => ?_)
  · have h0 := bT h0
    refine cx_seq ?_
    refine cx_ops ?_
    refine ax_q (q_mov rfl) ?_
    refine ax_nil ?_
    refine cx_keep rfl rfl ?_
    refine cx_ret (ret0 rfl rfl ?_)
    exact ⟨congrArg AM.bool (eqb_f (fun h => by rw [h, eqb_rfl] at h0; cases h0)).symm, rfl⟩
  · have h0 := bF h0
    refine cx_skip ?_
    refine cx_keep rfl rfl ?_
    refine cx_seq ?_
    refine cx_seq ?_
    refine cx_ops ?_
    first | refine ax_q (q_fadr_ptr rfl) ?_ | refine ax_q (q_fadr_rptr rfl) ?_ | refine ax_q (q_fadr_ip rfl) ?_
    first | refine ax_q (q_load1_ptr rfl rfl rfl) ?_ | refine ax_q (q_load1_ip rfl) ?_ | refine ax_q (q_load1_rptr rfl rfl (by assumption) rfl) ?_ | refine ax_q (q_load1_rptr rfl rfl (mapAt (by first | assumption | omega)) rfl) ?_
    first | refine ax_q (q_fadr_ptr rfl) ?_ | refine ax_q (q_fadr_rptr rfl) ?_ | refine ax_q (q_fadr_ip rfl) ?_
    first | refine ax_q (q_load1_ptr rfl rfl rfl) ?_ | refine ax_q (q_load1_ip rfl) ?_ | refine ax_q (q_load1_rptr rfl rfl (by assumption) rfl) ?_ | refine ax_q (q_load1_rptr rfl rfl (mapAt (by first | assumption | omega)) rfl) ?_
    first | refine ax_call rfl (vc_pure0 (c_eqWaitS  ?_) hP rfl rfl ?_) | refine ax_call rfl (vc_lend0 (c_eqWaitS  ?_) hP (by repeat (first | exact lal_id _ rfl | exact LAL.nil | refine LAL.cons ?_ ?_ | exact la_id _ rfl | exact LA.lend (lend_whole rfl (by simp)) | refine LA.agg ?_ | refine LA.fn ?_ | refine LA.lend ?_ | exact Lend.d _ | exact Lend.zs _ | exact lend_whole rfl (by simp) | refine Lend.ptr rfl ?_ | refine Lend.fn ?_ | exact LendL.nil | refine LendL.cons ?_ ?_)) rfl rfl ?_)
    · first | assumption | omega | (simp; done) | (simp; omega)
    refine ax_q (q_not rfl) ?_
    refine ax_nil ?_
    refine cx_keep rfl rfl ?_
    refine cx_cond rfl (fun h1 => ?_) (fun h1 => ?_)
    · have h1 := bT h1
      refine cx_seq ?_
      refine cx_ops ?_
      refine ax_q (q_mov rfl) ?_
      refine ax_nil ?_
      refine cx_keep rfl rfl ?_
      refine cx_ret (ret0 rfl rfl ?_)
      exact ⟨congrArg AM.bool (eqb_f (fun h => by rw [h, eqb_rfl] at h1; cases h1)).symm, rfl⟩
    · have h1 := bF h1
      refine cx_skip ?_
      refine cx_keep rfl rfl ?_
      refine cx_seq ?_
      refine cx_ops ?_
      refine ax_q (q_mov rfl) ?_
      refine ax_nil ?_
      refine cx_keep rfl rfl ?_
      refine cx_ret (ret0 rfl rfl ?_)
      exact ⟨congrArg AM.bool (eqb_t (GLocks.ext1 (eqb_iff.1 h0) (eqb_iff.1 h1))).symm, rfl⟩


/- loop.example/g00332/laws.markLockS -/
def k_c_markLockS : XCode :=
  .seq (.ops [.op (some 4) (.mov (.k (.int .i64 0)))])
  (.keep [0, 1] (.seq (.seq (.ops [.op (some 5) (.mov (.k (.int .i64 0)))])
   (.keep [0, 1, 5] (.block 0 (.loop (.seq (.seq (.ops [.op (some 6) (.mov (.t 5)),
         .op (some 7) (.mov (.t 0)),
         .op (some 8) (.lenS (.t 7)),
         .op (some 9) (.bin .lss (.t 6) (.t 8))])
      (.keep [0, 1, 5, 9] (.cond (.t 9)
       (.skip)
       (.exit 0))))
     (.keep [0, 1, 5] (.seq (.block 1 (.seq (.ops [.op (some 12) (.mov (.t 0)),
          .op (some 13) (.mov (.t 5)),
          .op (some 14) (.mov (.t 1)),
          .op (some 15) (.iadr 4 (.t 12) (.t 13)),
          .op (some 16) (.fadr (.t 15) 0),
          .op none (.store 1 (.t 16) (.t 14))])
       (.keep [0, 1, 5] (.seq (.ops [.op (some 17) (.mov (.t 1)),
          .op (some 18) (.bin .add (.t 17) (.k (.int .i64 1))),
          .op (some 1) (.mov (.t 18))])
       (.keep [0, 1, 5] (.seq (.ops [.op (some 19) (.mov (.t 0)),
          .op (some 20) (.mov (.t 5)),
          .op (some 21) (.mov (.t 1)),
          .op (some 22) (.iadr 4 (.t 19) (.t 20)),
          .op (some 23) (.fadr (.t 22) 1),
          .op none (.store 1 (.t 23) (.t 21))])
       (.keep [0, 1, 5] (.seq (.ops [.op (some 24) (.mov (.t 1)),
          .op (some 25) (.bin .add (.t 24) (.k (.int .i64 1))),
          .op (some 1) (.mov (.t 25))])
       (.keep [0, 1, 5] (.seq (.ops [.op (some 26) (.mov (.t 0)),
          .op (some 27) (.mov (.t 5)),
          .op (some 28) (.mov (.t 1)),
          .op (some 29) (.iadr 4 (.t 26) (.t 27)),
          .op (some 30) (.fadr (.t 29) 2),
          .op none (.store 1 (.t 30) (.t 28))])
       (.keep [0, 1, 5] (.seq (.ops [.op (some 31) (.mov (.t 1)),
          .op (some 32) (.bin .add (.t 31) (.k (.int .i64 1))),
          .op (some 1) (.mov (.t 32))])
       (.keep [0, 1, 5] (.seq (.ops [.op (some 33) (.mov (.t 0)),
          .op (some 34) (.mov (.t 5)),
          .op (some 35) (.mov (.t 1)),
          .op (some 36) (.iadr 4 (.t 33) (.t 34)),
          .op (some 37) (.fadr (.t 36) 3),
          .op none (.store 1 (.t 37) (.t 35))])
       (.keep [0, 1, 5] (.ops [.op (some 38) (.mov (.t 1)),
         .op (some 39) (.bin .add (.t 38) (.k (.int .i64 1))),
         .op (some 1) (.mov (.t 39))]))))))))))))))))
     (.keep [0, 1, 5] (.ops [.op (some 10) (.mov (.t 5)),
       .op (some 11) (.bin .add (.t 10) (.k (.int .i64 1))),
       .op (some 5) (.mov (.t 11))])))))))))
  (.keep [1] (.seq (.ops [.op (some 40) (.mov (.t 1)),
     .op (some 4) (.mov (.t 40))])
  (.keep [4] (.ret))))))
theorem k_c_markLockS_fits : fitsF Try.prog 44 ⟨41, k_c_markLockS, [.t 4]⟩ = true := by kernel_rfl
theorem c_markLockS {xs : List GLock} {k0 : Nat} (hw : k0 + 4 * xs.length ≤ 1000000000000000000) : Con Try.prog noMv 44 [.osl 1000 4 0 xs.length, int k0] [(1000, .rows 4 (xs.map GLock.row))] (fun r h => r = int ((k0 + 4 * xs.length : Nat) : Int) ∧ h = [(1000, .rows 4 ((markL GLock.mk1 4 k0 xs).map GLock.row))]) := by
  refine con_of2 k_c_markLockS_fits rfl fun C hP hmv => ?_
  unfold k_c_markLockS
  refine cx_seq ?_
  refine cx_ops ?_
  refine ax_q (q_mov rfl) ?_
  refine ax_nil ?_
  refine cx_keep rfl rfl ?_
  refine cx_seq ?_
  refine cx_seq ?_
  refine cx_ops ?_
  refine ax_q (q_mov rfl) ?_
  refine ax_nil ?_
  refine cx_keep rfl rfl ?_
  refine cx_block ?_
  refine cx_loopU (fun n k => k ≤ xs.length ∧ n = xs.length - k) (fun k : Nat => [(1, int ((k0 + 4 * k : Nat) : Int)), (5, int k)]) (fun k => [(1000, .rows 4 ((markL GLock.mk1 4 k0 (xs.take k) ++ xs.drop k).map GLock.row))]) ⟨_, 0, ⟨Nat.zero_le _, rfl⟩, by repeat (first | exact trivial | refine ⟨rfl, ?_⟩ | refine ⟨?_, ?_⟩)⟩ ?_
  rintro n k ⟨hk, rfl⟩
  refine cx_seq ?_
  refine cx_seq ?_
  refine cx_ops ?_
  refine ax_q (q_mov rfl) ?_
  refine ax_q (q_mov rfl) ?_
  first | refine ax_q (q_lenS_map rfl) ?_ | refine ax_q (q_lenS_osl rfl) ?_ | refine ax_q (q_lenS_zs rfl) ?_ | refine ax_q (q_lenS rfl) ?_
  refine ax_q (q_ibin rfl rfl rfl) ?_
  refine ax_nil ?_
  refine cx_keep rfl rfl ?_
  refine cx_cond rfl (fun h0 => ?_) (fun h0 => ?_)
  · have h0 := dT h0
    have h1x : k < xs.length := by omega
    have h1l : k < ((markL GLock.mk1 4 k0 (xs.take k) ++ xs.drop k).map GLock.row).length := by rw [markL_mlen]; exact h1x
    refine cx_skip ?_
    refine cx_keep rfl rfl ?_
    refine cx_seq ?_
    refine cx_block ?_
    refine cx_seq ?_
    refine cx_ops ?_
    refine ax_q (q_mov rfl) ?_
    refine ax_q (q_mov rfl) ?_
    refine ax_q (q_mov rfl) ?_
    refine ax_q (q_ixo rfl rfl h1x) ?_
    first | refine ax_q (q_fadr_ptr rfl) ?_ | refine ax_q (q_fadr_rptr rfl) ?_ | refine ax_q (q_fadr_ip rfl) ?_
    refine ax_e (e_str (q := [.int .i64 ((k0 + 4 * k : Nat) : Int), .int .i64 xs[k].Table, .int .i64 xs[k].Row, .int .i64 xs[k].Mode]) rfl rfl rfl rfl rfl rfl (markL_at h1x) rfl rfl (rfl)) ?_
    refine ax_nil ?_
    refine cx_keep rfl rfl ?_
    refine cx_seq ?_
    refine cx_ops ?_
    refine ax_q (q_mov rfl) ?_
    refine ax_qe (r' := int ((k0 + 4 * k + 1 : Nat) : Int)) (q_ibin rfl rfl rfl) (by rw [wi (by omega) (by omega)]; rfl) ?_
    refine ax_q (q_mov rfl) ?_
    refine ax_nil ?_
    refine cx_keep rfl rfl ?_
    refine cx_seq ?_
    refine cx_ops ?_
    refine ax_q (q_mov rfl) ?_
    refine ax_q (q_mov rfl) ?_
    refine ax_q (q_mov rfl) ?_
    refine ax_q (q_ixo rfl rfl h1x) ?_
    first | refine ax_q (q_fadr_ptr rfl) ?_ | refine ax_q (q_fadr_rptr rfl) ?_ | refine ax_q (q_fadr_ip rfl) ?_
    refine ax_e (e_str (q := [.int .i64 ((k0 + 4 * k : Nat) : Int), .int .i64 ((k0 + 4 * k + 1 : Nat) : Int), .int .i64 xs[k].Row, .int .i64 xs[k].Mode]) rfl rfl rfl rfl rfl rfl (setAt h1l) rfl rfl (set_set' rfl)) ?_
    refine ax_nil ?_
    refine cx_keep rfl rfl ?_
    refine cx_seq ?_
    refine cx_ops ?_
    refine ax_q (q_mov rfl) ?_
    refine ax_qe (r' := int ((k0 + 4 * k + 2 : Nat) : Int)) (q_ibin rfl rfl rfl) (by rw [wi (by omega) (by omega)]; rfl) ?_
    refine ax_q (q_mov rfl) ?_
    refine ax_nil ?_
    refine cx_keep rfl rfl ?_
    refine cx_seq ?_
    refine cx_ops ?_
    refine ax_q (q_mov rfl) ?_
    refine ax_q (q_mov rfl) ?_
    refine ax_q (q_mov rfl) ?_
    refine ax_q (q_ixo rfl rfl h1x) ?_
    first | refine ax_q (q_fadr_ptr rfl) ?_ | refine ax_q (q_fadr_rptr rfl) ?_ | refine ax_q (q_fadr_ip rfl) ?_
    refine ax_e (e_str (q := [.int .i64 ((k0 + 4 * k : Nat) : Int), .int .i64 ((k0 + 4 * k + 1 : Nat) : Int), .int .i64 ((k0 + 4 * k + 2 : Nat) : Int), .int .i64 xs[k].Mode]) rfl rfl rfl rfl rfl rfl (setAt h1l) rfl rfl (set_set' rfl)) ?_
    refine ax_nil ?_
    refine cx_keep rfl rfl ?_
    refine cx_seq ?_
    refine cx_ops ?_
    refine ax_q (q_mov rfl) ?_
    refine ax_qe (r' := int ((k0 + 4 * k + 3 : Nat) : Int)) (q_ibin rfl rfl rfl) (by rw [wi (by omega) (by omega)]; rfl) ?_
    refine ax_q (q_mov rfl) ?_
    refine ax_nil ?_
    refine cx_keep rfl rfl ?_
    refine cx_seq ?_
    refine cx_ops ?_
    refine ax_q (q_mov rfl) ?_
    refine ax_q (q_mov rfl) ?_
    refine ax_q (q_mov rfl) ?_
    refine ax_q (q_ixo rfl rfl h1x) ?_
    first | refine ax_q (q_fadr_ptr rfl) ?_ | refine ax_q (q_fadr_rptr rfl) ?_ | refine ax_q (q_fadr_ip rfl) ?_
    refine ax_e (e_str (q := GLock.row (GLock.mk1 (k0 + 4 * k) xs[k])) rfl rfl rfl rfl rfl rfl (setAt h1l) rfl rfl (set_set' (markL_set h1x))) ?_
    refine ax_nil ?_
    refine cx_keep rfl rfl ?_
    refine cx_ops ?_
    refine ax_q (q_mov rfl) ?_
    refine ax_qe (r' := int ((k0 + 4 * k + 4 : Nat) : Int)) (q_ibin rfl rfl rfl) (by rw [wi (by omega) (by omega)]; rfl) ?_
    refine ax_q (q_mov rfl) ?_
    refine ax_nil ?_
    refine cx_keep rfl rfl ?_
    refine cx_ops ?_
    refine ax_q (q_mov rfl) ?_
    refine ax_qe (r' := int ((k + 1 : Nat) : Int)) (q_ibin rfl rfl rfl) (by rw [wi (by omega) (by omega)]; rfl) ?_
    refine ax_q (q_mov rfl) ?_
    refine ax_nil ?_
    exact ⟨_, k + 1, by omega, ⟨by omega, rfl⟩, by repeat (first | exact trivial | refine ⟨rfl, ?_⟩ | refine ⟨?_, ?_⟩)⟩
  · have h0 := dF h0
    refine cx_exit rfl ?_
    refine cx_keep rfl rfl ?_
    refine cx_seq ?_
    refine cx_ops ?_
    refine ax_q (q_mov rfl) ?_
    refine ax_q (q_mov rfl) ?_
    refine ax_nil ?_
    refine cx_keep rfl rfl ?_
    have hk2 : k = xs.length := by omega
    subst hk2
    refine cx_ret (retN id [1000] rfl rfl rfl rfl rfl ?_)
    exact ⟨rfl, by rw [markL_full]; rfl⟩


/- loop.example/g00332/laws.markWaitS -/
def k_c_markWaitS : XCode :=
  .seq (.ops [.op (some 4) (.mov (.k (.int .i64 0)))])
  (.keep [0, 1] (.seq (.seq (.ops [.op (some 5) (.mov (.k (.int .i64 0)))])
   (.keep [0, 1, 5] (.block 0 (.loop (.seq (.seq (.ops [.op (some 6) (.mov (.t 5)),
         .op (some 7) (.mov (.t 0)),
         .op (some 8) (.lenS (.t 7)),
         .op (some 9) (.bin .lss (.t 6) (.t 8))])
      (.keep [0, 1, 5, 9] (.cond (.t 9)
       (.skip)
       (.exit 0))))
     (.keep [0, 1, 5] (.seq (.block 1 (.seq (.ops [.op (some 12) (.mov (.t 0)),
          .op (some 13) (.mov (.t 5)),
          .op (some 14) (.mov (.t 1)),
          .op (some 15) (.iadr 2 (.t 12) (.t 13)),
          .op (some 16) (.fadr (.t 15) 0),
          .op none (.store 1 (.t 16) (.t 14))])
       (.keep [0, 1, 5] (.seq (.ops [.op (some 17) (.mov (.t 1)),
          .op (some 18) (.bin .add (.t 17) (.k (.int .i64 1))),
          .op (some 1) (.mov (.t 18))])
       (.keep [0, 1, 5] (.seq (.ops [.op (some 19) (.mov (.t 0)),
          .op (some 20) (.mov (.t 5)),
          .op (some 21) (.mov (.t 1)),
          .op (some 22) (.iadr 2 (.t 19) (.t 20)),
          .op (some 23) (.fadr (.t 22) 1),
          .op none (.store 1 (.t 23) (.t 21))])
       (.keep [0, 1, 5] (.ops [.op (some 24) (.mov (.t 1)),
         .op (some 25) (.bin .add (.t 24) (.k (.int .i64 1))),
         .op (some 1) (.mov (.t 25))]))))))))
     (.keep [0, 1, 5] (.ops [.op (some 10) (.mov (.t 5)),
       .op (some 11) (.bin .add (.t 10) (.k (.int .i64 1))),
       .op (some 5) (.mov (.t 11))])))))))))
  (.keep [1] (.seq (.ops [.op (some 26) (.mov (.t 1)),
     .op (some 4) (.mov (.t 26))])
  (.keep [4] (.ret))))))
theorem k_c_markWaitS_fits : fitsF Try.prog 45 ⟨27, k_c_markWaitS, [.t 4]⟩ = true := by kernel_rfl
theorem c_markWaitS {xs : List GWait} {k0 : Nat} (hw : k0 + 2 * xs.length ≤ 1000000000000000000) : Con Try.prog noMv 45 [.osl 1000 2 0 xs.length, int k0] [(1000, .rows 2 (xs.map GWait.row))] (fun r h => r = int ((k0 + 2 * xs.length : Nat) : Int) ∧ h = [(1000, .rows 2 ((markL GWait.mk1 2 k0 xs).map GWait.row))]) := by
  refine con_of2 k_c_markWaitS_fits rfl fun C hP hmv => ?_
  unfold k_c_markWaitS
  refine cx_seq ?_
  refine cx_ops ?_
  refine ax_q (q_mov rfl) ?_
  refine ax_nil ?_
  refine cx_keep rfl rfl ?_
  refine cx_seq ?_
  refine cx_seq ?_
  refine cx_ops ?_
  refine ax_q (q_mov rfl) ?_
  refine ax_nil ?_
  refine cx_keep rfl rfl ?_
  refine cx_block ?_
  refine cx_loopU (fun n k => k ≤ xs.length ∧ n = xs.length - k) (fun k : Nat => [(1, int ((k0 + 2 * k : Nat) : Int)), (5, int k)]) (fun k => [(1000, .rows 2 ((markL GWait.mk1 2 k0 (xs.take k) ++ xs.drop k).map GWait.row))]) ⟨_, 0, ⟨Nat.zero_le _, rfl⟩, by repeat (first | exact trivial | refine ⟨rfl, ?_⟩ | refine ⟨?_, ?_⟩)⟩ ?_
  rintro n k ⟨hk, rfl⟩
  refine cx_seq ?_
  refine cx_seq ?_
  refine cx_ops ?_
  refine ax_q (q_mov rfl) ?_
  refine ax_q (q_mov rfl) ?_
  first | refine ax_q (q_lenS_map rfl) ?_ | refine ax_q (q_lenS_osl rfl) ?_ | refine ax_q (q_lenS_zs rfl) ?_ | refine ax_q (q_lenS rfl) ?_
  refine ax_q (q_ibin rfl rfl rfl) ?_
  refine ax_nil ?_
  refine cx_keep rfl rfl ?_
  refine cx_cond rfl (fun h0 => ?_) (fun h0 => ?_)
  · have h0 := dT h0
    have h1x : k < xs.length := by omega
    have h1l : k < ((markL GWait.mk1 2 k0 (xs.take k) ++ xs.drop k).map GWait.row).length := by rw [markL_mlen]; exact h1x
    refine cx_skip ?_
    refine cx_keep rfl rfl ?_
    refine cx_seq ?_
    refine cx_block ?_
    refine cx_seq ?_
    refine cx_ops ?_
    refine ax_q (q_mov rfl) ?_
    refine ax_q (q_mov rfl) ?_
    refine ax_q (q_mov rfl) ?_
    refine ax_q (q_ixo rfl rfl h1x) ?_
    first | refine ax_q (q_fadr_ptr rfl) ?_ | refine ax_q (q_fadr_rptr rfl) ?_ | refine ax_q (q_fadr_ip rfl) ?_
    refine ax_e (e_str (q := [.int .i64 ((k0 + 2 * k : Nat) : Int), .int .i64 xs[k].For]) rfl rfl rfl rfl rfl rfl (markL_at h1x) rfl rfl (rfl)) ?_
    refine ax_nil ?_
    refine cx_keep rfl rfl ?_
    refine cx_seq ?_
    refine cx_ops ?_
    refine ax_q (q_mov rfl) ?_
    refine ax_qe (r' := int ((k0 + 2 * k + 1 : Nat) : Int)) (q_ibin rfl rfl rfl) (by rw [wi (by omega) (by omega)]; rfl) ?_
    refine ax_q (q_mov rfl) ?_
    refine ax_nil ?_
    refine cx_keep rfl rfl ?_
    refine cx_seq ?_
    refine cx_ops ?_
    refine ax_q (q_mov rfl) ?_
    refine ax_q (q_mov rfl) ?_
    refine ax_q (q_mov rfl) ?_
    refine ax_q (q_ixo rfl rfl h1x) ?_
    first | refine ax_q (q_fadr_ptr rfl) ?_ | refine ax_q (q_fadr_rptr rfl) ?_ | refine ax_q (q_fadr_ip rfl) ?_
    refine ax_e (e_str (q := GWait.row (GWait.mk1 (k0 + 2 * k) xs[k])) rfl rfl rfl rfl rfl rfl (setAt h1l) rfl rfl (set_set' (markL_set h1x))) ?_
    refine ax_nil ?_
    refine cx_keep rfl rfl ?_
    refine cx_ops ?_
    refine ax_q (q_mov rfl) ?_
    refine ax_qe (r' := int ((k0 + 2 * k + 2 : Nat) : Int)) (q_ibin rfl rfl rfl) (by rw [wi (by omega) (by omega)]; rfl) ?_
    refine ax_q (q_mov rfl) ?_
    refine ax_nil ?_
    refine cx_keep rfl rfl ?_
    refine cx_ops ?_
    refine ax_q (q_mov rfl) ?_
    refine ax_qe (r' := int ((k + 1 : Nat) : Int)) (q_ibin rfl rfl rfl) (by rw [wi (by omega) (by omega)]; rfl) ?_
    refine ax_q (q_mov rfl) ?_
    refine ax_nil ?_
    exact ⟨_, k + 1, by omega, ⟨by omega, rfl⟩, by repeat (first | exact trivial | refine ⟨rfl, ?_⟩ | refine ⟨?_, ?_⟩)⟩
  · have h0 := dF h0
    refine cx_exit rfl ?_
    refine cx_keep rfl rfl ?_
    refine cx_seq ?_
    refine cx_ops ?_
    refine ax_q (q_mov rfl) ?_
    refine ax_q (q_mov rfl) ?_
    refine ax_nil ?_
    refine cx_keep rfl rfl ?_
    have hk2 : k = xs.length := by omega
    subst hk2
    refine cx_ret (retN id [1000] rfl rfl rfl rfl rfl ?_)
    exact ⟨rfl, by rw [markL_full]; rfl⟩


/- loop.example/g00332/laws.markLocks -/
def k_c_markLocks : XCode :=
  .seq (.ops [.op (some 2) (.box (.t 0)),
     .op (some 4) (.mov (.k (.int .i64 0)))])
  (.keep [1, 2] (.seq (.ops [.op (some 5) (.fadr (.t 2) 0),
     .op (some 6) (.load1 (.t 5)),
     .op (some 7) (.mov (.t 1)),
     .call (some 8) 44 [.t 6, .t 7],
     .op (some 1) (.mov (.t 8))])
  (.keep [1, 2] (.seq (.ops [.op (some 9) (.fadr (.t 2) 1),
     .op (some 10) (.load1 (.t 9)),
     .op (some 11) (.mov (.t 1)),
     .call (some 12) 45 [.t 10, .t 11],
     .op (some 1) (.mov (.t 12))])
  (.keep [1] (.seq (.ops [.op (some 13) (.mov (.t 1)),
     .op (some 4) (.mov (.t 13))])
  (.keep [4] (.ret))))))))
theorem k_c_markLocks_fits : fitsF Try.prog 17 ⟨14, k_c_markLocks, [.t 4]⟩ = true := by kernel_rfl
theorem c_markLocks {a : GLocks} {k0 : Nat} (hw : GLocks.mkN k0 a ≤ 1000000000000000000) : Con Try.prog noMv 17 [a.avO 1000 1001, int k0] (a.hO 1000 1001) (fun r h => r = int ((GLocks.mkN k0 a : Nat) : Int) ∧ h = (GLocks.mkS k0 a).hO 1000 1001) := by
  refine con_of2 k_c_markLocks_fits rfl fun C hP hmv => ?_
  unfold k_c_markLocks
  refine cx_seq ?_
  refine cx_ops ?_
  refine ax_e (e_box rfl rfl (by decide) rfl rfl rfl) ?_
  refine ax_q (q_mov rfl) ?_
  refine ax_nil ?_
  refine cx_keep rfl rfl ?_
  refine cx_seq ?_
  refine cx_ops ?_
  first | refine ax_q (q_fadr_ptr rfl) ?_ | refine ax_q (q_fadr_rptr rfl) ?_ | refine ax_q (q_fadr_ip rfl) ?_
  first | refine ax_q (q_load1_ptr rfl rfl rfl) ?_ | refine ax_q (q_load1_ip rfl) ?_ | refine ax_q (q_load1_rptr rfl rfl (by assumption) rfl) ?_ | refine ax_q (q_load1_rptr rfl rfl (mapAt (by first | assumption | omega)) rfl) ?_
  refine ax_q (q_mov rfl) ?_
  refine ax_call rfl (vcall_own (c_markLockS (xs := a.Held) (k0 := k0) (by unfold GLocks.mkN at hw; omega)) hP hmv false (fun _ => 1000) [1000] ⟨rfl, rfl, rfl, rfl, ⟨rfl, trivial⟩, rfl, rfl, rfl⟩ (.pass rfl rfl (.pass rfl rfl .nil)) ?_)
  rintro r h ⟨rfl, rfl⟩
  refine ⟨fun _ => 1000, [], ⟨rfl, rfl, rfl, rfl, fun _ h => (by cases h with | head => rfl | tail _ h => cases h), rfl, rfl, fun h => by cases h⟩, ?_⟩
  refine ax_q (q_mov rfl) ?_
  refine ax_nil ?_
  refine cx_keep rfl rfl ?_
  refine cx_seq ?_
  refine cx_ops ?_
  first | refine ax_q (q_fadr_ptr rfl) ?_ | refine ax_q (q_fadr_rptr rfl) ?_ | refine ax_q (q_fadr_ip rfl) ?_
  first | refine ax_q (q_load1_ptr rfl rfl rfl) ?_ | refine ax_q (q_load1_ip rfl) ?_ | refine ax_q (q_load1_rptr rfl rfl (by assumption) rfl) ?_ | refine ax_q (q_load1_rptr rfl rfl (mapAt (by first | assumption | omega)) rfl) ?_
  refine ax_q (q_mov rfl) ?_
  refine ax_call rfl (vcall_own (c_markWaitS (xs := a.Waits) (k0 := k0 + 4 * a.Held.length) (by unfold GLocks.mkN at hw; omega)) hP hmv false (fun _ => 1001) [1000] ⟨rfl, rfl, rfl, rfl, ⟨rfl, trivial⟩, rfl, rfl, rfl⟩ (.pass rfl rfl (.pass rfl rfl .nil)) ?_)
  rintro r h ⟨rfl, rfl⟩
  refine ⟨fun _ => 1001, [], ⟨rfl, rfl, rfl, rfl, fun _ h => (by cases h with | head => rfl | tail _ h => cases h), rfl, rfl, fun h => by cases h⟩, ?_⟩
  refine ax_q (q_mov rfl) ?_
  refine ax_nil ?_
  refine cx_keep rfl rfl ?_
  refine cx_seq ?_
  refine cx_ops ?_
  refine ax_q (q_mov rfl) ?_
  refine ax_q (q_mov rfl) ?_
  refine ax_nil ?_
  refine cx_keep rfl rfl ?_
  refine cx_ret (retN id [1000, 1001] rfl rfl rfl rfl rfl ?_)
  exact ⟨rfl, rfl⟩


/- loop.example/g00332/laws.heldLockS -/
def k_c_heldLockS : XCode :=
  .seq (.ops [.op (some 4) (.mov (.k (.int .i64 0)))])
  (.keep [0, 1] (.seq (.seq (.ops [.op (some 5) (.mov (.k (.int .i64 0)))])
   (.keep [0, 1, 5] (.block 0 (.loop (.seq (.seq (.ops [.op (some 6) (.mov (.t 5)),
         .op (some 7) (.mov (.t 0)),
         .op (some 8) (.lenS (.t 7)),
         .op (some 9) (.bin .lss (.t 6) (.t 8))])
      (.keep [0, 1, 5, 9] (.cond (.t 9)
       (.skip)
       (.exit 0))))
     (.keep [0, 1, 5] (.seq (.block 1 (.seq (.seq (.ops [.op (some 12) (.mov (.t 0)),
           .op (some 13) (.mov (.t 5)),
           .op (some 14) (.iadr 4 (.t 12) (.t 13)),
           .op (some 15) (.fadr (.t 14) 0),
           .op (some 16) (.load1 (.t 15)),
           .op (some 17) (.mov (.t 1)),
           .op (some 18) (.bin .neq (.t 16) (.t 17))])
        (.keep [0, 1, 5, 18] (.cond (.t 18)
         (.seq (.ops [.op (some 4) (.mov (.k (.int .i64 (-1))))])
          (.keep [4] (.ret)))
         (.skip))))
       (.keep [0, 1, 5] (.seq (.ops [.op (some 19) (.mov (.t 1)),
          .op (some 20) (.bin .add (.t 19) (.k (.int .i64 1))),
          .op (some 1) (.mov (.t 20))])
       (.keep [0, 1, 5] (.seq (.seq (.ops [.op (some 21) (.mov (.t 0)),
           .op (some 22) (.mov (.t 5)),
           .op (some 23) (.iadr 4 (.t 21) (.t 22)),
           .op (some 24) (.fadr (.t 23) 1),
           .op (some 25) (.load1 (.t 24)),
           .op (some 26) (.mov (.t 1)),
           .op (some 27) (.bin .neq (.t 25) (.t 26))])
        (.keep [0, 1, 5, 27] (.cond (.t 27)
         (.seq (.ops [.op (some 4) (.mov (.k (.int .i64 (-1))))])
          (.keep [4] (.ret)))
         (.skip))))
       (.keep [0, 1, 5] (.seq (.ops [.op (some 28) (.mov (.t 1)),
          .op (some 29) (.bin .add (.t 28) (.k (.int .i64 1))),
          .op (some 1) (.mov (.t 29))])
       (.keep [0, 1, 5] (.seq (.seq (.ops [.op (some 30) (.mov (.t 0)),
           .op (some 31) (.mov (.t 5)),
           .op (some 32) (.iadr 4 (.t 30) (.t 31)),
           .op (some 33) (.fadr (.t 32) 2),
           .op (some 34) (.load1 (.t 33)),
           .op (some 35) (.mov (.t 1)),
           .op (some 36) (.bin .neq (.t 34) (.t 35))])
        (.keep [0, 1, 5, 36] (.cond (.t 36)
         (.seq (.ops [.op (some 4) (.mov (.k (.int .i64 (-1))))])
          (.keep [4] (.ret)))
         (.skip))))
       (.keep [0, 1, 5] (.seq (.ops [.op (some 37) (.mov (.t 1)),
          .op (some 38) (.bin .add (.t 37) (.k (.int .i64 1))),
          .op (some 1) (.mov (.t 38))])
       (.keep [0, 1, 5] (.seq (.seq (.ops [.op (some 39) (.mov (.t 0)),
           .op (some 40) (.mov (.t 5)),
           .op (some 41) (.iadr 4 (.t 39) (.t 40)),
           .op (some 42) (.fadr (.t 41) 3),
           .op (some 43) (.load1 (.t 42)),
           .op (some 44) (.mov (.t 1)),
           .op (some 45) (.bin .neq (.t 43) (.t 44))])
        (.keep [0, 1, 5, 45] (.cond (.t 45)
         (.seq (.ops [.op (some 4) (.mov (.k (.int .i64 (-1))))])
          (.keep [4] (.ret)))
         (.skip))))
       (.keep [0, 1, 5] (.ops [.op (some 46) (.mov (.t 1)),
         .op (some 47) (.bin .add (.t 46) (.k (.int .i64 1))),
         .op (some 1) (.mov (.t 47))]))))))))))))))))
     (.keep [0, 1, 5] (.ops [.op (some 10) (.mov (.t 5)),
       .op (some 11) (.bin .add (.t 10) (.k (.int .i64 1))),
       .op (some 5) (.mov (.t 11))])))))))))
  (.keep [1] (.seq (.ops [.op (some 48) (.mov (.t 1)),
     .op (some 4) (.mov (.t 48))])
  (.keep [4] (.ret))))))
theorem k_c_heldLockS_fits : fitsF Try.prog 46 ⟨49, k_c_heldLockS, [.t 4]⟩ = true := by kernel_rfl
theorem c_heldLockS {xs : List GLock} {k0 : Nat} (hw : k0 + 4 * xs.length ≤ 1000000000000000000) : Con Try.prog noMv 46 [.d (.sl 4 ((markL GLock.mk1 4 k0 xs).map GLock.row)), int k0] [] (fun r h => r = int ((k0 + 4 * xs.length : Nat) : Int) ∧ h = []) := by
  refine con_of2 k_c_heldLockS_fits rfl fun C hP hmv => ?_
  unfold k_c_heldLockS
  refine cx_seq ?_
  refine cx_ops ?_
  refine ax_q (q_mov rfl) ?_
  refine ax_nil ?_
  refine cx_keep rfl rfl ?_
  refine cx_seq ?_
  refine cx_seq ?_
  refine cx_ops ?_
  refine ax_q (q_mov rfl) ?_
  refine ax_nil ?_
  refine cx_keep rfl rfl ?_
  refine cx_block ?_
  refine cx_loopU (fun m k => k ≤ xs.length ∧ m = xs.length - k) (fun k : Nat => [(1, int ((k0 + 4 * k : Nat) : Int)), (5, int k)]) (fun k => []) ⟨_, 0, ⟨Nat.zero_le _, rfl⟩, by repeat (first | exact trivial | refine ⟨rfl, ?_⟩ | refine ⟨?_, ?_⟩)⟩ ?_
  rintro m k ⟨hk, rfl⟩
  refine cx_seq ?_
  refine cx_seq ?_
  refine cx_ops ?_
  refine ax_q (q_mov rfl) ?_
  refine ax_q (q_mov rfl) ?_
  first | refine ax_q (q_lenS_map rfl) ?_ | refine ax_q (q_lenS_osl rfl) ?_ | refine ax_q (q_lenS_zs rfl) ?_ | refine ax_q (q_lenS rfl) ?_
  refine ax_q (q_ibin rfl rfl rfl) ?_
  refine ax_nil ?_
  refine cx_keep rfl rfl ?_
  refine cx_cond rfl (fun h0 => ?_) (fun h0 => ?_)
  · have h0 := dT h0; rw [markL_len] at h0; have h1x : k < xs.length := by omega
    refine cx_skip ?_
    refine cx_keep rfl rfl ?_
    refine cx_seq ?_
    refine cx_block ?_
    refine cx_seq ?_
    refine cx_seq ?_
    refine cx_ops ?_
    refine ax_q (q_mov rfl) ?_
    refine ax_q (q_mov rfl) ?_
    refine ax_q (q_ix rfl rfl (heldAt h1x)) ?_
    first | refine ax_q (q_fadr_ptr rfl) ?_ | refine ax_q (q_fadr_rptr rfl) ?_ | refine ax_q (q_fadr_ip rfl) ?_
    first | refine ax_q (q_load1_ptr rfl rfl rfl) ?_ | refine ax_q (q_load1_ip rfl) ?_ | refine ax_q (q_load1_rptr rfl rfl (by assumption) rfl) ?_ | refine ax_q (q_load1_rptr rfl rfl (mapAt (by first | assumption | omega)) rfl) ?_
    refine ax_q (q_mov rfl) ?_
    refine ax_q (q_ibin rfl rfl rfl) ?_
    refine ax_nil ?_
    refine cx_keep rfl rfl ?_
    refine cx_cond rfl (fun h1 => ?_) (fun h1 => ?_)
    · have h1 := nT h1
      exact absurd rfl h1
    · have h1 := nF h1
      refine cx_skip ?_
      refine cx_keep rfl rfl ?_
      refine cx_seq ?_
      refine cx_ops ?_
      refine ax_q (q_mov rfl) ?_
      refine ax_qe (r' := int ((k0 + 4 * k + 1 : Nat) : Int)) (q_ibin rfl rfl rfl) (by rw [wi (by omega) (by omega)]; rfl) ?_
      refine ax_q (q_mov rfl) ?_
      refine ax_nil ?_
      refine cx_keep rfl rfl ?_
      refine cx_seq ?_
      refine cx_seq ?_
      refine cx_ops ?_
      refine ax_q (q_mov rfl) ?_
      refine ax_q (q_mov rfl) ?_
      refine ax_q (q_ix rfl rfl (heldAt h1x)) ?_
      first | refine ax_q (q_fadr_ptr rfl) ?_ | refine ax_q (q_fadr_rptr rfl) ?_ | refine ax_q (q_fadr_ip rfl) ?_
      first | refine ax_q (q_load1_ptr rfl rfl rfl) ?_ | refine ax_q (q_load1_ip rfl) ?_ | refine ax_q (q_load1_rptr rfl rfl (by assumption) rfl) ?_ | refine ax_q (q_load1_rptr rfl rfl (mapAt (by first | assumption | omega)) rfl) ?_
      refine ax_q (q_mov rfl) ?_
      refine ax_q (q_ibin rfl rfl rfl) ?_
      refine ax_nil ?_
      refine cx_keep rfl rfl ?_
      refine cx_cond rfl (fun h2 => ?_) (fun h2 => ?_)
      · have h2 := nT h2
        exact absurd rfl h2
      · have h2 := nF h2
        refine cx_skip ?_
        refine cx_keep rfl rfl ?_
        refine cx_seq ?_
        refine cx_ops ?_
        refine ax_q (q_mov rfl) ?_
        refine ax_qe (r' := int ((k0 + 4 * k + 2 : Nat) : Int)) (q_ibin rfl rfl rfl) (by rw [wi (by omega) (by omega)]; rfl) ?_
        refine ax_q (q_mov rfl) ?_
        refine ax_nil ?_
        refine cx_keep rfl rfl ?_
        refine cx_seq ?_
        refine cx_seq ?_
        refine cx_ops ?_
        refine ax_q (q_mov rfl) ?_
        refine ax_q (q_mov rfl) ?_
        refine ax_q (q_ix rfl rfl (heldAt h1x)) ?_
        first | refine ax_q (q_fadr_ptr rfl) ?_ | refine ax_q (q_fadr_rptr rfl) ?_ | refine ax_q (q_fadr_ip rfl) ?_
        first | refine ax_q (q_load1_ptr rfl rfl rfl) ?_ | refine ax_q (q_load1_ip rfl) ?_ | refine ax_q (q_load1_rptr rfl rfl (by assumption) rfl) ?_ | refine ax_q (q_load1_rptr rfl rfl (mapAt (by first | assumption | omega)) rfl) ?_
        refine ax_q (q_mov rfl) ?_
        refine ax_q (q_ibin rfl rfl rfl) ?_
        refine ax_nil ?_
        refine cx_keep rfl rfl ?_
        refine cx_cond rfl (fun h3 => ?_) (fun h3 => ?_)
        · have h3 := nT h3
          exact absurd rfl h3
        · have h3 := nF h3
          refine cx_skip ?_
          refine cx_keep rfl rfl ?_
          refine cx_seq ?_
          refine cx_ops ?_
          refine ax_q (q_mov rfl) ?_
          refine ax_qe (r' := int ((k0 + 4 * k + 3 : Nat) : Int)) (q_ibin rfl rfl rfl) (by rw [wi (by omega) (by omega)]; rfl) ?_
          refine ax_q (q_mov rfl) ?_
          refine ax_nil ?_
          refine cx_keep rfl rfl ?_
          refine cx_seq ?_
          refine cx_seq ?_
          refine cx_ops ?_
          refine ax_q (q_mov rfl) ?_
          refine ax_q (q_mov rfl) ?_
          refine ax_q (q_ix rfl rfl (heldAt h1x)) ?_
          first | refine ax_q (q_fadr_ptr rfl) ?_ | refine ax_q (q_fadr_rptr rfl) ?_ | refine ax_q (q_fadr_ip rfl) ?_
          first | refine ax_q (q_load1_ptr rfl rfl rfl) ?_ | refine ax_q (q_load1_ip rfl) ?_ | refine ax_q (q_load1_rptr rfl rfl (by assumption) rfl) ?_ | refine ax_q (q_load1_rptr rfl rfl (mapAt (by first | assumption | omega)) rfl) ?_
          refine ax_q (q_mov rfl) ?_
          refine ax_q (q_ibin rfl rfl rfl) ?_
          refine ax_nil ?_
          refine cx_keep rfl rfl ?_
          refine cx_cond rfl (fun h4 => ?_) (fun h4 => ?_)
          · have h4 := nT h4
            exact absurd rfl h4
          · have h4 := nF h4
            refine cx_skip ?_
            refine cx_keep rfl rfl ?_
            refine cx_ops ?_
            refine ax_q (q_mov rfl) ?_
            refine ax_qe (r' := int ((k0 + 4 * k + 4 : Nat) : Int)) (q_ibin rfl rfl rfl) (by rw [wi (by omega) (by omega)]; rfl) ?_
            refine ax_q (q_mov rfl) ?_
            refine ax_nil ?_
            refine cx_keep rfl rfl ?_
            refine cx_ops ?_
            refine ax_q (q_mov rfl) ?_
            refine ax_qe (r' := int ((k + 1 : Nat) : Int)) (q_ibin rfl rfl rfl) (by rw [wi (by omega) (by omega)]; rfl) ?_
            refine ax_q (q_mov rfl) ?_
            refine ax_nil ?_
            exact ⟨_, k + 1, by omega, ⟨by omega, rfl⟩, by repeat (first | exact trivial | refine ⟨rfl, ?_⟩ | refine ⟨?_, ?_⟩)⟩
  · have h0 := dF h0; rw [markL_len] at h0; have h1x : k = xs.length := by omega
    refine cx_exit rfl ?_
    refine cx_keep rfl rfl ?_
    refine cx_seq ?_
    refine cx_ops ?_
    refine ax_q (q_mov rfl) ?_
    refine ax_q (q_mov rfl) ?_
    refine ax_nil ?_
    refine cx_keep rfl rfl ?_
    refine cx_ret (ret0 rfl rfl ?_)
    exact ⟨by rw [h1x]; rfl, rfl⟩

end Go.Proofs.Ytljbgclkdfeegaa
