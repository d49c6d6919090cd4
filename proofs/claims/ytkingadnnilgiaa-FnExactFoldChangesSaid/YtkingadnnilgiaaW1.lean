/- The walks: what each function computes, as a contract without a world (part 1). -/
import Derived.Test.YtkingadnnilgiaaProg
import Derived.Test.YtkingadnnilgiaaW0
namespace Go.Proofs.Ytkingadnnilgiaa
open Go Go.AM
set_option maxRecDepth 10000
set_option linter.unusedVariables false
/- loop.example/g00332/laws.heldRowS -/
def k_c_heldRowS : XCode :=
 .seq (.ops [.op (some 4) (.mov (.k (.int .i64 0)))])
 (.keep [0, 1] (.seq (.seq (.ops [.op (some 5) (.mov (.k (.int .i64 0)))])
  (.keep [0, 1, 5] (.block 0 (.loop (.seq (.seq (.ops [.op (some 6) (.mov (.t 5)),
     .op (some 7) (.mov (.t 0)),
     .op (some 8) (.lenS (.t 7)),
     .op (some 9) (.bin .lss (.t 6) (.t 8))])
   (.keep [0, 1, 5, 9] (.cond (.t 9)
    (.skip)
    (.exit 0))))
   (.keep [0, 1, 5] (.seq (.block 1 (.seq (.seq (.ops [.op (some 12) (.mov (.t 0)),
      .op (some 13) (.mov (.t 5)),
      .op (some 14) (.iadr 7 (.t 12) (.t 13)),
      .op (some 15) (.fadr (.t 14) 0),
      .op (some 16) (.load1 (.t 15)),
      .op (some 17) (.mov (.t 1)),
      .op (some 18) (.bin .neq (.t 16) (.t 17))])
    (.keep [0, 1, 5, 18] (.cond (.t 18)
     (.seq (.ops [.op (some 4) (.mov (.k (.int .i64 (-1))))])
     (.keep [4] (.ret)))
     (.skip))))
    (.keep [0, 1, 5] (.seq (.ops [.op (some 19) (.mov (.t 1)),
     .op (some 20) (.bin .add (.t 19) (.k (.int .i64 1))),
     .op (some 1) (.mov (.t 20))])
    (.keep [0, 1, 5] (.seq (.seq (.ops [.op (some 21) (.mov (.t 0)),
      .op (some 22) (.mov (.t 5)),
      .op (some 23) (.iadr 7 (.t 21) (.t 22)),
      .op (some 24) (.fadr (.t 23) 1),
      .op (some 25) (.fadr (.t 24) 0),
      .op (some 26) (.load1 (.t 25)),
      .op (some 27) (.mov (.t 1)),
      .op (some 28) (.bin .neq (.t 26) (.t 27))])
    (.keep [0, 1, 5, 28] (.cond (.t 28)
     (.seq (.ops [.op (some 4) (.mov (.k (.int .i64 (-1))))])
     (.keep [4] (.ret)))
     (.skip))))
    (.keep [0, 1, 5] (.seq (.ops [.op (some 29) (.mov (.t 1)),
     .op (some 30) (.bin .add (.t 29) (.k (.int .i64 1))),
     .op (some 1) (.mov (.t 30))])
    (.keep [0, 1, 5] (.seq (.seq (.ops [.op (some 31) (.mov (.t 0)),
      .op (some 32) (.mov (.t 5)),
      .op (some 33) (.iadr 7 (.t 31) (.t 32)),
      .op (some 34) (.fadr (.t 33) 1),
      .op (some 35) (.fadr (.t 34) 1),
      .op (some 36) (.load1 (.t 35)),
      .op (some 37) (.mov (.t 1)),
      .op (some 38) (.bin .neq (.t 36) (.t 37))])
    (.keep [0, 1, 5, 38] (.cond (.t 38)
     (.seq (.ops [.op (some 4) (.mov (.k (.int .i64 (-1))))])
     (.keep [4] (.ret)))
     (.skip))))
    (.keep [0, 1, 5] (.seq (.ops [.op (some 39) (.mov (.t 1)),
     .op (some 40) (.bin .add (.t 39) (.k (.int .i64 1))),
     .op (some 1) (.mov (.t 40))])
    (.keep [0, 1, 5] (.seq (.seq (.draw [.op (some 41) (.mov (.t 0)),
      .op (some 42) (.mov (.t 5)),
      .op (some 43) (.iadr 7 (.t 41) (.t 42)),
      .op (some 44) (.fadr (.t 43) 1),
      .op (some 45) (.fadr (.t 44) 2),
      .op (some 46) (.load1 (.t 45)),
      .op (some 47) (.mov (.t 1)),
      .call (some 48) 38 [.t 47],
      .op (some 49) (.bin .neq (.t 46) (.t 48))])
    (.keep [0, 1, 5, 49] (.cond (.t 49)
     (.seq (.ops [.op (some 4) (.mov (.k (.int .i64 (-1))))])
     (.keep [4] (.ret)))
     (.skip))))
    (.keep [0, 1, 5] (.seq (.ops [.op (some 50) (.mov (.t 1)),
     .op (some 51) (.bin .add (.t 50) (.k (.int .i64 1))),
     .op (some 1) (.mov (.t 51))])
    (.keep [0, 1, 5] (.seq (.seq (.ops [.op (some 52) (.mov (.t 0)),
      .op (some 53) (.mov (.t 5)),
      .op (some 54) (.iadr 7 (.t 52) (.t 53)),
      .op (some 55) (.fadr (.t 54) 4),
      .op (some 56) (.fadr (.t 55) 0),
      .op (some 57) (.load1 (.t 56)),
      .op (some 58) (.mov (.t 1)),
      .op (some 59) (.bin .neq (.t 57) (.t 58))])
    (.keep [0, 1, 5, 59] (.cond (.t 59)
     (.seq (.ops [.op (some 4) (.mov (.k (.int .i64 (-1))))])
     (.keep [4] (.ret)))
     (.skip))))
    (.keep [0, 1, 5] (.seq (.ops [.op (some 60) (.mov (.t 1)),
     .op (some 61) (.bin .add (.t 60) (.k (.int .i64 1))),
     .op (some 1) (.mov (.t 61))])
    (.keep [0, 1, 5] (.seq (.seq (.ops [.op (some 62) (.mov (.t 0)),
      .op (some 63) (.mov (.t 5)),
      .op (some 64) (.iadr 7 (.t 62) (.t 63)),
      .op (some 65) (.fadr (.t 64) 4),
      .op (some 66) (.fadr (.t 65) 1),
      .op (some 67) (.load1 (.t 66)),
      .op (some 68) (.mov (.t 1)),
      .op (some 69) (.bin .neq (.t 67) (.t 68))])
    (.keep [0, 1, 5, 69] (.cond (.t 69)
     (.seq (.ops [.op (some 4) (.mov (.k (.int .i64 (-1))))])
     (.keep [4] (.ret)))
     (.skip))))
    (.keep [0, 1, 5] (.seq (.ops [.op (some 70) (.mov (.t 1)),
     .op (some 71) (.bin .add (.t 70) (.k (.int .i64 1))),
     .op (some 1) (.mov (.t 71))])
    (.keep [0, 1, 5] (.seq (.seq (.draw [.op (some 72) (.mov (.t 0)),
      .op (some 73) (.mov (.t 5)),
      .op (some 74) (.iadr 7 (.t 72) (.t 73)),
      .op (some 75) (.fadr (.t 74) 4),
      .op (some 76) (.fadr (.t 75) 2),
      .op (some 77) (.load1 (.t 76)),
      .op (some 78) (.mov (.t 1)),
      .call (some 79) 38 [.t 78],
      .op (some 80) (.bin .neq (.t 77) (.t 79))])
    (.keep [0, 1, 5, 80] (.cond (.t 80)
     (.seq (.ops [.op (some 4) (.mov (.k (.int .i64 (-1))))])
     (.keep [4] (.ret)))
     (.skip))))
    (.keep [0, 1, 5] (.ops [.op (some 81) (.mov (.t 1)),
     .op (some 82) (.bin .add (.t 81) (.k (.int .i64 1))),
     .op (some 1) (.mov (.t 82))]))))))))))))))))))))))))))))
   (.keep [0, 1, 5] (.ops [.op (some 10) (.mov (.t 5)),
    .op (some 11) (.bin .add (.t 10) (.k (.int .i64 1))),
    .op (some 5) (.mov (.t 11))])))))))))
 (.keep [1] (.seq (.ops [.op (some 83) (.mov (.t 1)),
   .op (some 4) (.mov (.t 83))])
 (.keep [4] (.ret))))))
theorem k_c_heldRowS_fits : fitsF Try.prog 18 ⟨84, k_c_heldRowS, [.t 4]⟩ = true := by kernel_rfl
theorem c_heldRowS {xs : List GRow} {k0 : Nat} (hw : k0 + 7 * xs.length ≤ 1000000000000000000) : Con Try.prog noMv 18 [.d (.sl 7 ((markL GRow.mk1 7 k0 xs).map GRow.row)), int k0] [] (fun r h => r = int ((k0 + 7 * xs.length : Nat) : Int) ∧ h = []) := by
 refine con_of2 k_c_heldRowS_fits rfl fun C hP hmv => ?_
 unfold k_c_heldRowS
 refine cx_seq ?_
 refine cx_ops ?_
 refine ax_q (q_mov rfl) ?_
 refine ax_nil ?_
 refine cx_keep rfl rfl ?_
 refine cx_seq ?_
 refine cx_seq ?_
 refine cx_ops ?_
 refine ax_q (q_mov rfl) ?_
 refine ax_nil ?_
 refine cx_keep rfl rfl ?_
 refine cx_block ?_
 refine cx_loopU (fun m k => k ≤ xs.length ∧ m = xs.length - k) (fun k : Nat => [(1, int ((k0 + 7 * k : Nat) : Int)), (5, int k)]) (fun k => []) ⟨_, 0, ⟨Nat.zero_le _, rfl⟩, by repeat (first | exact trivial | refine ⟨rfl, ?_⟩ | refine ⟨?_, ?_⟩)⟩ ?_
 rintro m k ⟨hk, rfl⟩
 refine cx_seq ?_
 refine cx_seq ?_
 refine cx_ops ?_
 refine ax_q (q_mov rfl) ?_
 refine ax_q (q_mov rfl) ?_
 first | refine ax_q (q_lenS_map rfl) ?_ | refine ax_q (q_lenS_osl rfl) ?_ | refine ax_q (q_lenS_zs rfl) ?_ | refine ax_q (q_lenS rfl) ?_
 refine ax_q (q_ibin rfl rfl rfl) ?_
 refine ax_nil ?_
 refine cx_keep rfl rfl ?_
 refine cx_cond rfl (fun h0 => ?_) (fun h0 => ?_)
 ·
  have h0 := dT h0; rw [markL_len] at h0; have h1x : k < xs.length := by omega
  refine cx_skip ?_
  refine cx_keep rfl rfl ?_
  refine cx_seq ?_
  refine cx_block ?_
  refine cx_seq ?_
  refine cx_seq ?_
  refine cx_ops ?_
  refine ax_q (q_mov rfl) ?_
  refine ax_q (q_mov rfl) ?_
  refine ax_q (q_ix rfl rfl (heldAt h1x)) ?_
  first | refine ax_q (q_fadr_ptr rfl) ?_ | refine ax_q (q_fadr_rptr rfl) ?_ | refine ax_q (q_fadr_ip rfl) ?_
  first | refine ax_q (q_load1_ptr rfl rfl rfl) ?_ | refine ax_q (q_load1_ip rfl) ?_ | refine ax_q (q_load1_rptr rfl rfl rfl rfl) ?_ | refine ax_q (q_load1_rptr rfl rfl (by assumption) rfl) ?_ | refine ax_q (q_load1_rptr rfl rfl (mapAt (by first | assumption | omega)) rfl) ?_
  refine ax_q (q_mov rfl) ?_
  refine ax_q (q_ibin rfl rfl rfl) ?_
  refine ax_nil ?_
  refine cx_keep rfl rfl ?_
  refine cx_cond rfl (fun h1 => ?_) (fun h1 => ?_)
  ·
   have h1 := nT h1
   exact absurd rfl h1
  ·
   have h1 := nF h1
   refine cx_skip ?_
   refine cx_keep rfl rfl ?_
   refine cx_seq ?_
   refine cx_ops ?_
   refine ax_q (q_mov rfl) ?_
   refine ax_qe (r' := int ((k0 + 7 * k + 1 : Nat) : Int)) (q_ibin rfl rfl rfl) (by rw [wi (by omega) (by omega)]; rfl) ?_
   refine ax_q (q_mov rfl) ?_
   refine ax_nil ?_
   refine cx_keep rfl rfl ?_
   refine cx_seq ?_
   refine cx_seq ?_
   refine cx_ops ?_
   refine ax_q (q_mov rfl) ?_
   refine ax_q (q_mov rfl) ?_
   refine ax_q (q_ix rfl rfl (heldAt h1x)) ?_
   first | refine ax_q (q_fadr_ptr rfl) ?_ | refine ax_q (q_fadr_rptr rfl) ?_ | refine ax_q (q_fadr_ip rfl) ?_
   first | refine ax_q (q_fadr_ptr rfl) ?_ | refine ax_q (q_fadr_rptr rfl) ?_ | refine ax_q (q_fadr_ip rfl) ?_
   first | refine ax_q (q_load1_ptr rfl rfl rfl) ?_ | refine ax_q (q_load1_ip rfl) ?_ | refine ax_q (q_load1_rptr rfl rfl rfl rfl) ?_ | refine ax_q (q_load1_rptr rfl rfl (by assumption) rfl) ?_ | refine ax_q (q_load1_rptr rfl rfl (mapAt (by first | assumption | omega)) rfl) ?_
   refine ax_q (q_mov rfl) ?_
   refine ax_q (q_ibin rfl rfl rfl) ?_
   refine ax_nil ?_
   refine cx_keep rfl rfl ?_
   refine cx_cond rfl (fun h2 => ?_) (fun h2 => ?_)
   ·
    have h2 := nT h2
    exact absurd rfl h2
   ·
    have h2 := nF h2
    refine cx_skip ?_
    refine cx_keep rfl rfl ?_
    refine cx_seq ?_
    refine cx_ops ?_
    refine ax_q (q_mov rfl) ?_
    refine ax_qe (r' := int ((k0 + 7 * k + 2 : Nat) : Int)) (q_ibin rfl rfl rfl) (by rw [wi (by omega) (by omega)]; rfl) ?_
    refine ax_q (q_mov rfl) ?_
    refine ax_nil ?_
    refine cx_keep rfl rfl ?_
    refine cx_seq ?_
    refine cx_seq ?_
    refine cx_ops ?_
    refine ax_q (q_mov rfl) ?_
    refine ax_q (q_mov rfl) ?_
    refine ax_q (q_ix rfl rfl (heldAt h1x)) ?_
    first | refine ax_q (q_fadr_ptr rfl) ?_ | refine ax_q (q_fadr_rptr rfl) ?_ | refine ax_q (q_fadr_ip rfl) ?_
    first | refine ax_q (q_fadr_ptr rfl) ?_ | refine ax_q (q_fadr_rptr rfl) ?_ | refine ax_q (q_fadr_ip rfl) ?_
    first | refine ax_q (q_load1_ptr rfl rfl rfl) ?_ | refine ax_q (q_load1_ip rfl) ?_ | refine ax_q (q_load1_rptr rfl rfl rfl rfl) ?_ | refine ax_q (q_load1_rptr rfl rfl (by assumption) rfl) ?_ | refine ax_q (q_load1_rptr rfl rfl (mapAt (by first | assumption | omega)) rfl) ?_
    refine ax_q (q_mov rfl) ?_
    refine ax_q (q_ibin rfl rfl rfl) ?_
    refine ax_nil ?_
    refine cx_keep rfl rfl ?_
    refine cx_cond rfl (fun h3 => ?_) (fun h3 => ?_)
    ·
     have h3 := nT h3
     exact absurd rfl h3
    ·
     have h3 := nF h3
     refine cx_skip ?_
     refine cx_keep rfl rfl ?_
     refine cx_seq ?_
     refine cx_ops ?_
     refine ax_q (q_mov rfl) ?_
     refine ax_qe (r' := int ((k0 + 7 * k + 3 : Nat) : Int)) (q_ibin rfl rfl rfl) (by rw [wi (by omega) (by omega)]; rfl) ?_
     refine ax_q (q_mov rfl) ?_
     refine ax_nil ?_
     refine cx_keep rfl rfl ?_
     refine cx_seq ?_
     refine cx_seq ?_
     refine cx_draw ?_
     refine ax_q (q_mov rfl) ?_
     refine ax_q (q_mov rfl) ?_
     refine ax_q (q_ix rfl rfl (heldAt h1x)) ?_
     first | refine ax_q (q_fadr_ptr rfl) ?_ | refine ax_q (q_fadr_rptr rfl) ?_ | refine ax_q (q_fadr_ip rfl) ?_
     first | refine ax_q (q_fadr_ptr rfl) ?_ | refine ax_q (q_fadr_rptr rfl) ?_ | refine ax_q (q_fadr_ip rfl) ?_
     first | refine ax_q (q_load1_ptr rfl rfl rfl) ?_ | refine ax_q (q_load1_ip rfl) ?_ | refine ax_q (q_load1_rptr rfl rfl rfl rfl) ?_ | refine ax_q (q_load1_rptr rfl rfl (by assumption) rfl) ?_ | refine ax_q (q_load1_rptr rfl rfl (mapAt (by first | assumption | omega)) rfl) ?_
     refine ax_q (q_mov rfl) ?_
     refine ax_callq rfl (c_markText (by omega)) hP (lal_id _ rfl) rfl ?_
     refine ax_q (q_sbin rfl rfl rfl) ?_
     refine ax_nil ?_
     refine cx_keep rfl rfl ?_
     refine cx_cond rfl (fun h4 => ?_) (fun h4 => ?_)
     ·
      have h4 := nT h4
      exact absurd rfl h4
     ·
      have h4 := nF h4
      refine cx_skip ?_
      refine cx_keep rfl rfl ?_
      refine cx_seq ?_
      refine cx_ops ?_
      refine ax_q (q_mov rfl) ?_
      refine ax_qe (r' := int ((k0 + 7 * k + 4 : Nat) : Int)) (q_ibin rfl rfl rfl) (by rw [wi (by omega) (by omega)]; rfl) ?_
      refine ax_q (q_mov rfl) ?_
      refine ax_nil ?_
      refine cx_keep rfl rfl ?_
      refine cx_seq ?_
      refine cx_seq ?_
      refine cx_ops ?_
      refine ax_q (q_mov rfl) ?_
      refine ax_q (q_mov rfl) ?_
      refine ax_q (q_ix rfl rfl (heldAt h1x)) ?_
      first | refine ax_q (q_fadr_ptr rfl) ?_ | refine ax_q (q_fadr_rptr rfl) ?_ | refine ax_q (q_fadr_ip rfl) ?_
      first | refine ax_q (q_fadr_ptr rfl) ?_ | refine ax_q (q_fadr_rptr rfl) ?_ | refine ax_q (q_fadr_ip rfl) ?_
      first | refine ax_q (q_load1_ptr rfl rfl rfl) ?_ | refine ax_q (q_load1_ip rfl) ?_ | refine ax_q (q_load1_rptr rfl rfl rfl rfl) ?_ | refine ax_q (q_load1_rptr rfl rfl (by assumption) rfl) ?_ | refine ax_q (q_load1_rptr rfl rfl (mapAt (by first | assumption | omega)) rfl) ?_
      refine ax_q (q_mov rfl) ?_
      refine ax_q (q_ibin rfl rfl rfl) ?_
      refine ax_nil ?_
      refine cx_keep rfl rfl ?_
      refine cx_cond rfl (fun h5 => ?_) (fun h5 => ?_)
      ·
       have h5 := nT h5
       exact absurd rfl h5
      ·
       have h5 := nF h5
       refine cx_skip ?_
       refine cx_keep rfl rfl ?_
       refine cx_seq ?_
       refine cx_ops ?_
       refine ax_q (q_mov rfl) ?_
       refine ax_qe (r' := int ((k0 + 7 * k + 5 : Nat) : Int)) (q_ibin rfl rfl rfl) (by rw [wi (by omega) (by omega)]; rfl) ?_
       refine ax_q (q_mov rfl) ?_
       refine ax_nil ?_
       refine cx_keep rfl rfl ?_
       refine cx_seq ?_
       refine cx_seq ?_
       refine cx_ops ?_
       refine ax_q (q_mov rfl) ?_
       refine ax_q (q_mov rfl) ?_
       refine ax_q (q_ix rfl rfl (heldAt h1x)) ?_
       first | refine ax_q (q_fadr_ptr rfl) ?_ | refine ax_q (q_fadr_rptr rfl) ?_ | refine ax_q (q_fadr_ip rfl) ?_
       first | refine ax_q (q_fadr_ptr rfl) ?_ | refine ax_q (q_fadr_rptr rfl) ?_ | refine ax_q (q_fadr_ip rfl) ?_
       first | refine ax_q (q_load1_ptr rfl rfl rfl) ?_ | refine ax_q (q_load1_ip rfl) ?_ | refine ax_q (q_load1_rptr rfl rfl rfl rfl) ?_ | refine ax_q (q_load1_rptr rfl rfl (by assumption) rfl) ?_ | refine ax_q (q_load1_rptr rfl rfl (mapAt (by first | assumption | omega)) rfl) ?_
       refine ax_q (q_mov rfl) ?_
       refine ax_q (q_ibin rfl rfl rfl) ?_
       refine ax_nil ?_
       refine cx_keep rfl rfl ?_
       refine cx_cond rfl (fun h6 => ?_) (fun h6 => ?_)
       ·
        have h6 := nT h6
        exact absurd rfl h6
       ·
        have h6 := nF h6
        refine cx_skip ?_
        refine cx_keep rfl rfl ?_
        refine cx_seq ?_
        refine cx_ops ?_
        refine ax_q (q_mov rfl) ?_
        refine ax_qe (r' := int ((k0 + 7 * k + 6 : Nat) : Int)) (q_ibin rfl rfl rfl) (by rw [wi (by omega) (by omega)]; rfl) ?_
        refine ax_q (q_mov rfl) ?_
        refine ax_nil ?_
        refine cx_keep rfl rfl ?_
        refine cx_seq ?_
        refine cx_seq ?_
        refine cx_draw ?_
        refine ax_q (q_mov rfl) ?_
        refine ax_q (q_mov rfl) ?_
        refine ax_q (q_ix rfl rfl (heldAt h1x)) ?_
        first | refine ax_q (q_fadr_ptr rfl) ?_ | refine ax_q (q_fadr_rptr rfl) ?_ | refine ax_q (q_fadr_ip rfl) ?_
        first | refine ax_q (q_fadr_ptr rfl) ?_ | refine ax_q (q_fadr_rptr rfl) ?_ | refine ax_q (q_fadr_ip rfl) ?_
        first | refine ax_q (q_load1_ptr rfl rfl rfl) ?_ | refine ax_q (q_load1_ip rfl) ?_ | refine ax_q (q_load1_rptr rfl rfl rfl rfl) ?_ | refine ax_q (q_load1_rptr rfl rfl (by assumption) rfl) ?_ | refine ax_q (q_load1_rptr rfl rfl (mapAt (by first | assumption | omega)) rfl) ?_
        refine ax_q (q_mov rfl) ?_
        refine ax_callq rfl (c_markText (by omega)) hP (lal_id _ rfl) rfl ?_
        refine ax_q (q_sbin rfl rfl rfl) ?_
        refine ax_nil ?_
        refine cx_keep rfl rfl ?_
        refine cx_cond rfl (fun h7 => ?_) (fun h7 => ?_)
        ·
         have h7 := nT h7
         exact absurd rfl h7
        ·
         have h7 := nF h7
         refine cx_skip ?_
         refine cx_keep rfl rfl ?_
         refine cx_ops ?_
         refine ax_q (q_mov rfl) ?_
         refine ax_qe (r' := int ((k0 + 7 * k + 7 : Nat) : Int)) (q_ibin rfl rfl rfl) (by rw [wi (by omega) (by omega)]; rfl) ?_
         refine ax_q (q_mov rfl) ?_
         refine ax_nil ?_
         refine cx_keep rfl rfl ?_
         refine cx_ops ?_
         refine ax_q (q_mov rfl) ?_
         refine ax_qe (r' := int ((k + 1 : Nat) : Int)) (q_ibin rfl rfl rfl) (by rw [wi (by omega) (by omega)]; rfl) ?_
         refine ax_q (q_mov rfl) ?_
         refine ax_nil ?_
         exact ⟨_, k + 1, by omega, ⟨by omega, rfl⟩, by repeat (first | exact trivial | refine ⟨rfl, ?_⟩ | refine ⟨?_, ?_⟩)⟩
 ·
  have h0 := dF h0; rw [markL_len] at h0; have h1x : k = xs.length := by omega
  refine cx_exit rfl ?_
  refine cx_keep rfl rfl ?_
  refine cx_seq ?_
  refine cx_ops ?_
  refine ax_q (q_mov rfl) ?_
  refine ax_q (q_mov rfl) ?_
  refine ax_nil ?_
  refine cx_keep rfl rfl ?_
  refine cx_ret (ret0 rfl rfl ?_)
  exact ⟨by rw [h1x]; rfl, rfl⟩

end Go.Proofs.Ytkingadnnilgiaa
