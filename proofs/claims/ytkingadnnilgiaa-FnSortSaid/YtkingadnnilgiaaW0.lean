/- The walks: what each function computes, as a contract without a world (part 0). -/
import Derived.Test.YtkingadnnilgiaaProg
import Derived.Test.YtkingadnnilgiaaD1
namespace Go.Proofs.Ytkingadnnilgiaa
open Go Go.AM
set_option maxRecDepth 10000
set_option linter.unusedVariables false
set_option linter.unusedSimpArgs false
/- loop.example/g00332/laws.at -/
def k_c_at : XCode :=
 .seq (.ops [.op (some 6) (.mov (.k (.int .i64 0)))])
 (.keep [0, 1, 2] (.seq (.seq (.ops [.op (some 7) (.mov (.t 2)),
   .op (some 8) (.bin .leq (.t 7) (.k (.int .i64 1)))])
  (.keep [0, 1, 2, 8] (.cond (.t 8)
  (.seq (.ops [.op (some 6) (.mov (.k (.int .i64 0)))])
   (.keep [6] (.ret)))
  (.skip))))
 (.keep [0, 1, 2] (.seq (.seq (.ops [.op (some 9) (.mov (.t 0)),
   .op (some 10) (.lenS (.t 9)),
   .op (some 11) (.bin .eql (.t 10) (.k (.int .i64 0)))])
  (.keep [0, 1, 2, 11] (.cond (.t 11)
  (.seq (.ops [.op (some 12) (.mov (.t 1)),
    .op (some 13) (.bin .mul (.t 12) (.k (.int .i64 7))),
    .op (some 14) (.mov (.t 2)),
    .op (some 15) (.bin .rem (.t 13) (.t 14)),
    .op (some 6) (.mov (.t 15))])
   (.keep [6] (.ret)))
  (.skip))))
 (.keep [0, 1, 2] (.seq (.draw [.op (some 16) (.mov (.t 0)),
   .op (some 17) (.mov (.t 1)),
   .op (some 18) (.mov (.t 0)),
   .op (some 19) (.lenS (.t 18)),
   .op (some 20) (.bin .rem (.t 17) (.t 19)),
   .op (some 21) (.iadr 1 (.t 16) (.t 20)),
   .op (some 22) (.load1 (.t 21)),
   .op (some 23) (.conv .i64 (.t 22)),
   .op (some 24) (.bin .mul (.t 23) (.k (.int .i64 31))),
   .op (some 25) (.mov (.t 0)),
   .op (some 26) (.mov (.t 1)),
   .op (some 27) (.bin .add (.t 26) (.k (.int .i64 1))),
   .op (some 28) (.mov (.t 0)),
   .op (some 29) (.lenS (.t 28)),
   .op (some 30) (.bin .rem (.t 27) (.t 29)),
   .op (some 31) (.iadr 1 (.t 25) (.t 30)),
   .op (some 32) (.load1 (.t 31)),
   .op (some 33) (.conv .i64 (.t 32)),
   .op (some 34) (.bin .add (.t 24) (.t 33)),
   .op (some 35) (.mov (.t 1)),
   .op (some 36) (.mov (.t 0)),
   .op (some 37) (.lenS (.t 36)),
   .op (some 38) (.bin .quo (.t 35) (.t 37)),
   .op (some 39) (.bin .add (.t 34) (.t 38)),
   .op (some 40) (.mov (.t 2)),
   .op (some 41) (.bin .rem (.t 39) (.t 40)),
   .op (some 6) (.mov (.t 41))])
 (.keep [6] (.ret))))))))
theorem k_c_at_fits : fitsF Try.prog 8 ⟨42, k_c_at, [.t 6]⟩ = true := by kernel_rfl
theorem c_at {more : Str} {i n : Int} (hl : more.length ≤ 1048576) (hi : 0 ≤ i ∧ i ≤ 1000) (hn : n ≤ 1000000000) : Con Try.prog noMv 8 [.d (.sl 1 (more.map byteRow)), int i, int n] [] (fun r h => r = int (atF more i n) ∧ h = []) := by
 refine con_of2 k_c_at_fits rfl fun C hP hmv => ?_
 unfold k_c_at
 refine cx_seq ?_
 refine cx_ops ?_
 refine ax_q (q_mov rfl) ?_
 refine ax_nil ?_
 refine cx_keep rfl rfl ?_
 refine cx_seq ?_
 refine cx_seq ?_
 refine cx_ops ?_
 refine ax_q (q_mov rfl) ?_
 refine ax_q (q_ibin rfl rfl rfl) ?_
 refine ax_nil ?_
 refine cx_keep rfl rfl ?_
 refine cx_cond rfl (fun h0 => ?_) (fun h0 => ?_)
 ·
  have h0 := dT h0
  refine cx_seq ?_
  refine cx_ops ?_
  refine ax_q (q_mov rfl) ?_
  refine ax_nil ?_
  refine cx_keep rfl rfl ?_
  refine cx_ret (ret0 rfl rfl ?_)
  exact ⟨by unfold atF; rw [if_pos h0]; rfl, rfl⟩
 ·
  have h0 := dF h0
  refine cx_skip ?_
  refine cx_keep rfl rfl ?_
  refine cx_seq ?_
  refine cx_seq ?_
  refine cx_ops ?_
  refine ax_q (q_mov rfl) ?_
  first | refine ax_q (q_lenS_map rfl) ?_ | refine ax_q (q_lenS_osl rfl) ?_ | refine ax_q (q_lenS_zs rfl) ?_ | refine ax_q (q_lenS rfl) ?_
  refine ax_q (q_ibin rfl rfl rfl) ?_
  refine ax_nil ?_
  refine cx_keep rfl rfl ?_
  refine cx_cond rfl (fun h1 => ?_) (fun h1 => ?_)
  ·
   have h1 := dT h1
   have hm0 : more = [] := List.eq_nil_of_length_eq_zero (by omega)
   refine cx_seq ?_
   refine cx_ops ?_
   refine ax_q (q_mov rfl) ?_
   refine ax_q (q_mul rfl rfl (by omega)) ?_
   refine ax_q (q_mov rfl) ?_
   refine ax_q (q_mod rfl rfl (by omega) (by omega)) ?_
   refine ax_q (q_mov rfl) ?_
   refine ax_nil ?_
   refine cx_keep rfl rfl ?_
   refine cx_ret (ret0 rfl rfl ?_)
   exact ⟨by unfold atF; rw [if_neg h0, if_pos hm0]; rfl, rfl⟩
  ·
   have h1 := dF h1
   have hm0 : more ≠ [] := fun h => h1 (by rw [h]; rfl)
   have hm1 : 0 < more.length := List.length_pos_iff.2 hm0
   have hi1 : (i % more.length).toNat < more.length := by have := Int.emod_nonneg i (show (more.length : Int) ≠ 0 by omega); have := Int.emod_lt_of_pos i (show 0 < (more.length : Int) by omega); omega
   have hi2 : ((i + 1) % more.length).toNat < more.length := by have := Int.emod_nonneg (i + 1) (show (more.length : Int) ≠ 0 by omega); have := Int.emod_lt_of_pos (i + 1) (show 0 < (more.length : Int) by omega); omega
   have hb1 := (more[(i % more.length).toNat]).toNat_lt
   have hb2 := (more[((i + 1) % more.length).toNat]).toNat_lt
   have hdv := ediv_bounds (a := i) (b := more.length) hi.1 (by omega)
   refine cx_skip ?_
   refine cx_keep rfl rfl ?_
   refine cx_seq ?_
   refine cx_draw ?_
   refine ax_q (q_mov rfl) ?_
   refine ax_q (q_mov rfl) ?_
   refine ax_q (q_mov rfl) ?_
   first | refine ax_q (q_lenS_map rfl) ?_ | refine ax_q (q_lenS_osl rfl) ?_ | refine ax_q (q_lenS_zs rfl) ?_ | refine ax_q (q_lenS rfl) ?_
   refine ax_q (q_mod rfl rfl (by omega) (by omega)) ?_
   refine ax_q (q_ixI rfl rfl (Int.emod_nonneg _ (by omega)) (mapAt hi1)) ?_
   first | refine ax_q (q_load1_ptr rfl rfl rfl) ?_ | refine ax_q (q_load1_ip rfl) ?_ | refine ax_q (q_load1_rptr rfl rfl rfl rfl) ?_ | refine ax_q (q_load1_rptr rfl rfl (by assumption) rfl) ?_ | refine ax_q (q_load1_rptr rfl rfl (mapAt (by first | assumption | omega)) rfl) ?_
   first | refine ax_q (q_convB rfl) ?_ | refine ax_q (q_convI rfl (by omega)) ?_ | refine ax_q (q_convU8 rfl) ?_ | refine ax_q (q_conv rfl) ?_
   refine ax_q (q_mul rfl rfl (by omega)) ?_
   refine ax_q (q_mov rfl) ?_
   refine ax_q (q_mov rfl) ?_
   refine ax_q (q_add rfl rfl (by omega)) ?_
   refine ax_q (q_mov rfl) ?_
   first | refine ax_q (q_lenS_map rfl) ?_ | refine ax_q (q_lenS_osl rfl) ?_ | refine ax_q (q_lenS_zs rfl) ?_ | refine ax_q (q_lenS rfl) ?_
   refine ax_q (q_mod rfl rfl (by omega) (by omega)) ?_
   refine ax_q (q_ixI rfl rfl (Int.emod_nonneg _ (by omega)) (mapAt hi2)) ?_
   first | refine ax_q (q_load1_ptr rfl rfl rfl) ?_ | refine ax_q (q_load1_ip rfl) ?_ | refine ax_q (q_load1_rptr rfl rfl rfl rfl) ?_ | refine ax_q (q_load1_rptr rfl rfl (by assumption) rfl) ?_ | refine ax_q (q_load1_rptr rfl rfl (mapAt (by first | assumption | omega)) rfl) ?_
   first | refine ax_q (q_convB rfl) ?_ | refine ax_q (q_convI rfl (by omega)) ?_ | refine ax_q (q_convU8 rfl) ?_ | refine ax_q (q_conv rfl) ?_
   refine ax_q (q_add rfl rfl (by omega)) ?_
   refine ax_q (q_mov rfl) ?_
   refine ax_q (q_mov rfl) ?_
   first | refine ax_q (q_lenS_map rfl) ?_ | refine ax_q (q_lenS_osl rfl) ?_ | refine ax_q (q_lenS_zs rfl) ?_ | refine ax_q (q_lenS rfl) ?_
   refine ax_q (q_div rfl rfl (by omega) (by omega) (by omega)) ?_
   refine ax_q (q_add rfl rfl (by omega)) ?_
   refine ax_q (q_mov rfl) ?_
   refine ax_q (q_mod rfl rfl (by omega) (by omega)) ?_
   refine ax_q (q_mov rfl) ?_
   refine ax_nil ?_
   refine cx_keep rfl rfl ?_
   refine cx_ret (ret0 rfl rfl ?_)
   exact ⟨by unfold atF; rw [if_neg h0, if_neg hm0, getD_at hi1, getD_at hi2]; rfl, rfl⟩


/- loop.example/g00332/laws.sameRows -/
def k_c_sameRows : XCode :=
 .seq (.ops [.op (some 4) (.mov (.k (.bool false)))])
 (.keep [0, 1] (.seq (.seq (.ops [.op (some 6) (.mov (.t 0)),
   .op (some 7) (.lenS (.t 6)),
   .op (some 8) (.mov (.t 1)),
   .op (some 9) (.lenS (.t 8)),
   .op (some 10) (.bin .neq (.t 7) (.t 9))])
  (.keep [0, 1, 10] (.cond (.t 10)
  (.seq (.ops [.op (some 4) (.mov (.k (.bool false)))])
   (.keep [4] (.ret)))
  (.skip))))
 (.keep [0, 1] (.seq (.seq (.ops [.op (some 5) (.mov (.k (.int .i64 0)))])
  (.keep [0, 1, 5] (.block 0 (.loop (.seq (.seq (.ops [.op (some 11) (.mov (.t 5)),
     .op (some 12) (.mov (.t 0)),
     .op (some 13) (.lenS (.t 12)),
     .op (some 14) (.bin .lss (.t 11) (.t 13))])
   (.keep [0, 1, 5, 14] (.cond (.t 14)
    (.skip)
    (.exit 0))))
   (.keep [0, 1, 5] (.seq (.block 1 (.seq (.draw [.op (some 17) (.mov (.t 0)),
     .op (some 18) (.mov (.t 5)),
     .op (some 19) (.iadr 7 (.t 17) (.t 18)),
     .op (some 20) (.loadN 7 (.t 19)),
     .op (some 21) (.mov (.t 1)),
     .op (some 22) (.mov (.t 5)),
     .op (some 23) (.iadr 7 (.t 21) (.t 22)),
     .op (some 24) (.loadN 7 (.t 23)),
     .op (some 25) (.eqs true [0, 0, 0, 2, 0, 0, 2] (.t 20) (.t 24))])
    (.keep [0, 1, 5, 25] (.cond (.t 25)
    (.seq (.ops [.op (some 4) (.mov (.k (.bool false)))])
     (.keep [4] (.ret)))
    (.skip)))))
   (.keep [0, 1, 5] (.ops [.op (some 15) (.mov (.t 5)),
    .op (some 16) (.bin .add (.t 15) (.k (.int .i64 1))),
    .op (some 5) (.mov (.t 16))])))))))))
 (.keep [] (.seq (.ops [.op (some 4) (.mov (.k (.bool true)))])
 (.keep [4] (.ret))))))))
theorem k_c_sameRows_fits : fitsF Try.prog 11 ⟨26, k_c_sameRows, [.t 4]⟩ = true := by kernel_rfl
theorem c_sameRows {xs ys : List GRow} (hx : xs.length ≤ 1048576) (hy : ys.length ≤ 1048576) : Con Try.prog noMv 11 [.d (.sl 7 (xs.map GRow.row)), .d (.sl 7 (ys.map GRow.row))] [] (fun r h => r = bool (eqb xs ys) ∧ h = []) := by
 refine con_of2 k_c_sameRows_fits rfl fun C hP hmv => ?_
 unfold k_c_sameRows
 refine cx_seq ?_
 refine cx_ops ?_
 refine ax_q (q_mov rfl) ?_
 refine ax_nil ?_
 refine cx_keep rfl rfl ?_
 refine cx_seq ?_
 refine cx_seq ?_
 refine cx_ops ?_
 refine ax_q (q_mov rfl) ?_
 first | refine ax_q (q_lenS_map rfl) ?_ | refine ax_q (q_lenS_osl rfl) ?_ | refine ax_q (q_lenS_zs rfl) ?_ | refine ax_q (q_lenS rfl) ?_
 refine ax_q (q_mov rfl) ?_
 first | refine ax_q (q_lenS_map rfl) ?_ | refine ax_q (q_lenS_osl rfl) ?_ | refine ax_q (q_lenS_zs rfl) ?_ | refine ax_q (q_lenS rfl) ?_
 refine ax_q (q_ibin rfl rfl rfl) ?_
 refine ax_nil ?_
 refine cx_keep rfl rfl ?_
 refine cx_cond rfl (fun h0 => ?_) (fun h0 => ?_)
 ·
  have h0 := nT h0
  refine cx_seq ?_
  refine cx_ops ?_
  refine ax_q (q_mov rfl) ?_
  refine ax_nil ?_
  refine cx_keep rfl rfl ?_
  refine cx_ret (ret0 rfl rfl ?_)
  exact ⟨congrArg AM.bool (eqb_f (fun h => h0 (by rw [h]))).symm, rfl⟩
 ·
  have h0 := nF h0
  refine cx_skip ?_
  refine cx_keep rfl rfl ?_
  refine cx_seq ?_
  refine cx_seq ?_
  refine cx_ops ?_
  refine ax_q (q_mov rfl) ?_
  refine ax_nil ?_
  refine cx_keep rfl rfl ?_
  refine cx_block ?_
  have hl : xs.length = ys.length := by omega
  refine cx_loopU (fun n k => k ≤ xs.length ∧ n = xs.length - k ∧ xs.take k = ys.take k) (fun k : Nat => [(5, int k)]) (fun _ => []) ⟨_, 0, ⟨Nat.zero_le _, rfl, rfl⟩, by repeat (first | exact trivial | refine ⟨rfl, ?_⟩ | refine ⟨?_, ?_⟩)⟩ ?_
  rintro n k ⟨hk, rfl, ht⟩
  refine cx_seq ?_
  refine cx_seq ?_
  refine cx_ops ?_
  refine ax_q (q_mov rfl) ?_
  refine ax_q (q_mov rfl) ?_
  first | refine ax_q (q_lenS_map rfl) ?_ | refine ax_q (q_lenS_osl rfl) ?_ | refine ax_q (q_lenS_zs rfl) ?_ | refine ax_q (q_lenS rfl) ?_
  refine ax_q (q_ibin rfl rfl rfl) ?_
  refine ax_nil ?_
  refine cx_keep rfl rfl ?_
  refine cx_cond rfl (fun h1 => ?_) (fun h1 => ?_)
  ·
   have h1 := dT h1
   have h1x : k < xs.length := by omega
   have h1y : k < ys.length := by omega
   refine cx_skip ?_
   refine cx_keep rfl rfl ?_
   refine cx_seq ?_
   refine cx_block ?_
   refine cx_seq ?_
   refine cx_draw ?_
   refine ax_q (q_mov rfl) ?_
   refine ax_q (q_mov rfl) ?_
   refine ax_q (q_ix rfl rfl (mapAt h1x)) ?_
   first | refine ax_q (q_ldN rfl rfl rfl) ?_ | refine ax_q (q_loadN_ip rfl (Nat.le_refl _)) ?_ | refine ax_q (q_loadN_ip rfl (by decide)) ?_ | refine ax_q (q_loadN_rptr rfl rfl (by assumption) (by decide)) ?_ | refine ax_q (q_loadN_rptr rfl rfl (mapAt (by first | assumption | omega)) (by decide)) ?_
   refine ax_q (q_mov rfl) ?_
   refine ax_q (q_mov rfl) ?_
   refine ax_q (q_ix rfl rfl (mapAt h1y)) ?_
   first | refine ax_q (q_ldN rfl rfl rfl) ?_ | refine ax_q (q_loadN_ip rfl (Nat.le_refl _)) ?_ | refine ax_q (q_loadN_ip rfl (by decide)) ?_ | refine ax_q (q_loadN_rptr rfl rfl (by assumption) (by decide)) ?_ | refine ax_q (q_loadN_rptr rfl rfl (mapAt (by first | assumption | omega)) (by decide)) ?_
   refine ax_qe (r' := bool (!eqb xs[k] ys[k])) (GRow.q_eqs (a := xs[k]) (b := ys[k]) rfl rfl) (rfl) ?_
   refine ax_nil ?_
   refine cx_keep rfl rfl ?_
   refine cx_cond rfl (fun h2 => ?_) (fun h2 => ?_)
   ·
    have h2 := bT h2
    refine cx_seq ?_
    refine cx_ops ?_
    refine ax_q (q_mov rfl) ?_
    refine ax_nil ?_
    refine cx_keep rfl rfl ?_
    refine cx_ret (ret0 rfl rfl ?_)
    exact ⟨congrArg AM.bool (eqbL_no h1x h1y h2).symm, rfl⟩
   ·
    have h2 := bF h2
    refine cx_skip ?_
    refine cx_keep rfl rfl ?_
    refine cx_ops ?_
    refine ax_q (q_mov rfl) ?_
    refine ax_qe (r' := int ((k + 1 : Nat) : Int)) (q_ibin rfl rfl rfl) (by rw [wi (by omega) (by omega)]; rfl) ?_
    refine ax_q (q_mov rfl) ?_
    refine ax_nil ?_
    exact ⟨_, k + 1, by omega, ⟨by omega, rfl, eqbL_step h1x h1y ht h2⟩, by repeat (first | exact trivial | refine ⟨rfl, ?_⟩ | refine ⟨?_, ?_⟩)⟩
  ·
   have h1 := dF h1
   refine cx_exit rfl ?_
   refine cx_keep rfl rfl ?_
   refine cx_seq ?_
   refine cx_ops ?_
   refine ax_q (q_mov rfl) ?_
   refine ax_nil ?_
   refine cx_keep rfl rfl ?_
   refine cx_ret (ret0 rfl rfl ?_)
   exact ⟨congrArg AM.bool (eqb_t (eq_of_take hl (by rwa [show k = xs.length from by omega] at ht))).symm, rfl⟩


/- loop.example/g00332/spec.l00Source -/
def k_c_l00Source : XCode :=
 .seq (.ops [.op (some 2) (.mov (.k (.nilp)))])
 (.keep [0] (.seq (.ops [.op (some 3) (.mov (.t 0)),
   .op (some 4) (.mov (.t 0)),
   .op (some 5) (.lenS (.t 4)),
   .op (some 6) (.bin .rem (.t 5) (.k (.int .i64 1000))),
   .op (some 7) (.build [.nils 1, .int .i64 0, .int .i64 0] [(0, 1, .t 3), (2, 1, .t 6)]),
   .op (some 8) (.box (.t 7)),
   .op (some 2) (.mov (.t 8))])
 (.keep [2] (.ret))))
theorem k_c_l00Source_fits : fitsF Try.prog 25 ⟨9, k_c_l00Source, [.t 2]⟩ = true := by kernel_rfl
theorem c_l00Source {code : Str} (hl : code.length ≤ 1048576) : Con Try.prog noMv 25 [.d (.sl 1 (code.map byteRow))] [] (fun r h => r = .ptr 0 0 ∧ h = (srcOf code).h 0) := by
 refine con_of2 k_c_l00Source_fits rfl fun C hP hmv => ?_
 unfold k_c_l00Source
 refine cx_seq ?_
 refine cx_ops ?_
 refine ax_q (q_mov rfl) ?_
 refine ax_nil ?_
 refine cx_keep rfl rfl ?_
 refine cx_seq ?_
 refine cx_ops ?_
 refine ax_q (q_mov rfl) ?_
 refine ax_q (q_mov rfl) ?_
 first | refine ax_q (q_lenS_map rfl) ?_ | refine ax_q (q_lenS_osl rfl) ?_ | refine ax_q (q_lenS_zs rfl) ?_ | refine ax_q (q_lenS rfl) ?_
 refine ax_q (q_mod rfl rfl (by omega) (by omega)) ?_
 refine ax_q (q_build rfl) ?_
 refine ax_e (e_box rfl rfl (by decide) rfl rfl rfl) ?_
 refine ax_q (q_mov rfl) ?_
 refine ax_nil ?_
 refine cx_keep rfl rfl ?_
 refine cx_ret (retN (fun _ => 0) [8] rfl rfl rfl rfl rfl ?_)
 exact ⟨rfl, rfl⟩


/- (ptr loop.example/g00332/spec.l00Src).byte -/
def k_c_byte : XCode :=
 .seq (.ops [.op (some 2) (.mov (.k (.int .i64 0)))])
 (.keep [0] (.seq (.ops [.op (some 3) (.mov (.t 0)),
   .op (some 4) (.nilck (.t 3)),
   .op (some 5) (.fadr (.t 4) 1),
   .op (some 6) (.load1 (.t 5)),
   .op (some 7) (.bin .add (.t 6) (.k (.int .i64 1))),
   .op (some 8) (.nilck (.t 3)),
   .op (some 9) (.fadr (.t 8) 1),
   .op none (.store 1 (.t 9) (.t 7))])
 (.keep [0] (.seq (.seq (.draw [.op (some 10) (.mov (.t 0)),
   .op (some 11) (.nilck (.t 10)),
   .op (some 12) (.fadr (.t 11) 1),
   .op (some 13) (.load1 (.t 12)),
   .op (some 14) (.mov (.t 0)),
   .op (some 15) (.nilck (.t 14)),
   .op (some 16) (.fadr (.t 15) 0),
   .op (some 17) (.load1 (.t 16)),
   .op (some 18) (.lenS (.t 17)),
   .op (some 19) (.bin .leq (.t 13) (.t 18))])
  (.keep [0, 19] (.cond (.t 19)
  (.seq (.drawE [[], [], [1], [1, 2], [1, 2, 3], [1, 2, 3, 4], [], [6], [6, 7], [6, 7, 8], [], [10], [10, 11], [10, 11, 12], [10, 11, 12, 13], [6, 7, 8, 9, 10, 11, 12, 13, 14], [6, 7, 8, 9, 10, 11, 12, 13, 14, 15], [6, 7, 8, 9, 10, 11, 12, 13, 14, 15, 16], [1, 2, 3, 4, 5, 6, 7, 8, 9, 10, 11, 12, 13, 14, 15, 16, 17], [1, 2, 3, 4, 5, 6, 7, 8, 9, 10, 11, 12, 13, 14, 15, 16, 17, 18], [1, 2, 3, 4, 5, 6, 7, 8, 9, 10, 11, 12, 13, 14, 15, 16, 17, 18, 19], [0, 1, 2, 3, 4, 5, 6, 7, 8, 9, 10, 11, 12, 13, 14, 15, 16, 17, 18, 19, 20], [0, 1, 2, 3, 4, 5, 6, 7, 8, 9, 10, 11, 12, 13, 14, 15, 16, 17, 18, 19, 20, 21], [0, 1, 2, 3, 4, 5, 6, 7, 8, 9, 10, 11, 12, 13, 14, 15, 16, 17, 18, 19, 20, 21, 22]] [.op (some 20) (.mov (.t 0)),
    .op (some 21) (.mov (.t 0)),
    .op (some 22) (.nilck (.t 21)),
    .op (some 23) (.fadr (.t 22) 2),
    .op (some 24) (.load1 (.t 23)),
    .op (some 25) (.bin .mul (.t 24) (.k (.int .i64 31))),
    .op (some 26) (.mov (.t 0)),
    .op (some 27) (.nilck (.t 26)),
    .op (some 28) (.fadr (.t 27) 0),
    .op (some 29) (.load1 (.t 28)),
    .op (some 30) (.mov (.t 0)),
    .op (some 31) (.nilck (.t 30)),
    .op (some 32) (.fadr (.t 31) 1),
    .op (some 33) (.load1 (.t 32)),
    .op (some 34) (.bin .sub (.t 33) (.k (.int .i64 1))),
    .op (some 35) (.iadr 1 (.t 29) (.t 34)),
    .op (some 36) (.load1 (.t 35)),
    .op (some 37) (.conv .i64 (.t 36)),
    .op (some 38) (.bin .add (.t 25) (.t 37)),
    .op (some 39) (.bin .add (.t 38) (.k (.int .i64 7))),
    .op (some 40) (.bin .rem (.t 39) (.k (.int .i64 2147483648)))]
    [.op (some 41) (.nilck (.t 20)),
    .op (some 42) (.fadr (.t 41) 2),
    .op none (.store 1 (.t 42) (.t 40))])
   (.keep [0] (.seq (.draw [.op (some 43) (.mov (.t 0)),
    .op (some 44) (.nilck (.t 43)),
    .op (some 45) (.fadr (.t 44) 0),
    .op (some 46) (.load1 (.t 45)),
    .op (some 47) (.mov (.t 0)),
    .op (some 48) (.nilck (.t 47)),
    .op (some 49) (.fadr (.t 48) 1),
    .op (some 50) (.load1 (.t 49)),
    .op (some 51) (.bin .sub (.t 50) (.k (.int .i64 1))),
    .op (some 52) (.iadr 1 (.t 46) (.t 51)),
    .op (some 53) (.load1 (.t 52)),
    .op (some 54) (.conv .i64 (.t 53)),
    .op (some 2) (.mov (.t 54))])
   (.keep [2] (.ret)))))
  (.skip))))
 (.keep [0] (.seq (.seq (.ops [.op (some 55) (.mov (.t 0)),
   .op (some 56) (.nilck (.t 55)),
   .op (some 57) (.fadr (.t 56) 1),
   .op (some 58) (.load1 (.t 57)),
   .op (some 59) (.bin .gtr (.t 58) (.k (.int .i64 3000)))])
  (.keep [0, 59] (.cond (.t 59)
  (.seq (.ops [.op (some 2) (.mov (.k (.int .i64 0)))])
   (.keep [2] (.ret)))
  (.skip))))
 (.keep [0] (.seq (.ops [.op (some 60) (.mov (.t 0)),
   .op (some 61) (.mov (.t 0)),
   .op (some 62) (.nilck (.t 61)),
   .op (some 63) (.fadr (.t 62) 2),
   .op (some 64) (.load1 (.t 63)),
   .op (some 65) (.bin .mul (.t 64) (.k (.int .i64 1103515245))),
   .op (some 66) (.bin .add (.t 65) (.k (.int .i64 12345))),
   .op (some 67) (.bin .rem (.t 66) (.k (.int .i64 2147483648))),
   .op (some 68) (.nilck (.t 60)),
   .op (some 69) (.fadr (.t 68) 2),
   .op none (.store 1 (.t 69) (.t 67))])
 (.keep [0] (.seq (.ops [.op (some 70) (.mov (.t 0)),
   .op (some 71) (.nilck (.t 70)),
   .op (some 72) (.fadr (.t 71) 2),
   .op (some 73) (.load1 (.t 72)),
   .op (some 74) (.bin .quo (.t 73) (.k (.int .i64 65536))),
   .op (some 75) (.bin .rem (.t 74) (.k (.int .i64 256))),
   .op (some 2) (.mov (.t 75))])
 (.keep [2] (.ret))))))))))))
theorem k_c_byte_fits : fitsF Try.prog 75 ⟨76, k_c_byte, [.t 2]⟩ = true := by kernel_rfl
set_option maxHeartbeats 2000000 in
theorem c_byte {s : Src} {n : Nat} (hs : s.ok (n + 1)) : Con Try.prog noMv 75 [.ptr 1000 0] (s.h 1000) (fun r h => r = int (byteF s).1 ∧ h = ((byteF s).2).h 1000) := by
 refine con_of2 k_c_byte_fits rfl fun C hP hmv => ?_
 unfold k_c_byte
 have hp := hs.pos; have hd := hs.seed; have hl := hs.len
 refine cx_seq ?_
 refine cx_ops ?_
 refine ax_q (q_mov rfl) ?_
 refine ax_nil ?_
 refine cx_keep rfl rfl ?_
 refine cx_seq ?_
 refine cx_ops ?_
 refine ax_q (q_mov rfl) ?_
 first | refine ax_q (q_nilck_ptr rfl) ?_ | refine ax_q (q_nilck_rptr rfl) ?_ | refine ax_q (q_nilck_ip rfl) ?_
 first | refine ax_q (q_fadr_ptr rfl) ?_ | refine ax_q (q_fadr_rptr rfl) ?_ | refine ax_q (q_fadr_ip rfl) ?_
 first | refine ax_q (q_load1_ptr rfl rfl rfl) ?_ | refine ax_q (q_load1_ip rfl) ?_ | refine ax_q (q_load1_rptr rfl rfl rfl rfl) ?_ | refine ax_q (q_load1_rptr rfl rfl (by assumption) rfl) ?_ | refine ax_q (q_load1_rptr rfl rfl (mapAt (by first | assumption | omega)) rfl) ?_
 refine ax_q (q_add rfl rfl (by omega)) ?_
 first | refine ax_q (q_nilck_ptr rfl) ?_ | refine ax_q (q_nilck_rptr rfl) ?_ | refine ax_q (q_nilck_ip rfl) ?_
 first | refine ax_q (q_fadr_ptr rfl) ?_ | refine ax_q (q_fadr_rptr rfl) ?_ | refine ax_q (q_fadr_ip rfl) ?_
 refine ax_e (e_st rfl rfl rfl rfl rfl rfl rfl) ?_
 refine ax_nil ?_
 refine cx_keep rfl rfl ?_
 refine cx_seq ?_
 refine cx_seq ?_
 refine cx_draw ?_
 refine ax_q (q_mov rfl) ?_
 first | refine ax_q (q_nilck_ptr rfl) ?_ | refine ax_q (q_nilck_rptr rfl) ?_ | refine ax_q (q_nilck_ip rfl) ?_
 first | refine ax_q (q_fadr_ptr rfl) ?_ | refine ax_q (q_fadr_rptr rfl) ?_ | refine ax_q (q_fadr_ip rfl) ?_
 first | refine ax_q (q_load1_ptr rfl rfl rfl) ?_ | refine ax_q (q_load1_ip rfl) ?_ | refine ax_q (q_load1_rptr rfl rfl rfl rfl) ?_ | refine ax_q (q_load1_rptr rfl rfl (by assumption) rfl) ?_ | refine ax_q (q_load1_rptr rfl rfl (mapAt (by first | assumption | omega)) rfl) ?_
 refine ax_q (q_mov rfl) ?_
 first | refine ax_q (q_nilck_ptr rfl) ?_ | refine ax_q (q_nilck_rptr rfl) ?_ | refine ax_q (q_nilck_ip rfl) ?_
 first | refine ax_q (q_fadr_ptr rfl) ?_ | refine ax_q (q_fadr_rptr rfl) ?_ | refine ax_q (q_fadr_ip rfl) ?_
 first | refine ax_q (q_load1_ptr rfl rfl rfl) ?_ | refine ax_q (q_load1_ip rfl) ?_ | refine ax_q (q_load1_rptr rfl rfl rfl rfl) ?_ | refine ax_q (q_load1_rptr rfl rfl (by assumption) rfl) ?_ | refine ax_q (q_load1_rptr rfl rfl (mapAt (by first | assumption | omega)) rfl) ?_
 first | refine ax_q (q_lenS_map rfl) ?_ | refine ax_q (q_lenS_osl rfl) ?_ | refine ax_q (q_lenS_zs rfl) ?_ | refine ax_q (q_lenS rfl) ?_
 refine ax_q (q_ibin rfl rfl rfl) ?_
 refine ax_nil ?_
 refine cx_keep rfl rfl ?_
 refine cx_cond rfl (fun h0 => ?_) (fun h0 => ?_)
 ·
  have h0 := dT h0
  have hi : (s.pos + 1 - 1).toNat < s.code.length := by omega
  have hb := (s.code[(s.pos + 1 - 1).toNat]).toNat_lt
  have hg : s.code.getD s.pos.toNat 0 = s.code[(s.pos + 1 - 1).toNat] := by
   rw [← getD_at hi]; congr 2; omega
  refine cx_seq ?_
  refine cx_drawL 0 20 (fun _ => false) (fun _ => true) [] ([]) [[0], [0], [21], [22], [23], [24], [0], [26], [27], [28], [0], [30], [31], [32], [33], [29, 34], [35], [36], [25, 37], [38], [39]] [[], [], [], [], [], [], [], [], [], [], [], [], [], [], [], [], [], [], [], [], []] rfl ?_
  first | refine ⟨⟨20, _, []⟩, .inl ⟨rfl, rfl, rfl, locl_of (loc_q (q_mov rfl))⟩, ?_⟩
  first | refine ⟨_, .inr ⟨rfl, _, rfl, .inr ⟨rfl, rfl, .inr rfl, rfl, rfl⟩, loc_q (q_mov rfl)⟩, ?_⟩
  first | refine ⟨_, .inr ⟨rfl, _, rfl, .inr ⟨rfl, rfl, .inr rfl, rfl, rfl⟩, loc_q (q_nilck_ptr rfl)⟩, ?_⟩ | refine ⟨_, .inr ⟨rfl, _, rfl, .inr ⟨rfl, rfl, .inr rfl, rfl, rfl⟩, loc_q (q_nilck_rptr rfl)⟩, ?_⟩ | refine ⟨_, .inr ⟨rfl, _, rfl, .inr ⟨rfl, rfl, .inr rfl, rfl, rfl⟩, loc_q (q_nilck_ip rfl)⟩, ?_⟩
  first | refine ⟨_, .inr ⟨rfl, _, rfl, .inr ⟨rfl, rfl, .inr rfl, rfl, rfl⟩, loc_q (q_fadr_ptr rfl)⟩, ?_⟩ | refine ⟨_, .inr ⟨rfl, _, rfl, .inr ⟨rfl, rfl, .inr rfl, rfl, rfl⟩, loc_q (q_fadr_rptr rfl)⟩, ?_⟩ | refine ⟨_, .inr ⟨rfl, _, rfl, .inr ⟨rfl, rfl, .inr rfl, rfl, rfl⟩, loc_q (q_fadr_ip rfl)⟩, ?_⟩
  first | refine ⟨_, .inr ⟨rfl, _, rfl, .inr ⟨rfl, rfl, .inr rfl, rfl, rfl⟩, loc_q (q_load1_ptr rfl rfl rfl)⟩, ?_⟩ | refine ⟨_, .inr ⟨rfl, _, rfl, .inr ⟨rfl, rfl, .inr rfl, rfl, rfl⟩, loc_q (q_load1_ip rfl)⟩, ?_⟩ | refine ⟨_, .inr ⟨rfl, _, rfl, .inr ⟨rfl, rfl, .inr rfl, rfl, rfl⟩, loc_q (q_load1_rptr rfl rfl rfl rfl)⟩, ?_⟩ | refine ⟨_, .inr ⟨rfl, _, rfl, .inr ⟨rfl, rfl, .inr rfl, rfl, rfl⟩, loc_q (q_load1_rptr rfl rfl (by assumption) rfl)⟩, ?_⟩ | refine ⟨_, .inr ⟨rfl, _, rfl, .inr ⟨rfl, rfl, .inr rfl, rfl, rfl⟩, loc_q (q_load1_rptr rfl rfl (mapAt (by first | assumption | omega)) rfl)⟩, ?_⟩
  first | refine ⟨_, .inr ⟨rfl, _, rfl, .inr ⟨rfl, rfl, .inr rfl, rfl, rfl⟩, loc_q (q_mul rfl rfl (by omega))⟩, ?_⟩
  first | refine ⟨_, .inr ⟨rfl, _, rfl, .inr ⟨rfl, rfl, .inr rfl, rfl, rfl⟩, loc_q (q_mov rfl)⟩, ?_⟩
  first | refine ⟨_, .inr ⟨rfl, _, rfl, .inr ⟨rfl, rfl, .inr rfl, rfl, rfl⟩, loc_q (q_nilck_ptr rfl)⟩, ?_⟩ | refine ⟨_, .inr ⟨rfl, _, rfl, .inr ⟨rfl, rfl, .inr rfl, rfl, rfl⟩, loc_q (q_nilck_rptr rfl)⟩, ?_⟩ | refine ⟨_, .inr ⟨rfl, _, rfl, .inr ⟨rfl, rfl, .inr rfl, rfl, rfl⟩, loc_q (q_nilck_ip rfl)⟩, ?_⟩
  first | refine ⟨_, .inr ⟨rfl, _, rfl, .inr ⟨rfl, rfl, .inr rfl, rfl, rfl⟩, loc_q (q_fadr_ptr rfl)⟩, ?_⟩ | refine ⟨_, .inr ⟨rfl, _, rfl, .inr ⟨rfl, rfl, .inr rfl, rfl, rfl⟩, loc_q (q_fadr_rptr rfl)⟩, ?_⟩ | refine ⟨_, .inr ⟨rfl, _, rfl, .inr ⟨rfl, rfl, .inr rfl, rfl, rfl⟩, loc_q (q_fadr_ip rfl)⟩, ?_⟩
  first | refine ⟨_, .inr ⟨rfl, _, rfl, .inr ⟨rfl, rfl, .inr rfl, rfl, rfl⟩, loc_q (q_load1_ptr rfl rfl rfl)⟩, ?_⟩ | refine ⟨_, .inr ⟨rfl, _, rfl, .inr ⟨rfl, rfl, .inr rfl, rfl, rfl⟩, loc_q (q_load1_ip rfl)⟩, ?_⟩ | refine ⟨_, .inr ⟨rfl, _, rfl, .inr ⟨rfl, rfl, .inr rfl, rfl, rfl⟩, loc_q (q_load1_rptr rfl rfl rfl rfl)⟩, ?_⟩ | refine ⟨_, .inr ⟨rfl, _, rfl, .inr ⟨rfl, rfl, .inr rfl, rfl, rfl⟩, loc_q (q_load1_rptr rfl rfl (by assumption) rfl)⟩, ?_⟩ | refine ⟨_, .inr ⟨rfl, _, rfl, .inr ⟨rfl, rfl, .inr rfl, rfl, rfl⟩, loc_q (q_load1_rptr rfl rfl (mapAt (by first | assumption | omega)) rfl)⟩, ?_⟩
  first | refine ⟨_, .inr ⟨rfl, _, rfl, .inr ⟨rfl, rfl, .inr rfl, rfl, rfl⟩, loc_q (q_mov rfl)⟩, ?_⟩
  first | refine ⟨_, .inr ⟨rfl, _, rfl, .inr ⟨rfl, rfl, .inr rfl, rfl, rfl⟩, loc_q (q_nilck_ptr rfl)⟩, ?_⟩ | refine ⟨_, .inr ⟨rfl, _, rfl, .inr ⟨rfl, rfl, .inr rfl, rfl, rfl⟩, loc_q (q_nilck_rptr rfl)⟩, ?_⟩ | refine ⟨_, .inr ⟨rfl, _, rfl, .inr ⟨rfl, rfl, .inr rfl, rfl, rfl⟩, loc_q (q_nilck_ip rfl)⟩, ?_⟩
  first | refine ⟨_, .inr ⟨rfl, _, rfl, .inr ⟨rfl, rfl, .inr rfl, rfl, rfl⟩, loc_q (q_fadr_ptr rfl)⟩, ?_⟩ | refine ⟨_, .inr ⟨rfl, _, rfl, .inr ⟨rfl, rfl, .inr rfl, rfl, rfl⟩, loc_q (q_fadr_rptr rfl)⟩, ?_⟩ | refine ⟨_, .inr ⟨rfl, _, rfl, .inr ⟨rfl, rfl, .inr rfl, rfl, rfl⟩, loc_q (q_fadr_ip rfl)⟩, ?_⟩
  first | refine ⟨_, .inr ⟨rfl, _, rfl, .inr ⟨rfl, rfl, .inr rfl, rfl, rfl⟩, loc_q (q_load1_ptr rfl rfl rfl)⟩, ?_⟩ | refine ⟨_, .inr ⟨rfl, _, rfl, .inr ⟨rfl, rfl, .inr rfl, rfl, rfl⟩, loc_q (q_load1_ip rfl)⟩, ?_⟩ | refine ⟨_, .inr ⟨rfl, _, rfl, .inr ⟨rfl, rfl, .inr rfl, rfl, rfl⟩, loc_q (q_load1_rptr rfl rfl rfl rfl)⟩, ?_⟩ | refine ⟨_, .inr ⟨rfl, _, rfl, .inr ⟨rfl, rfl, .inr rfl, rfl, rfl⟩, loc_q (q_load1_rptr rfl rfl (by assumption) rfl)⟩, ?_⟩ | refine ⟨_, .inr ⟨rfl, _, rfl, .inr ⟨rfl, rfl, .inr rfl, rfl, rfl⟩, loc_q (q_load1_rptr rfl rfl (mapAt (by first | assumption | omega)) rfl)⟩, ?_⟩
  first | refine ⟨_, .inr ⟨rfl, _, rfl, .inr ⟨rfl, rfl, .inr rfl, rfl, rfl⟩, loc_q (q_sub rfl rfl (by omega))⟩, ?_⟩
  first | refine ⟨_, .inr ⟨rfl, _, rfl, .inr ⟨rfl, rfl, .inr rfl, rfl, rfl⟩, loc_q (q_ixI rfl rfl (by omega) (mapAt hi))⟩, ?_⟩
  first | refine ⟨_, .inr ⟨rfl, _, rfl, .inr ⟨rfl, rfl, .inr rfl, rfl, rfl⟩, loc_q (q_load1_ptr rfl rfl rfl)⟩, ?_⟩ | refine ⟨_, .inr ⟨rfl, _, rfl, .inr ⟨rfl, rfl, .inr rfl, rfl, rfl⟩, loc_q (q_load1_ip rfl)⟩, ?_⟩ | refine ⟨_, .inr ⟨rfl, _, rfl, .inr ⟨rfl, rfl, .inr rfl, rfl, rfl⟩, loc_q (q_load1_rptr rfl rfl rfl rfl)⟩, ?_⟩ | refine ⟨_, .inr ⟨rfl, _, rfl, .inr ⟨rfl, rfl, .inr rfl, rfl, rfl⟩, loc_q (q_load1_rptr rfl rfl (by assumption) rfl)⟩, ?_⟩ | refine ⟨_, .inr ⟨rfl, _, rfl, .inr ⟨rfl, rfl, .inr rfl, rfl, rfl⟩, loc_q (q_load1_rptr rfl rfl (mapAt (by first | assumption | omega)) rfl)⟩, ?_⟩
  first | refine ⟨_, .inr ⟨rfl, _, rfl, .inr ⟨rfl, rfl, .inr rfl, rfl, rfl⟩, loc_q (q_convB rfl)⟩, ?_⟩ | refine ⟨_, .inr ⟨rfl, _, rfl, .inr ⟨rfl, rfl, .inr rfl, rfl, rfl⟩, loc_q (q_convI rfl (by omega))⟩, ?_⟩ | refine ⟨_, .inr ⟨rfl, _, rfl, .inr ⟨rfl, rfl, .inr rfl, rfl, rfl⟩, loc_q (q_convU8 rfl)⟩, ?_⟩ | refine ⟨_, .inr ⟨rfl, _, rfl, .inr ⟨rfl, rfl, .inr rfl, rfl, rfl⟩, loc_q (q_conv rfl)⟩, ?_⟩
  first | refine ⟨_, .inr ⟨rfl, _, rfl, .inr ⟨rfl, rfl, .inr rfl, rfl, rfl⟩, loc_q (q_add rfl rfl (by omega))⟩, ?_⟩
  first | refine ⟨_, .inr ⟨rfl, _, rfl, .inr ⟨rfl, rfl, .inr rfl, rfl, rfl⟩, loc_q (q_add rfl rfl (by omega))⟩, ?_⟩
  first | refine ⟨_, .inr ⟨rfl, _, rfl, .inr ⟨rfl, rfl, .inr rfl, rfl, rfl⟩, loc_q (q_mod rfl rfl (by omega) (by omega))⟩, ?_⟩
  refine ⟨rfl, ?_⟩
  first | refine ax_q (q_nilck_ptr rfl) ?_ | refine ax_q (q_nilck_rptr rfl) ?_ | refine ax_q (q_nilck_ip rfl) ?_
  first | refine ax_q (q_fadr_ptr rfl) ?_ | refine ax_q (q_fadr_rptr rfl) ?_ | refine ax_q (q_fadr_ip rfl) ?_
  refine ax_e (e_st rfl rfl rfl rfl rfl rfl rfl) ?_
  refine ax_nil ?_
  refine cx_keep rfl rfl ?_
  refine cx_seq ?_
  refine cx_draw ?_
  refine ax_q (q_mov rfl) ?_
  first | refine ax_q (q_nilck_ptr rfl) ?_ | refine ax_q (q_nilck_rptr rfl) ?_ | refine ax_q (q_nilck_ip rfl) ?_
  first | refine ax_q (q_fadr_ptr rfl) ?_ | refine ax_q (q_fadr_rptr rfl) ?_ | refine ax_q (q_fadr_ip rfl) ?_
  first | refine ax_q (q_load1_ptr rfl rfl rfl) ?_ | refine ax_q (q_load1_ip rfl) ?_ | refine ax_q (q_load1_rptr rfl rfl rfl rfl) ?_ | refine ax_q (q_load1_rptr rfl rfl (by assumption) rfl) ?_ | refine ax_q (q_load1_rptr rfl rfl (mapAt (by first | assumption | omega)) rfl) ?_
  refine ax_q (q_mov rfl) ?_
  first | refine ax_q (q_nilck_ptr rfl) ?_ | refine ax_q (q_nilck_rptr rfl) ?_ | refine ax_q (q_nilck_ip rfl) ?_
  first | refine ax_q (q_fadr_ptr rfl) ?_ | refine ax_q (q_fadr_rptr rfl) ?_ | refine ax_q (q_fadr_ip rfl) ?_
  first | refine ax_q (q_load1_ptr rfl rfl rfl) ?_ | refine ax_q (q_load1_ip rfl) ?_ | refine ax_q (q_load1_rptr rfl rfl rfl rfl) ?_ | refine ax_q (q_load1_rptr rfl rfl (by assumption) rfl) ?_ | refine ax_q (q_load1_rptr rfl rfl (mapAt (by first | assumption | omega)) rfl) ?_
  refine ax_q (q_sub rfl rfl (by omega)) ?_
  refine ax_q (q_ixI rfl rfl (by omega) (mapAt hi)) ?_
  first | refine ax_q (q_load1_ptr rfl rfl rfl) ?_ | refine ax_q (q_load1_ip rfl) ?_ | refine ax_q (q_load1_rptr rfl rfl rfl rfl) ?_ | refine ax_q (q_load1_rptr rfl rfl (by assumption) rfl) ?_ | refine ax_q (q_load1_rptr rfl rfl (mapAt (by first | assumption | omega)) rfl) ?_
  first | refine ax_q (q_convB rfl) ?_ | refine ax_q (q_convI rfl (by omega)) ?_ | refine ax_q (q_convU8 rfl) ?_ | refine ax_q (q_conv rfl) ?_
  refine ax_q (q_mov rfl) ?_
  refine ax_nil ?_
  refine cx_keep rfl rfl ?_
  refine cx_ret (retN id [1000] rfl rfl rfl rfl rfl ?_)
  rw [byteF_1 h0, hg]; exact ⟨rfl, rfl⟩
 ·
  have h0 := dF h0
  refine cx_skip ?_
  refine cx_keep rfl rfl ?_
  refine cx_seq ?_
  refine cx_seq ?_
  refine cx_ops ?_
  refine ax_q (q_mov rfl) ?_
  first | refine ax_q (q_nilck_ptr rfl) ?_ | refine ax_q (q_nilck_rptr rfl) ?_ | refine ax_q (q_nilck_ip rfl) ?_
  first | refine ax_q (q_fadr_ptr rfl) ?_ | refine ax_q (q_fadr_rptr rfl) ?_ | refine ax_q (q_fadr_ip rfl) ?_
  first | refine ax_q (q_load1_ptr rfl rfl rfl) ?_ | refine ax_q (q_load1_ip rfl) ?_ | refine ax_q (q_load1_rptr rfl rfl rfl rfl) ?_ | refine ax_q (q_load1_rptr rfl rfl (by assumption) rfl) ?_ | refine ax_q (q_load1_rptr rfl rfl (mapAt (by first | assumption | omega)) rfl) ?_
  refine ax_q (q_ibin rfl rfl rfl) ?_
  refine ax_nil ?_
  refine cx_keep rfl rfl ?_
  refine cx_cond rfl (fun h1 => ?_) (fun h1 => ?_)
  ·
   have h1 := dT h1
   refine cx_seq ?_
   refine cx_ops ?_
   refine ax_q (q_mov rfl) ?_
   refine ax_nil ?_
   refine cx_keep rfl rfl ?_
   refine cx_ret (retN id [1000] rfl rfl rfl rfl rfl ?_)
   rw [byteF_2 h0 h1]; exact ⟨rfl, rfl⟩
  ·
   have h1 := dF h1
   refine cx_skip ?_
   refine cx_keep rfl rfl ?_
   refine cx_seq ?_
   refine cx_ops ?_
   refine ax_q (q_mov rfl) ?_
   refine ax_q (q_mov rfl) ?_
   first | refine ax_q (q_nilck_ptr rfl) ?_ | refine ax_q (q_nilck_rptr rfl) ?_ | refine ax_q (q_nilck_ip rfl) ?_
   first | refine ax_q (q_fadr_ptr rfl) ?_ | refine ax_q (q_fadr_rptr rfl) ?_ | refine ax_q (q_fadr_ip rfl) ?_
   first | refine ax_q (q_load1_ptr rfl rfl rfl) ?_ | refine ax_q (q_load1_ip rfl) ?_ | refine ax_q (q_load1_rptr rfl rfl rfl rfl) ?_ | refine ax_q (q_load1_rptr rfl rfl (by assumption) rfl) ?_ | refine ax_q (q_load1_rptr rfl rfl (mapAt (by first | assumption | omega)) rfl) ?_
   refine ax_q (q_mul rfl rfl (by omega)) ?_
   refine ax_q (q_add rfl rfl (by omega)) ?_
   refine ax_q (q_mod rfl rfl (by omega) (by omega)) ?_
   first | refine ax_q (q_nilck_ptr rfl) ?_ | refine ax_q (q_nilck_rptr rfl) ?_ | refine ax_q (q_nilck_ip rfl) ?_
   first | refine ax_q (q_fadr_ptr rfl) ?_ | refine ax_q (q_fadr_rptr rfl) ?_ | refine ax_q (q_fadr_ip rfl) ?_
   refine ax_e (e_st rfl rfl rfl rfl rfl rfl rfl) ?_
   refine ax_nil ?_
   refine cx_keep rfl rfl ?_
   refine cx_seq ?_
   refine cx_ops ?_
   refine ax_q (q_mov rfl) ?_
   first | refine ax_q (q_nilck_ptr rfl) ?_ | refine ax_q (q_nilck_rptr rfl) ?_ | refine ax_q (q_nilck_ip rfl) ?_
   first | refine ax_q (q_fadr_ptr rfl) ?_ | refine ax_q (q_fadr_rptr rfl) ?_ | refine ax_q (q_fadr_ip rfl) ?_
   first | refine ax_q (q_load1_ptr rfl rfl rfl) ?_ | refine ax_q (q_load1_ip rfl) ?_ | refine ax_q (q_load1_rptr rfl rfl rfl rfl) ?_ | refine ax_q (q_load1_rptr rfl rfl (by assumption) rfl) ?_ | refine ax_q (q_load1_rptr rfl rfl (mapAt (by first | assumption | omega)) rfl) ?_
   refine ax_q (q_div rfl rfl (by omega) (by omega) (by omega)) ?_
   refine ax_q (q_mod rfl rfl (by omega) (by omega)) ?_
   refine ax_q (q_mov rfl) ?_
   refine ax_nil ?_
   refine cx_keep rfl rfl ?_
   refine cx_ret (retN id [1000] rfl rfl rfl rfl rfl ?_)
   rw [byteF_3 h0 h1]; exact ⟨rfl, rfl⟩


/- (ptr loop.example/g00332/spec.l00Src).next -/
def k_c_next : XCode :=
 .seq (.ops [.op (some 4) (.mov (.k (.int .i64 0)))])
 (.keep [0, 1] (.seq (.seq (.ops [.op (some 8) (.mov (.t 1)),
   .op (some 9) (.bin .leq (.t 8) (.k (.int .i64 1)))])
  (.keep [0, 1, 9] (.cond (.t 9)
  (.seq (.ops [.op (some 4) (.mov (.k (.int .i64 0)))])
   (.keep [4] (.ret)))
  (.skip))))
 (.keep [0, 1] (.seq (.seq (.ops [.op (some 10) (.mov (.t 1)),
   .op (some 11) (.bin .leq (.t 10) (.k (.int .i64 256)))])
  (.keep [0, 1, 11] (.cond (.t 11)
  (.seq (.ops [.op (some 12) (.mov (.t 0)),
    .call (some 13) 75 [.t 12],
    .op (some 14) (.mov (.t 1)),
    .op (some 15) (.bin .rem (.t 13) (.t 14)),
    .op (some 4) (.mov (.t 15))])
   (.keep [4] (.ret)))
  (.skip))))
 (.keep [0, 1] (.seq (.ops [.op (some 16) (.mov (.t 0)),
   .call (some 17) 75 [.t 16],
   .op (some 5) (.mov (.t 17))])
 (.keep [0, 1, 5] (.seq (.ops [.op (some 18) (.mov (.t 0)),
   .call (some 19) 75 [.t 18],
   .op (some 6) (.mov (.t 19))])
 (.keep [0, 1, 5, 6] (.seq (.ops [.op (some 20) (.mov (.t 0)),
   .call (some 21) 75 [.t 20],
   .op (some 7) (.mov (.t 21))])
 (.keep [1, 5, 6, 7] (.seq (.ops [.op (some 22) (.mov (.t 5)),
   .op (some 23) (.bin .mul (.t 22) (.k (.int .i64 65536))),
   .op (some 24) (.mov (.t 6)),
   .op (some 25) (.bin .mul (.t 24) (.k (.int .i64 256))),
   .op (some 26) (.bin .add (.t 23) (.t 25)),
   .op (some 27) (.mov (.t 7)),
   .op (some 28) (.bin .add (.t 26) (.t 27)),
   .op (some 29) (.mov (.t 1)),
   .op (some 30) (.bin .rem (.t 28) (.t 29)),
   .op (some 4) (.mov (.t 30))])
 (.keep [4] (.ret))))))))))))))
theorem k_c_next_fits : fitsF Try.prog 49 ⟨31, k_c_next, [.t 4]⟩ = true := by kernel_rfl
theorem c_next {s : Src} {m : Int} {n : Nat} (hs : s.ok (n + 3)) : Con Try.prog noMv 49 [.ptr 1000 0, int m] (s.h 1000) (fun r h => r = int (nextF s m).1 ∧ h = ((nextF s m).2).h 1000) := by
 refine con_of2 k_c_next_fits rfl fun C hP hmv => ?_
 unfold k_c_next
 refine cx_seq ?_
 refine cx_ops ?_
 refine ax_q (q_mov rfl) ?_
 refine ax_nil ?_
 refine cx_keep rfl rfl ?_
 refine cx_seq ?_
 refine cx_seq ?_
 refine cx_ops ?_
 refine ax_q (q_mov rfl) ?_
 refine ax_q (q_ibin rfl rfl rfl) ?_
 refine ax_nil ?_
 refine cx_keep rfl rfl ?_
 refine cx_cond rfl (fun h0 => ?_) (fun h0 => ?_)
 ·
  have h0 := dT h0
  refine cx_seq ?_
  refine cx_ops ?_
  refine ax_q (q_mov rfl) ?_
  refine ax_nil ?_
  refine cx_keep rfl rfl ?_
  refine cx_ret (retN id [1000] rfl rfl rfl rfl rfl ?_)
  rw [nextF_1 h0]; exact ⟨rfl, rfl⟩
 ·
  have h0 := dF h0
  refine cx_skip ?_
  refine cx_keep rfl rfl ?_
  refine cx_seq ?_
  refine cx_seq ?_
  refine cx_ops ?_
  refine ax_q (q_mov rfl) ?_
  refine ax_q (q_ibin rfl rfl rfl) ?_
  refine ax_nil ?_
  refine cx_keep rfl rfl ?_
  refine cx_cond rfl (fun h1 => ?_) (fun h1 => ?_)
  ·
   have h1 := dT h1
   refine cx_seq ?_
   refine cx_ops ?_
   refine ax_q (q_mov rfl) ?_
   obtain ⟨k1, k2, k3⟩ := byteF_ok (n := n + 2) hs
   refine ax_call rfl (vcall_own (c_byte (n := n + 2) ?_) hP hmv false (fun _ => 1000) [1000] ⟨rfl, rfl, rfl, rfl, ⟨rfl, trivial⟩, rfl, rfl, rfl⟩ (.pass rfl rfl .nil) ?_)
   ·
    first | assumption | omega | (simp; done) | (simp; omega)
   rintro r h ⟨rfl, rfl⟩
   refine ⟨fun _ => 1000, [], ⟨rfl, rfl, rfl, rfl, mem1 rfl, rfl, rfl, fun h => absurd h Bool.false_ne_true⟩, ?_⟩
   refine ax_q (q_mov rfl) ?_
   refine ax_q (q_mod rfl rfl (by omega) (by omega)) ?_
   refine ax_q (q_mov rfl) ?_
   refine ax_nil ?_
   refine cx_keep rfl rfl ?_
   refine cx_ret (retN id [1000] rfl rfl rfl rfl rfl ?_)
   rw [nextF_2 h0 h1]; exact ⟨rfl, rfl⟩
  ·
   have h1 := dF h1
   refine cx_skip ?_
   refine cx_keep rfl rfl ?_
   refine cx_seq ?_
   refine cx_ops ?_
   refine ax_q (q_mov rfl) ?_
   obtain ⟨k1, k2, k3⟩ := byteF_ok (n := n + 2) hs
   obtain ⟨k4, k5, k6⟩ := byteF_ok (n := n + 1) k1
   obtain ⟨k7, k8, k9⟩ := byteF_ok (n := n) k4
   refine ax_call rfl (vcall_own (c_byte (n := n + 2) ?_) hP hmv false (fun _ => 1000) [1000] ⟨rfl, rfl, rfl, rfl, ⟨rfl, trivial⟩, rfl, rfl, rfl⟩ (.pass rfl rfl .nil) ?_)
   ·
    first | assumption | omega | (simp; done) | (simp; omega)
   rintro r h ⟨rfl, rfl⟩
   refine ⟨fun _ => 1000, [], ⟨rfl, rfl, rfl, rfl, mem1 rfl, rfl, rfl, fun h => absurd h Bool.false_ne_true⟩, ?_⟩
   refine ax_q (q_mov rfl) ?_
   refine ax_nil ?_
   refine cx_keep rfl rfl ?_
   refine cx_seq ?_
   refine cx_ops ?_
   refine ax_q (q_mov rfl) ?_
   refine ax_call rfl (vcall_own (c_byte (n := n + 1) ?_) hP hmv false (fun _ => 1000) [1000] ⟨rfl, rfl, rfl, rfl, ⟨rfl, trivial⟩, rfl, rfl, rfl⟩ (.pass rfl rfl .nil) ?_)
   ·
    first | assumption | omega | (simp; done) | (simp; omega)
   rintro r h ⟨rfl, rfl⟩
   refine ⟨fun _ => 1000, [], ⟨rfl, rfl, rfl, rfl, mem1 rfl, rfl, rfl, fun h => absurd h Bool.false_ne_true⟩, ?_⟩
   refine ax_q (q_mov rfl) ?_
   refine ax_nil ?_
   refine cx_keep rfl rfl ?_
   refine cx_seq ?_
   refine cx_ops ?_
   refine ax_q (q_mov rfl) ?_
   refine ax_call rfl (vcall_own (c_byte (n := n) ?_) hP hmv false (fun _ => 1000) [1000] ⟨rfl, rfl, rfl, rfl, ⟨rfl, trivial⟩, rfl, rfl, rfl⟩ (.pass rfl rfl .nil) ?_)
   ·
    first | assumption | omega | (simp; done) | (simp; omega)
   rintro r h ⟨rfl, rfl⟩
   refine ⟨fun _ => 1000, [], ⟨rfl, rfl, rfl, rfl, mem1 rfl, rfl, rfl, fun h => absurd h Bool.false_ne_true⟩, ?_⟩
   refine ax_q (q_mov rfl) ?_
   refine ax_nil ?_
   refine cx_keep rfl rfl ?_
   refine cx_seq ?_
   refine cx_ops ?_
   refine ax_q (q_mov rfl) ?_
   refine ax_q (q_mul rfl rfl (by omega)) ?_
   refine ax_q (q_mov rfl) ?_
   refine ax_q (q_mul rfl rfl (by omega)) ?_
   refine ax_q (q_add rfl rfl (by omega)) ?_
   refine ax_q (q_mov rfl) ?_
   refine ax_q (q_add rfl rfl (by omega)) ?_
   refine ax_q (q_mov rfl) ?_
   refine ax_q (q_mod rfl rfl (by omega) (by omega)) ?_
   refine ax_q (q_mov rfl) ?_
   refine ax_nil ?_
   refine cx_keep rfl rfl ?_
   refine cx_ret (retN id [1000] rfl rfl rfl rfl rfl ?_)
   rw [nextF_3 h0 h1]; exact ⟨rfl, rfl⟩


/- (ptr loop.example/g00332/spec.l00Src).pick -/
def k_c_pick : XCode :=
 .seq (.ops [.op (some 4) (.mov (.k (.str [])))])
 (.keep [0, 1] (.seq (.seq (.ops [.op (some 5) (.mov (.t 1)),
   .op (some 6) (.lenS (.t 5)),
   .op (some 7) (.bin .eql (.t 6) (.k (.int .i64 0)))])
  (.keep [0, 1, 7] (.cond (.t 7)
  (.seq (.ops [.op (some 4) (.mov (.k (.str [])))])
   (.keep [4] (.ret)))
  (.skip))))
 (.keep [0, 1] (.seq (.ops [.op (some 8) (.mov (.t 1)),
   .op (some 9) (.mov (.t 0)),
   .op (some 10) (.mov (.t 1)),
   .op (some 11) (.lenS (.t 10)),
   .call (some 12) 49 [.t 9, .t 11],
   .op (some 13) (.iadr 1 (.t 8) (.t 12)),
   .op (some 14) (.load1 (.t 13)),
   .op (some 4) (.mov (.t 14))])
 (.keep [4] (.ret))))))
theorem k_c_pick_fits : fitsF Try.prog 77 ⟨15, k_c_pick, [.t 4]⟩ = true := by kernel_rfl
theorem c_pick {s : Src} {ts : List Str} {n : Nat} (hs : s.ok (n + 3)) (ht : 1 ≤ ts.length ∧ ts.length ≤ 1000) : Con Try.prog noMv 77 [.ptr 1000 0, .d (.sl 1 (ts.map strRow))] (s.h 1000) (fun r h => r = str (pickF s ts).1 ∧ h = ((pickF s ts).2).h 1000) := by
 refine con_of2 k_c_pick_fits rfl fun C hP hmv => ?_
 unfold k_c_pick
 refine cx_seq ?_
 refine cx_ops ?_
 refine ax_q (q_mov rfl) ?_
 refine ax_nil ?_
 refine cx_keep rfl rfl ?_
 refine cx_seq ?_
 refine cx_seq ?_
 refine cx_ops ?_
 refine ax_q (q_mov rfl) ?_
 first | refine ax_q (q_lenS_map rfl) ?_ | refine ax_q (q_lenS_osl rfl) ?_ | refine ax_q (q_lenS_zs rfl) ?_ | refine ax_q (q_lenS rfl) ?_
 refine ax_q (q_ibin rfl rfl rfl) ?_
 refine ax_nil ?_
 refine cx_keep rfl rfl ?_
 refine cx_cond rfl (fun h0 => ?_) (fun h0 => ?_)
 ·
  have h0 := dT h0
  exfalso; omega
 ·
  have h0 := dF h0
  refine cx_skip ?_
  refine cx_keep rfl rfl ?_
  refine cx_seq ?_
  refine cx_ops ?_
  refine ax_q (q_mov rfl) ?_
  refine ax_q (q_mov rfl) ?_
  refine ax_q (q_mov rfl) ?_
  first | refine ax_q (q_lenS_map rfl) ?_ | refine ax_q (q_lenS_osl rfl) ?_ | refine ax_q (q_lenS_zs rfl) ?_ | refine ax_q (q_lenS rfl) ?_
  obtain ⟨k1, k2, k3⟩ := nextF_ok (s := s) (n := ts.length) (k := n) hs
  have k3 := k3 (by omega)
  have hk : (nextF s ts.length).1.toNat < ts.length := by omega
  refine ax_call rfl (vcall_own (c_next (n := n) ?_) hP hmv false (fun _ => 1000) [1000] ⟨rfl, rfl, rfl, rfl, ⟨rfl, trivial⟩, rfl, rfl, rfl⟩ (.pass rfl rfl (.pass rfl rfl .nil)) ?_)
  ·
   first | assumption | omega | (simp; done) | (simp; omega)
  rintro r h ⟨rfl, rfl⟩
  refine ⟨fun _ => 1000, [], ⟨rfl, rfl, rfl, rfl, mem1 rfl, rfl, rfl, fun h => absurd h Bool.false_ne_true⟩, ?_⟩
  refine ax_q (q_ixI rfl rfl (by omega) (strAt hk)) ?_
  first | refine ax_q (q_load1_ptr rfl rfl rfl) ?_ | refine ax_q (q_load1_ip rfl) ?_ | refine ax_q (q_load1_rptr rfl rfl rfl rfl) ?_ | refine ax_q (q_load1_rptr rfl rfl (by assumption) rfl) ?_ | refine ax_q (q_load1_rptr rfl rfl (mapAt (by first | assumption | omega)) rfl) ?_
  refine ax_q (q_mov rfl) ?_
  refine ax_nil ?_
  refine cx_keep rfl rfl ?_
  refine cx_ret (retN id [1000] rfl rfl rfl rfl rfl ?_)
  exact ⟨rfl, rfl⟩


/- (ptr loop.example/g00332/spec.l00Src).value -/
def k_c_value : XCode :=
 .seq (.ops [.op (some 2) (.alloc [.int .i64 0, .int .i64 0, .str []])])
 (.keep [0, 2] (.seq (.seq (.ops [.op (some 3) (.mov (.t 0)),
   .call (some 4) 49 [.t 3, .k (.int .i64 4)]])
  (.keep [0, 2, 4] (.block 0 (.seq (.ops [.op (some 6) (.bin .eql (.t 4) (.k (.int .i64 0))),
    .op (some 5) (.mov (.t 6))])
  (.keep [0, 2, 4, 5] (.cond (.t 5)
   (.seq (.ops [.op (some 7) (.build [.int .i64 0, .int .i64 0, .str []] []),
     .op none (.store 3 (.t 2) (.t 7))])
   (.keep [2] (.ret)))
   (.seq (.ops [.op (some 9) (.bin .eql (.t 4) (.k (.int .i64 1))),
     .op (some 8) (.mov (.t 9))])
   (.keep [0, 2, 8] (.cond (.t 8)
    (.seq (.ops [.op (some 10) (.mov (.t 0)),
      .op (some 11) (.bslice 1 [.k (.str []), .k (.str [97]), .k (.str [97, 98]), .k (.str [97, 98, 99]), .k (.str [98]), .k (.str [122, 122])]),
      .call (some 12) 77 [.t 10, .t 11],
      .op (some 13) (.build [.int .i64 0, .int .i64 0, .str []] [(0, 1, .k (.int .i64 2)), (2, 1, .t 12)]),
      .op none (.store 3 (.t 2) (.t 13))])
    (.keep [2] (.ret)))
    (.skip))))))))))
 (.keep [0, 2] (.seq (.ops [.op (some 14) (.mov (.t 0)),
   .call (some 15) 49 [.t 14, .k (.int .i64 20)],
   .op (some 16) (.bin .sub (.t 15) (.k (.int .i64 5))),
   .op (some 17) (.mov (.t 0)),
   .call (some 18) 49 [.t 17, .k (.int .i64 20)],
   .op (some 19) (.bslice 1 [.t 16, .t 18, .k (.int .i64 1000000000), .k (.int .i64 (-1000000000))]),
   .op (some 20) (.mov (.t 0)),
   .call (some 21) 49 [.t 20, .k (.int .i64 8)],
   .op (some 22) (.bin .quo (.t 21) (.k (.int .i64 2))),
   .op (some 23) (.iadr 1 (.t 19) (.t 22)),
   .op (some 24) (.load1 (.t 23)),
   .op (some 25) (.build [.int .i64 0, .int .i64 0, .str []] [(0, 1, .k (.int .i64 1)), (1, 1, .t 24)]),
   .op none (.store 3 (.t 2) (.t 25))])
 (.keep [2] (.ret))))))
theorem k_c_value_fits : fitsF Try.prog 76 ⟨26, k_c_value, [.cN 2 3]⟩ = true := by kernel_rfl
theorem c_value {s : Src} {n : Nat} (hs : s.ok (n + 12)) : Con Try.prog noMv 76 [.ptr 1000 0] (s.h 1000) (fun r h => r = (valueF s).1.av ∧ h = ((valueF s).2).h 1000) := by
 refine con_of2 k_c_value_fits rfl fun C hP hmv => ?_
 unfold k_c_value
 obtain ⟨k1, k2, k3⟩ := nextF_ok (s := s) (n := 4) (k := n + 9) hs
 have k3 := k3 (by omega)
 refine cx_seq ?_
 refine cx_ops ?_
 refine ax_e (e_alloc (by decide) rfl rfl) ?_
 refine ax_nil ?_
 refine cx_keep rfl rfl ?_
 refine cx_seq ?_
 refine cx_seq ?_
 refine cx_ops ?_
 refine ax_q (q_mov rfl) ?_
 refine ax_call rfl (vcall_own (c_next (n := n + 9) ?_) hP hmv false (fun _ => 1000) [1000] ⟨rfl, rfl, rfl, rfl, ⟨rfl, trivial⟩, rfl, rfl, rfl⟩ (.pass rfl rfl (.pass rfl rfl .nil)) ?_)
 ·
  first | assumption | omega | (simp; done) | (simp; omega)
 rintro r h ⟨rfl, rfl⟩
 refine ⟨fun _ => 1000, [], ⟨rfl, rfl, rfl, rfl, mem1 rfl, rfl, rfl, fun h => absurd h Bool.false_ne_true⟩, ?_⟩
 refine ax_nil ?_
 refine cx_keep rfl rfl ?_
 refine cx_block ?_
 refine cx_seq ?_
 refine cx_ops ?_
 refine ax_q (q_ibin rfl rfl rfl) ?_
 refine ax_q (q_mov rfl) ?_
 refine ax_nil ?_
 refine cx_keep rfl rfl ?_
 refine cx_cond rfl (fun h0 => ?_) (fun h0 => ?_)
 ·
  have h0 := dT h0
  refine cx_seq ?_
  refine cx_ops ?_
  refine ax_q (q_build rfl) ?_
  refine ax_e (e_st rfl rfl rfl rfl rfl rfl rfl) ?_
  refine ax_nil ?_
  refine cx_keep rfl rfl ?_
  refine cx_ret (retN id [1000] rfl rfl rfl rfl rfl ?_)
  unfold valueF; rw [if_pos h0]; exact ⟨rfl, rfl⟩
 ·
  have h0 := dF h0
  refine cx_seq ?_
  refine cx_ops ?_
  refine ax_q (q_ibin rfl rfl rfl) ?_
  refine ax_q (q_mov rfl) ?_
  refine ax_nil ?_
  refine cx_keep rfl rfl ?_
  refine cx_cond rfl (fun h1 => ?_) (fun h1 => ?_)
  ·
   have h1 := dT h1
   refine cx_seq ?_
   refine cx_ops ?_
   refine ax_q (q_mov rfl) ?_
   refine ax_e (e_bslice rfl (by decide) rfl rfl) ?_
   refine ax_wk (wk_frz 11 11 rfl rfl (.whole rfl) rfl) ?_
   refine ax_call rfl (vcall_own (c_pick (ts := vTexts) (n := n) (k1.mono (by omega)) (by decide)) hP hmv false (fun _ => 1000) [1000] ⟨rfl, rfl, rfl, rfl, ⟨rfl, trivial⟩, rfl, rfl, rfl⟩ (.pass rfl rfl (.pass rfl rfl .nil)) ?_)
   rintro r h ⟨rfl, rfl⟩
   refine ⟨fun _ => 1000, [], ⟨rfl, rfl, rfl, rfl, mem1 rfl, rfl, rfl, fun h => absurd h Bool.false_ne_true⟩, ?_⟩
   refine ax_q (q_build rfl) ?_
   refine ax_e (e_st rfl rfl rfl rfl rfl rfl rfl) ?_
   refine ax_nil ?_
   refine cx_keep rfl rfl ?_
   refine cx_ret (retN id [1000] rfl rfl rfl rfl rfl ?_)
   unfold valueF; rw [if_neg h0, if_pos h1]; exact ⟨rfl, rfl⟩
  ·
   have h1 := dF h1
   refine cx_skip ?_
   refine cx_keep rfl rfl ?_
   refine cx_seq ?_
   refine cx_ops ?_
   refine ax_q (q_mov rfl) ?_
   obtain ⟨a1, a2, a3⟩ := nextF_ok (s := (nextF s 4).2) (n := 20) (k := n + 6) (k1.mono (by omega))
   have a3 := a3 (by omega)
   obtain ⟨b1, b2, b3⟩ := nextF_ok (s := (nextF (nextF s 4).2 20).2) (n := 20) (k := n + 3) (a1.mono (by omega))
   have b3 := b3 (by omega)
   obtain ⟨d1, d2, d3⟩ := nextF_ok (s := vSrc (nextF s 4).2) (n := 8) (k := n) b1
   have d3 := d3 (by omega)
   refine ax_call rfl (vcall_own (c_next (n := n + 6) ?_) hP hmv false (fun _ => 1000) [1000] ⟨rfl, rfl, rfl, rfl, ⟨rfl, trivial⟩, rfl, rfl, rfl⟩ (.pass rfl rfl (.pass rfl rfl .nil)) ?_)
   ·
    first | assumption | omega | (simp; done) | (simp; omega)
   rintro r h ⟨rfl, rfl⟩
   refine ⟨fun _ => 1000, [], ⟨rfl, rfl, rfl, rfl, mem1 rfl, rfl, rfl, fun h => absurd h Bool.false_ne_true⟩, ?_⟩
   refine ax_q (q_sub rfl rfl (by omega)) ?_
   refine ax_q (q_mov rfl) ?_
   refine ax_call rfl (vcall_own (c_next (n := n + 3) ?_) hP hmv false (fun _ => 1000) [1000] ⟨rfl, rfl, rfl, rfl, ⟨rfl, trivial⟩, rfl, rfl, rfl⟩ (.pass rfl rfl (.pass rfl rfl .nil)) ?_)
   ·
    first | assumption | omega | (simp; done) | (simp; omega)
   rintro r h ⟨rfl, rfl⟩
   refine ⟨fun _ => 1000, [], ⟨rfl, rfl, rfl, rfl, mem1 rfl, rfl, rfl, fun h => absurd h Bool.false_ne_true⟩, ?_⟩
   refine ax_e (e_bslice rfl (by decide) rfl rfl) ?_
   refine ax_q (q_mov rfl) ?_
   refine ax_call rfl (vcall_own (c_next (s := vSrc (nextF s 4).2) (n := n) ?_) hP hmv false (fun _ => 1000) [1000] ⟨rfl, rfl, rfl, rfl, ⟨rfl, trivial⟩, rfl, rfl, rfl⟩ (.pass rfl rfl (.pass rfl rfl .nil)) ?_)
   ·
    first | assumption | omega | (simp; done) | (simp; omega)
   rintro r h ⟨rfl, rfl⟩
   refine ⟨fun _ => 1000, [], ⟨rfl, rfl, rfl, rfl, mem1 rfl, rfl, rfl, fun h => absurd h Bool.false_ne_true⟩, ?_⟩
   refine ax_q (q_div rfl rfl (by omega) (by omega) (by omega)) ?_
   refine ax_q (q_ixoI rfl rfl (by omega) (by simp only [List.length_cons, List.length_nil]; omega)) ?_
   refine ax_q (q_load1_rptr rfl rfl (dAt (ds := vNums (nextF s 4).2) (by unfold vNums; simp only [List.length_cons, List.length_nil]; omega)) rfl) ?_
   refine ax_q (q_build rfl) ?_
   refine ax_e (e_st rfl rfl rfl rfl rfl rfl rfl) ?_
   refine ax_nil ?_
   refine cx_keep rfl rfl ?_
   refine cx_ret (retN id [1000] rfl rfl rfl rfl rfl ?_)
   unfold valueF; rw [if_neg h0, if_neg h1]; exact ⟨rfl, rfl⟩


/- (ptr loop.example/g00332/spec.l00Src).row -/
def k_c_row : XCode :=
 .seq (.ops [.op (some 2) (.alloc [.int .i64 0, .int .i64 0, .int .i64 0, .str [], .int .i64 0, .int .i64 0, .str []])])
 (.keep [0, 2] (.seq (.ops [.op (some 4) (.mov (.t 0)),
   .call (some 5) 49 [.t 4, .k (.int .i64 6)],
   .op (some 6) (.mov (.t 0)),
   .call (some 7) 76 [.t 6],
   .op (some 8) (.mov (.t 0)),
   .call (some 9) 76 [.t 8],
   .op (some 10) (.build [.int .i64 0, .int .i64 0, .int .i64 0, .str [], .int .i64 0, .int .i64 0, .str []] [(0, 1, .t 5), (1, 3, .t 7), (4, 3, .t 9)]),
   .op (some 3) (.alloc [.int .i64 0, .int .i64 0, .int .i64 0, .str [], .int .i64 0, .int .i64 0, .str []]),
   .op none (.store 7 (.t 3) (.t 10))])
 (.keep [0, 2, 3] (.seq (.seq (.ops [.op (some 11) (.fadr (.t 3) 1),
   .op (some 12) (.fadr (.t 11) 0),
   .op (some 13) (.load1 (.t 12)),
   .op (some 14) (.bin .eql (.t 13) (.k (.int .i64 2)))])
  (.keep [0, 2, 3, 14] (.cond (.t 14)
  (.ops [.op (some 15) (.mov (.t 0)),
    .call (some 16) 49 [.t 15, .k (.int .i64 9)],
    .op (some 17) (.build [.int .i64 0, .int .i64 0, .str []] [(0, 1, .k (.int .i64 1)), (1, 1, .t 16)]),
    .op (some 18) (.fadr (.t 3) 1),
    .op none (.store 3 (.t 18) (.t 17))])
  (.skip))))
 (.keep [0, 2, 3] (.seq (.seq (.ops [.op (some 19) (.fadr (.t 3) 4),
   .op (some 20) (.fadr (.t 19) 0),
   .op (some 21) (.load1 (.t 20)),
   .op (some 22) (.bin .eql (.t 21) (.k (.int .i64 1)))])
  (.keep [0, 2, 3, 22] (.cond (.t 22)
  (.ops [.op (some 23) (.mov (.t 0)),
    .op (some 24) (.bslice 1 [.k (.str [97]), .k (.str [98]), .k (.str [110, 97, 109, 101])]),
    .call (some 25) 77 [.t 23, .t 24],
    .op (some 26) (.build [.int .i64 0, .int .i64 0, .str []] [(0, 1, .k (.int .i64 2)), (2, 1, .t 25)]),
    .op (some 27) (.fadr (.t 3) 4),
    .op none (.store 3 (.t 27) (.t 26))])
  (.skip))))
 (.keep [2, 3] (.seq (.ops [.op (some 28) (.loadN 7 (.t 3)),
   .op none (.store 7 (.t 2) (.t 28))])
 (.keep [2] (.ret))))))))))
theorem k_c_row_fits : fitsF Try.prog 50 ⟨29, k_c_row, [.cN 2 7]⟩ = true := by kernel_rfl
theorem c_row {s : Src} {n : Nat} (hs : s.ok (n + 33)) : Con Try.prog noMv 50 [.ptr 1000 0] (s.h 1000) (fun r h => r = (rowF s).1.av ∧ h = ((rowF s).2).h 1000) := by
 refine con_of2 k_c_row_fits rfl fun C hP hmv => ?_
 unfold k_c_row
 obtain ⟨k1, k2, k3⟩ := nextF_ok (s := s) (n := 6) (k := n + 30) hs
 obtain ⟨k4, k5⟩ := valueF_ok (n := n + 18) k1
 obtain ⟨k6, k7⟩ := valueF_ok (n := n + 6) k4
 obtain ⟨k8, k9, k10⟩ := rowN_ok (s := rowS0 s) (n := n + 3) k5 k6
 refine cx_seq ?_
 refine cx_ops ?_
 refine ax_e (e_alloc (by decide) rfl rfl) ?_
 refine ax_nil ?_
 refine cx_keep rfl rfl ?_
 refine cx_seq ?_
 refine cx_ops ?_
 refine ax_q (q_mov rfl) ?_
 refine ax_call rfl (vcall_own (c_next (n := n + 30) ?_) hP hmv false (fun _ => 1000) [1000] ⟨rfl, rfl, rfl, rfl, ⟨rfl, trivial⟩, rfl, rfl, rfl⟩ (.pass rfl rfl (.pass rfl rfl .nil)) ?_)
 ·
  first | assumption | omega | (simp; done) | (simp; omega)
 rintro r h ⟨rfl, rfl⟩
 refine ⟨fun _ => 1000, [], ⟨rfl, rfl, rfl, rfl, mem1 rfl, rfl, rfl, fun h => absurd h Bool.false_ne_true⟩, ?_⟩
 refine ax_q (q_mov rfl) ?_
 refine ax_call rfl (vcall_own (c_value (n := n + 18) ?_) hP hmv false (fun _ => 1000) [1000] ⟨rfl, rfl, rfl, rfl, ⟨rfl, trivial⟩, rfl, rfl, rfl⟩ (.pass rfl rfl .nil) ?_)
 ·
  first | assumption | omega | (simp; done) | (simp; omega)
 rintro r h ⟨rfl, rfl⟩
 refine ⟨fun _ => 1000, [], ⟨rfl, rfl, rfl, rfl, mem1 rfl, rfl, rfl, fun h => absurd h Bool.false_ne_true⟩, ?_⟩
 refine ax_q (q_mov rfl) ?_
 refine ax_call rfl (vcall_own (c_value (n := n + 6) ?_) hP hmv false (fun _ => 1000) [1000] ⟨rfl, rfl, rfl, rfl, ⟨rfl, trivial⟩, rfl, rfl, rfl⟩ (.pass rfl rfl .nil) ?_)
 ·
  first | assumption | omega | (simp; done) | (simp; omega)
 rintro r h ⟨rfl, rfl⟩
 refine ⟨fun _ => 1000, [], ⟨rfl, rfl, rfl, rfl, mem1 rfl, rfl, rfl, fun h => absurd h Bool.false_ne_true⟩, ?_⟩
 refine ax_q (q_build rfl) ?_
 refine ax_e (e_alloc (by decide) rfl rfl) ?_
 refine ax_e (e_st rfl rfl rfl rfl rfl rfl rfl) ?_
 refine ax_nil ?_
 refine cx_keep rfl rfl ?_
 refine cx_seq ?_
 refine cx_seq ?_
 refine cx_ops ?_
 refine ax_q (q_fadr_ptr rfl) ?_
 refine ax_q (q_fadr_ptr rfl) ?_
 refine ax_q (q_load1_ptr rfl rfl rfl) ?_
 refine ax_q (q_ibin rfl rfl rfl) ?_
 refine ax_nil ?_
 refine cx_keep rfl rfl ?_
 refine cx_cond rfl (fun h0 => ?_) (fun h0 => ?_)
 ·
  have h0 := dT h0
  have e0 : rowN (valueF (nextF s 6).2).1 (rowS0 s) = (vI (nextF (rowS0 s) 9).1, (nextF (rowS0 s) 9).2) := by unfold rowN; rw [if_pos h0]
  have e1 : rowS1 s = (nextF (rowS0 s) 9).2 := by unfold rowS1; rw [e0]
  refine cx_ops ?_
  refine ax_q (q_mov rfl) ?_
  refine ax_call rfl (vcall_own (c_next (s := rowS0 s) (n := n + 3) ?_) hP hmv false (fun _ => 1000) [1000] ⟨rfl, rfl, rfl, rfl, ⟨rfl, trivial⟩, rfl, rfl, rfl⟩ (.pass rfl rfl (.pass rfl rfl .nil)) ?_)
  ·
   exact Src.ok.mono k6 (by omega)
  rintro r h ⟨rfl, rfl⟩
  refine ⟨fun _ => 1000, [], ⟨rfl, rfl, rfl, rfl, mem1 rfl, rfl, rfl, fun h => absurd h Bool.false_ne_true⟩, ?_⟩
  refine ax_q (q_build rfl) ?_
  refine ax_q (q_fadr_ptr rfl) ?_
  refine ax_e (e_st rfl rfl rfl rfl rfl rfl rfl) ?_
  refine ax_nil ?_
  refine cx_keep rfl rfl ?_
  refine cx_seq ?_
  refine cx_seq ?_
  refine cx_ops ?_
  refine ax_q (q_fadr_ptr rfl) ?_
  refine ax_q (q_fadr_ptr rfl) ?_
  refine ax_q (q_load1_ptr rfl rfl rfl) ?_
  refine ax_q (q_ibin rfl rfl rfl) ?_
  refine ax_nil ?_
  refine cx_keep rfl rfl ?_
  refine cx_cond rfl (fun h1 => ?_) (fun h1 => ?_)
  ·
   have h1 := dT h1
   refine cx_ops ?_
   refine ax_q (q_mov rfl) ?_
   refine ax_e (e_bslice rfl (by decide) rfl rfl) ?_
   refine ax_wk (wk_frz 24 24 rfl rfl (.whole rfl) rfl) ?_
   refine ax_call rfl (vcall_own (c_pick (s := (nextF (rowS0 s) 9).2) (ts := nTexts) (n := n) (by rw [← e1]; exact k8) (by decide)) hP hmv false (fun _ => 1000) [1000] ⟨rfl, rfl, rfl, rfl, ⟨rfl, trivial⟩, rfl, rfl, rfl⟩ (.pass rfl rfl (.pass rfl rfl .nil)) ?_)
   rintro r h ⟨rfl, rfl⟩
   refine ⟨fun _ => 1000, [], ⟨rfl, rfl, rfl, rfl, mem1 rfl, rfl, rfl, fun h => absurd h Bool.false_ne_true⟩, ?_⟩
   refine ax_q (q_build rfl) ?_
   refine ax_q (q_fadr_ptr rfl) ?_
   refine ax_e (e_st rfl rfl rfl rfl rfl rfl rfl) ?_
   refine ax_nil ?_
   refine cx_keep rfl rfl ?_
   refine cx_seq ?_
   refine cx_ops ?_
   refine ax_q (q_ldN rfl rfl rfl) ?_
   refine ax_e (e_st rfl rfl rfl rfl rfl rfl rfl) ?_
   refine ax_nil ?_
   refine cx_keep rfl rfl ?_
   refine cx_ret (retN id [1000] rfl rfl rfl rfl rfl ?_)
   have e : rowF s = (⟨(nextF s 6).1, vI (nextF (rowS0 s) 9).1, ⟨2, 0, (pickF (nextF (rowS0 s) 9).2 nTexts).1⟩⟩, (pickF (nextF (rowS0 s) 9).2 nTexts).2) := by unfold rowF; rw [e0]; unfold rowM; rw [if_pos (by exact h1), e1]
   rw [e]; exact ⟨rfl, rfl⟩
  ·
   have h1 := dF h1
   refine cx_skip ?_
   refine cx_keep rfl rfl ?_
   refine cx_seq ?_
   refine cx_ops ?_
   refine ax_q (q_ldN rfl rfl rfl) ?_
   refine ax_e (e_st rfl rfl rfl rfl rfl rfl rfl) ?_
   refine ax_nil ?_
   refine cx_keep rfl rfl ?_
   refine cx_ret (retN id [1000] rfl rfl rfl rfl rfl ?_)
   have e : rowF s = (⟨(nextF s 6).1, vI (nextF (rowS0 s) 9).1, (valueF (valueF (nextF s 6).2).2).1⟩, (nextF (rowS0 s) 9).2) := by unfold rowF; rw [e0]; unfold rowM; rw [if_neg (by exact h1), e1]
   rw [e]; exact ⟨rfl, rfl⟩
 ·
  have h0 := dF h0
  have e0 : rowN (valueF (nextF s 6).2).1 (rowS0 s) = ((valueF (nextF s 6).2).1, rowS0 s) := by unfold rowN; rw [if_neg h0]
  have e1 : rowS1 s = rowS0 s := by unfold rowS1; rw [e0]
  refine cx_skip ?_
  refine cx_keep rfl rfl ?_
  refine cx_seq ?_
  refine cx_seq ?_
  refine cx_ops ?_
  refine ax_q (q_fadr_ptr rfl) ?_
  refine ax_q (q_fadr_ptr rfl) ?_
  refine ax_q (q_load1_ptr rfl rfl rfl) ?_
  refine ax_q (q_ibin rfl rfl rfl) ?_
  refine ax_nil ?_
  refine cx_keep rfl rfl ?_
  refine cx_cond rfl (fun h1 => ?_) (fun h1 => ?_)
  ·
   have h1 := dT h1
   refine cx_ops ?_
   refine ax_q (q_mov rfl) ?_
   refine ax_e (e_bslice rfl (by decide) rfl rfl) ?_
   refine ax_wk (wk_frz 24 24 rfl rfl (.whole rfl) rfl) ?_
   refine ax_call rfl (vcall_own (c_pick (s := rowS0 s) (ts := nTexts) (n := n) (by rw [← e1]; exact k8) (by decide)) hP hmv false (fun _ => 1000) [1000] ⟨rfl, rfl, rfl, rfl, ⟨rfl, trivial⟩, rfl, rfl, rfl⟩ (.pass rfl rfl (.pass rfl rfl .nil)) ?_)
   rintro r h ⟨rfl, rfl⟩
   refine ⟨fun _ => 1000, [], ⟨rfl, rfl, rfl, rfl, mem1 rfl, rfl, rfl, fun h => absurd h Bool.false_ne_true⟩, ?_⟩
   refine ax_q (q_build rfl) ?_
   refine ax_q (q_fadr_ptr rfl) ?_
   refine ax_e (e_st rfl rfl rfl rfl rfl rfl rfl) ?_
   refine ax_nil ?_
   refine cx_keep rfl rfl ?_
   refine cx_seq ?_
   refine cx_ops ?_
   refine ax_q (q_ldN rfl rfl rfl) ?_
   refine ax_e (e_st rfl rfl rfl rfl rfl rfl rfl) ?_
   refine ax_nil ?_
   refine cx_keep rfl rfl ?_
   refine cx_ret (retN id [1000] rfl rfl rfl rfl rfl ?_)
   have e : rowF s = (⟨(nextF s 6).1, (valueF (nextF s 6).2).1, ⟨2, 0, (pickF (rowS0 s) nTexts).1⟩⟩, (pickF (rowS0 s) nTexts).2) := by unfold rowF; rw [e0]; unfold rowM; rw [if_pos (by exact h1), e1]
   rw [e]; exact ⟨rfl, rfl⟩
  ·
   have h1 := dF h1
   refine cx_skip ?_
   refine cx_keep rfl rfl ?_
   refine cx_seq ?_
   refine cx_ops ?_
   refine ax_q (q_ldN rfl rfl rfl) ?_
   refine ax_e (e_st rfl rfl rfl rfl rfl rfl rfl) ?_
   refine ax_nil ?_
   refine cx_keep rfl rfl ?_
   refine cx_ret (retN id [1000] rfl rfl rfl rfl rfl ?_)
   have e : rowF s = (⟨(nextF s 6).1, (valueF (nextF s 6).2).1, (valueF (valueF (nextF s 6).2).2).1⟩, rowS0 s) := by unfold rowF; rw [e0]; unfold rowM; rw [if_neg (by exact h1), e1]
   rw [e]; exact ⟨rfl, rfl⟩


/- (ptr loop.example/g00332/spec.l00Src).chance -/
def k_c_chance : XCode :=
 .seq (.ops [.op (some 4) (.mov (.k (.bool false)))])
 (.keep [0, 1] (.seq (.ops [.op (some 5) (.mov (.t 0)),
   .op (some 6) (.mov (.t 1)),
   .call (some 7) 49 [.t 5, .t 6],
   .op (some 8) (.mov (.t 1)),
   .op (some 9) (.bin .sub (.t 8) (.k (.int .i64 1))),
   .op (some 10) (.bin .eql (.t 7) (.t 9)),
   .op (some 4) (.mov (.t 10))])
 (.keep [4] (.ret))))
theorem k_c_chance_fits : fitsF Try.prog 51 ⟨11, k_c_chance, [.t 4]⟩ = true := by kernel_rfl
theorem c_chance {s : Src} {m : Int} {n : Nat} (hs : s.ok (n + 3)) (hm : 0 ≤ m ∧ m ≤ 1000000000) : Con Try.prog noMv 51 [.ptr 1000 0, int m] (s.h 1000) (fun r h => r = bool (chanceF s m).1 ∧ h = ((chanceF s m).2).h 1000) := by
 refine con_of2 k_c_chance_fits rfl fun C hP hmv => ?_
 unfold k_c_chance
 refine cx_seq ?_
 refine cx_ops ?_
 refine ax_q (q_mov rfl) ?_
 refine ax_nil ?_
 refine cx_keep rfl rfl ?_
 refine cx_seq ?_
 refine cx_ops ?_
 refine ax_q (q_mov rfl) ?_
 refine ax_q (q_mov rfl) ?_
 refine ax_call rfl (vcall_own (c_next (n := n) ?_) hP hmv false (fun _ => 1000) [1000] ⟨rfl, rfl, rfl, rfl, ⟨rfl, trivial⟩, rfl, rfl, rfl⟩ (.pass rfl rfl (.pass rfl rfl .nil)) ?_)
 ·
  first | assumption | omega | (simp; done) | (simp; omega)
 rintro r h ⟨rfl, rfl⟩
 refine ⟨fun _ => 1000, [], ⟨rfl, rfl, rfl, rfl, mem1 rfl, rfl, rfl, fun h => absurd h Bool.false_ne_true⟩, ?_⟩
 refine ax_q (q_mov rfl) ?_
 refine ax_q (q_sub rfl rfl (by omega)) ?_
 refine ax_q (q_ibin rfl rfl rfl) ?_
 refine ax_q (q_mov rfl) ?_
 refine ax_nil ?_
 refine cx_keep rfl rfl ?_
 refine cx_ret (retN id [1000] rfl rfl rfl rfl rfl ?_)
 exact ⟨rfl, rfl⟩


/- (ptr loop.example/g00332/spec.l00Src).rowList -/
def k_c_rowList : XCode :=
 .seq (.ops [.op (some 2) (.mov (.k (.nils 7)))])
 (.keep [0] (.seq (.ops [.op (some 6) (.bslice 7 []),
   .op (some 3) (.mov (.t 6))])
 (.keep [0, 3] (.seq (.seq (.ops [.op (some 4) (.mov (.k (.int .i64 0)))])
  (.keep [0, 3, 4] (.block 0 (.loop (.seq (.seq (.ops [.op (some 7) (.mov (.t 4)),
     .op (some 8) (.bin .lss (.t 7) (.k (.int .i64 6)))])
   (.keep [0, 3, 4, 8] (.cond (.t 8)
    (.skip)
    (.exit 0))))
   (.keep [0, 3, 4] (.seq (.block 1 (.seq (.ops [.op (some 11) (.mov (.t 0)),
     .call (some 12) 51 [.t 11, .k (.int .i64 2)]])
    (.keep [0, 3, 4, 12] (.cond (.t 12)
    (.seq (.ops [.op (some 13) (.mov (.t 0)),
      .call (some 14) 50 [.t 13],
      .op (some 5) (.alloc [.int .i64 0, .int .i64 0, .int .i64 0, .str [], .int .i64 0, .int .i64 0, .str []]),
      .op none (.store 7 (.t 5) (.t 14))])
     (.keep [0, 3, 4, 5] (.seq (.ops [.op (some 15) (.mov (.t 4)),
      .op (some 16) (.fadr (.t 5) 0),
      .op none (.store 1 (.t 16) (.t 15))])
     (.keep [0, 3, 4, 5] (.ops [.op (some 17) (.mov (.t 3)),
      .op (some 18) (.loadN 7 (.t 5)),
      .op (some 19) (.bslice 7 [.t 18]),
      .op (some 20) (.app 7 72 [.int .i64 0, .int .i64 0, .int .i64 0, .str [], .int .i64 0, .int .i64 0, .str []] (.t 17) (.t 19)),
      .op (some 3) (.mov (.t 20))])))))
    (.skip)))))
   (.keep [0, 3, 4] (.ops [.op (some 9) (.mov (.t 4)),
    .op (some 10) (.bin .add (.t 9) (.k (.int .i64 1))),
    .op (some 4) (.mov (.t 10))])))))))))
 (.keep [3] (.seq (.ops [.op (some 21) (.mov (.t 3)),
   .op (some 2) (.mov (.t 21))])
 (.keep [2] (.ret))))))))
theorem k_c_rowList_fits : fitsF Try.prog 39 ⟨22, k_c_rowList, [.t 2]⟩ = true := by kernel_rfl
theorem c_rowList {s : Src} (hs : s.ok 100000) : Con Try.prog noMv 39 [.ptr 1000 0] [(1000, s.box)] (fun r h => ∃ (l : List GRow) (s2 : Src), RG l 6 ∧ r = .osl 0 7 0 l.length ∧ h = [(0, .rows 7 (l.map GRow.row)), (1000, s2.box)]) := by
 refine con_of2 k_c_rowList_fits rfl fun C hP hmv => ?_
 unfold k_c_rowList
 refine cx_seq ?_
 refine cx_ops ?_
 refine ax_q (q_mov rfl) ?_
 refine ax_nil ?_
 refine cx_keep rfl rfl ?_
 refine cx_seq ?_
 refine cx_ops ?_
 refine ax_e (e_bslice rfl (by decide) rfl rfl) ?_
 refine ax_q (q_mov rfl) ?_
 refine ax_nil ?_
 refine cx_keep rfl rfl ?_
 refine cx_seq ?_
 refine cx_seq ?_
 refine cx_ops ?_
 refine ax_q (q_mov rfl) ?_
 refine ax_nil ?_
 refine cx_keep rfl rfl ?_
 refine cx_block ?_
 refine cx_loopU (fun n (p : Nat × Src × List GRow) => p.1 ≤ 6 ∧ n = 6 - p.1 ∧ p.2.1.ok (1000 + 60 * (6 - p.1)) ∧ RG p.2.2 p.1) (fun p => [(4, int p.1), (3, .osl 6 7 0 p.2.2.length)]) (fun p => [(1000, p.2.1.box), (6, .rows 7 (p.2.2.map GRow.row))])
  ⟨_, (0, s, []), ⟨Nat.zero_le _, rfl, hs.mono (by simp only; omega), RG.nil⟩, by repeat (first | exact trivial | refine ⟨rfl, ?_⟩ | refine ⟨?_, ?_⟩)⟩ ?_
 rintro n ⟨i, u, l⟩ ⟨hi, rfl, hu, hl⟩
 simp only at hi hu hl ⊢
 refine cx_seq ?_
 refine cx_seq ?_
 refine cx_ops ?_
 refine ax_q (q_mov rfl) ?_
 refine ax_q (q_ibin rfl rfl rfl) ?_
 refine ax_nil ?_
 refine cx_keep rfl rfl ?_
 refine cx_cond rfl (fun h0 => ?_) (fun h0 => ?_)
 ·
  have h0 := dT h0
  have hll := hl.ln
  have k1 := chanceF_ok (s := u) (m := 2) (n := 1000 + 60 * (5 - i) + 50) (hu.mono (by omega))
  refine cx_skip ?_
  refine cx_keep rfl rfl ?_
  refine cx_seq ?_
  refine cx_block ?_
  refine cx_seq ?_
  refine cx_ops ?_
  refine ax_q (q_mov rfl) ?_
  refine ax_call rfl (vcall_own (c_chance (n := 1000 + 60 * (5 - i) + 50) ?_ ?_) hP hmv false (fun _ => 1000) [1000] ⟨rfl, rfl, rfl, rfl, ⟨rfl, trivial⟩, rfl, rfl, rfl⟩ (.pass rfl rfl (.pass rfl rfl .nil)) ?_)
  ·
   exact hu.mono (by omega)
  ·
   first | assumption | omega | (simp; done) | (simp; omega)
  rintro r h ⟨rfl, rfl⟩
  refine ⟨fun _ => 1000, [], ⟨rfl, rfl, rfl, rfl, mem1 rfl, rfl, rfl, fun h => absurd h Bool.false_ne_true⟩, ?_⟩
  refine ax_nil ?_
  refine cx_keep rfl rfl ?_
  refine cx_cond rfl (fun h1 => ?_) (fun h1 => ?_)
  ·
   skip
   obtain ⟨k2, k3⟩ := rowF_ok (s := (chanceF u 2).2) (n := 1000 + 60 * (5 - i)) (k1.mono (by omega))
   refine cx_seq ?_
   refine cx_ops ?_
   refine ax_q (q_mov rfl) ?_
   refine ax_call rfl (vcall_own (c_row (n := 1000 + 60 * (5 - i)) ?_) hP hmv false (fun _ => 1000) [1000] ⟨rfl, rfl, rfl, rfl, ⟨rfl, trivial⟩, rfl, rfl, rfl⟩ (.pass rfl rfl .nil) ?_)
   ·
    exact k1.mono (by omega)
   rintro r h ⟨rfl, rfl⟩
   refine ⟨fun _ => 1000, [], ⟨rfl, rfl, rfl, rfl, mem1 rfl, rfl, rfl, fun h => absurd h Bool.false_ne_true⟩, ?_⟩
   refine ax_e (e_alloc (by decide) rfl rfl) ?_
   refine ax_e (e_st rfl rfl rfl rfl rfl rfl rfl) ?_
   refine ax_nil ?_
   refine cx_keep rfl rfl ?_
   refine cx_seq ?_
   refine cx_ops ?_
   refine ax_q (q_mov rfl) ?_
   refine ax_q (q_fadr_ptr rfl) ?_
   refine ax_e (e_st rfl rfl rfl rfl rfl rfl rfl) ?_
   refine ax_nil ?_
   refine cx_keep rfl rfl ?_
   refine cx_ops ?_
   refine ax_q (q_mov rfl) ?_
   refine ax_q (q_ldN rfl rfl rfl) ?_
   refine ax_e (e_bslice rfl (by decide) rfl rfl) ?_
   refine ax_e (e_appn (n' := (l ++ [(⟨i, (rowF (chanceF u 2).2).1.N, (rowF (chanceF u 2).2).1.Name⟩ : GRow)]).length) (rs' := (l ++ [(⟨i, (rowF (chanceF u 2).2).1.N, (rowF (chanceF u 2).2).1.Name⟩ : GRow)]).map GRow.row) rfl rfl (by simp) rfl (src_osl rfl (by simp)) (.inl (by decide)) (hbnd (by omega) (by simp) (by decide)) (by simp) (app1 rfl)) ?_
   refine ax_q (q_mov rfl) ?_
   refine ax_nil ?_
   refine cx_keep rfl rfl ?_
   refine cx_ops ?_
   refine ax_q (q_mov rfl) ?_
   refine ax_qe (r' := int ((i + 1 : Nat) : Int)) (q_ibin rfl rfl rfl) (by rw [wi (by omega) (by omega)]; rfl) ?_
   refine ax_q (q_mov rfl) ?_
   refine ax_nil ?_
   exact ⟨_, (i + 1, (rowF (chanceF u 2).2).2, l ++ [(⟨i, (rowF (chanceF u 2).2).1.N, (rowF (chanceF u 2).2).1.Name⟩ : GRow)]), by simp only; omega, ⟨by simp only; omega, rfl, k2.mono (by simp only; omega), hl.app (rowOK_id k3 (by omega)) rfl⟩, by repeat (first | exact trivial | refine ⟨rfl, ?_⟩ | refine ⟨?_, ?_⟩)⟩
  ·
   skip
   refine cx_skip ?_
   refine cx_keep rfl rfl ?_
   refine cx_ops ?_
   refine ax_q (q_mov rfl) ?_
   refine ax_qe (r' := int ((i + 1 : Nat) : Int)) (q_ibin rfl rfl rfl) (by rw [wi (by omega) (by omega)]; rfl) ?_
   refine ax_q (q_mov rfl) ?_
   refine ax_nil ?_
   exact ⟨_, (i + 1, (chanceF u 2).2, l), by simp only; omega, ⟨by simp only; omega, rfl, k1.mono (by simp only; omega), hl.more⟩, by repeat (first | exact trivial | refine ⟨rfl, ?_⟩ | refine ⟨?_, ?_⟩)⟩
 ·
  have h0 := dF h0
  obtain rfl : i = 6 := by omega
  refine cx_exit rfl ?_
  refine cx_keep rfl rfl ?_
  refine cx_seq ?_
  refine cx_ops ?_
  refine ax_q (q_mov rfl) ?_
  refine ax_q (q_mov rfl) ?_
  refine ax_nil ?_
  refine cx_keep rfl rfl ?_
  refine cx_ret (retN (fun e => bif Nat.beq e 6 then 0 else e) [6, 1000] rfl rfl rfl rfl rfl ?_)
  exact ⟨l, u, hl, rfl, rfl⟩


/- loop.example/g00332/spec.RowsOf -/
def k_c_RowsOf : XCode :=
 .seq (.ops [.op (some 2) (.mov (.k (.nils 7)))])
 (.keep [0] (.seq (.ops [.op (some 3) (.mov (.t 0)),
   .call (some 4) 25 [.t 3],
   .call (some 5) 39 [.t 4],
   .op (some 2) (.mov (.t 5))])
 (.keep [2] (.ret))))
theorem k_c_RowsOf_fits : fitsF Try.prog 19 ⟨6, k_c_RowsOf, [.t 2]⟩ = true := by kernel_rfl
theorem c_RowsOf {code : Str} (hl : code.length ≤ 1048576) : Con Try.prog noMv 19 [.d (.sl 1 (code.map byteRow))] [] (fun r h => ∃ l : List GRow, RG l 6 ∧ r = .osl 0 7 0 l.length ∧ h = [(0, .rows 7 (l.map GRow.row))]) := by
 refine con_of2 k_c_RowsOf_fits rfl fun C hP hmv => ?_
 unfold k_c_RowsOf
 refine cx_seq ?_
 refine cx_ops ?_
 refine ax_q (q_mov rfl) ?_
 refine ax_nil ?_
 refine cx_keep rfl rfl ?_
 refine cx_seq ?_
 refine cx_ops ?_
 refine ax_q (q_mov rfl) ?_
 refine ax_call rfl (vc_pure (c_l00Source hl) hP rfl ?_)
 rintro r h ⟨rfl, rfl⟩
 refine ⟨fun _ => 4, [0], ⟨rfl, rfl, rfl, rfl, rfl, fun h => absurd h Bool.false_ne_true⟩, ?_⟩
 refine ax_call rfl (vcall_own (c_rowList ((srcOf_ok hl).mono (by omega))) hP hmv false (fun _ => 4) [1000] ⟨rfl, rfl, rfl, rfl, ⟨rfl, trivial⟩, rfl, rfl, rfl⟩ (.pass rfl rfl .nil) ?_)
 rintro r h ⟨l, s2, hg, rfl, rfl⟩
 refine ⟨fun e => bif Nat.beq e 1000 then 4 else 5, [0], ⟨rfl, rfl, rfl, rfl, mem1 rfl, rfl, rfl, fun h => absurd h Bool.false_ne_true⟩, ?_⟩
 refine ax_q (q_mov rfl) ?_
 refine ax_nil ?_
 refine cx_keep rfl rfl ?_
 refine cx_ret (retN (fun e => bif Nat.beq e 5 then 0 else e) [5] rfl rfl rfl rfl rfl ?_)
 exact ⟨l, hg, rfl, rfl⟩


/- loop.example/g00332/impl.inRange -/
def k_c_inRange : XCode :=
 .seq (.ops [.op (some 6) (.mov (.k (.bool false)))])
 (.keep [0, 1, 2] (.seq (.ops [.op (some 7) (.mov (.t 1)),
   .op (some 8) (.mov (.t 0)),
   .op (some 9) (.bin .leq (.t 7) (.t 8)),
   .op (some 10) (.mov (.t 9)),
   .andor 14 true 3 10 [.op (some 11) (.mov (.t 0)), .op (some 12) (.mov (.t 2)), .op (some 13) (.bin .leq (.t 11) (.t 12))] (.t 13),
   .op (some 6) (.mov (.t 14))])
 (.keep [6] (.ret))))
theorem k_c_inRange_fits : fitsF Try.prog 55 ⟨15, k_c_inRange, [.t 6]⟩ = true := by kernel_rfl
theorem c_inRange {n lo hi : Int} : Con Try.prog noMv 55 [int n, int lo, int hi] [] (fun r h => r = bool (inR n lo hi) ∧ h = []) := by
 refine con_of2 k_c_inRange_fits rfl fun C hP hmv => ?_
 unfold k_c_inRange
 refine cx_seq ?_
 refine cx_ops ?_
 refine ax_q (q_mov rfl) ?_
 refine ax_nil ?_
 refine cx_keep rfl rfl ?_
 refine cx_seq ?_
 refine cx_ops ?_
 refine ax_q (q_mov rfl) ?_
 refine ax_q (q_mov rfl) ?_
 refine ax_q (q_ibin rfl rfl rfl) ?_
 refine ax_q (q_mov rfl) ?_
 apply ax_and rfl rfl
 ·
  intro g
  have g := dT g
  refine ax_q (q_mov rfl) ?_
  refine ax_q (q_mov rfl) ?_
  refine ax_q (q_ibin rfl rfl rfl) ?_
  exact ax_nil ⟨rfl, by repeat (first | exact trivial | refine ⟨rfl, ?_⟩ | refine ⟨?_, ?_⟩)⟩
 refine ax_q (q_mov rfl) ?_
 refine ax_nil ?_
 refine cx_keep rfl rfl ?_
 refine cx_ret (ret0 rfl rfl ?_)
 exact ⟨rfl, rfl⟩


/- loop.example/g00332/impl.isNumber -/
def k_c_isNumber : XCode :=
 .seq (.ops [.op (some 2) (.mov (.k (.bool false)))])
 (.keep [0] (.seq (.ops [.op (some 3) (.mov (.t 0)),
   .call (some 4) 55 [.t 3, .k (.int .i64 (-1000000000)), .k (.int .i64 1000000000)],
   .op (some 2) (.mov (.t 4))])
 (.keep [2] (.ret))))
theorem k_c_isNumber_fits : fitsF Try.prog 69 ⟨5, k_c_isNumber, [.t 2]⟩ = true := by kernel_rfl
theorem c_isNumber {n : Int} : Con Try.prog noMv 69 [int n] [] (fun r h => r = bool (inR n (-1000000000) 1000000000) ∧ h = []) := by
 refine con_of2 k_c_isNumber_fits rfl fun C hP hmv => ?_
 unfold k_c_isNumber
 refine cx_seq ?_
 refine cx_ops ?_
 refine ax_q (q_mov rfl) ?_
 refine ax_nil ?_
 refine cx_keep rfl rfl ?_
 refine cx_seq ?_
 refine cx_ops ?_
 refine ax_q (q_mov rfl) ?_
 first | refine ax_call rfl (vc_pure0 (c_inRange  ) hP rfl rfl ?_) | refine ax_call rfl (vc_lend0 (c_inRange  ) hP (by repeat (first | exact lal_id _ rfl | exact LAL.nil | refine LAL.cons ?_ ?_ | exact la_id _ rfl | exact LA.lend (lend_whole rfl (by first | (simp; done) | (rw [List.length_map]; rfl))) | refine LA.agg ?_ | refine LA.fn ?_ | refine LA.lend ?_ | exact Lend.d _ | exact Lend.zs _ | exact lend_whole rfl (by first | (simp; done) | (rw [List.length_map]; rfl)) | refine Lend.ptr rfl ?_ | refine Lend.fn ?_ | exact LendL.nil | refine LendL.cons ?_ ?_)) rfl rfl ?_)
 refine ax_q (q_mov rfl) ?_
 refine ax_nil ?_
 refine cx_keep rfl rfl ?_
 refine cx_ret (ret0 rfl rfl ?_)
 exact ⟨rfl, rfl⟩


/- loop.example/g00332/impl.isLetter -/
def k_c_isLetter : XCode :=
 .seq (.ops [.op (some 2) (.mov (.k (.bool false)))])
 (.keep [0] (.seq (.ops [.op (some 3) (.mov (.t 0)),
   .op (some 4) (.bin .geq (.t 3) (.k (.int .u8 97))),
   .op (some 5) (.mov (.t 4)),
   .andor 8 true 2 5 [.op (some 6) (.mov (.t 0)), .op (some 7) (.bin .leq (.t 6) (.k (.int .u8 122)))] (.t 7),
   .op (some 2) (.mov (.t 8))])
 (.keep [2] (.ret))))
theorem k_c_isLetter_fits : fitsF Try.prog 88 ⟨9, k_c_isLetter, [.t 2]⟩ = true := by kernel_rfl
theorem c_isLetter {b : UInt8} : Con Try.prog noMv 88 [.d (.int .u8 b.toNat)] [] (fun r h => r = bool (inR (b.toNat : Int) 97 122) ∧ h = []) := by
 refine con_of2 k_c_isLetter_fits rfl fun C hP hmv => ?_
 unfold k_c_isLetter
 refine cx_seq ?_
 refine cx_ops ?_
 refine ax_q (q_mov rfl) ?_
 refine ax_nil ?_
 refine cx_keep rfl rfl ?_
 refine cx_seq ?_
 refine cx_ops ?_
 refine ax_q (q_mov rfl) ?_
 refine ax_q (q_ibin rfl rfl rfl) ?_
 refine ax_q (q_mov rfl) ?_
 apply ax_and rfl rfl
 ·
  intro g
  have g := dT g
  refine ax_q (q_mov rfl) ?_
  refine ax_q (q_ibin rfl rfl rfl) ?_
  exact ax_nil ⟨rfl, by repeat (first | exact trivial | refine ⟨rfl, ?_⟩ | refine ⟨?_, ?_⟩)⟩
 refine ax_q (q_mov rfl) ?_
 refine ax_nil ?_
 refine cx_keep rfl rfl ?_
 refine cx_ret (ret0 rfl rfl ?_)
 exact ⟨rfl, rfl⟩


/- loop.example/g00332/impl.isWord -/
def k_c_isWord : XCode :=
 .seq (.ops [.op (some 2) (.mov (.k (.bool false)))])
 (.keep [0] (.seq (.seq (.ops [.op (some 4) (.mov (.t 0)),
   .op (some 5) (.lenT (.t 4)),
   .op (some 6) (.mov (.k (.int .i64 0)))])
  (.keep [0, 5, 6] (.block 0 (.loop (.seq (.ops [.op (some 7) (.bin .lss (.t 6) (.t 5))])
   (.keep [0, 5, 6, 7] (.seq (.cond (.t 7)
    (.skip)
    (.exit 0))
   (.keep [0, 5, 6] (.seq (.block 1 (.seq (.ops [.op (some 8) (.mov (.t 6)),
     .op (some 3) (.mov (.t 8))])
    (.keep [0, 3, 5, 6] (.seq (.ops [.op (some 9) (.mov (.t 0)),
     .op (some 10) (.mov (.t 3)),
     .op (some 11) (.idxS (.t 9) (.t 10)),
     .call (some 12) 88 [.t 11],
     .op (some 13) (.not (.t 12))])
    (.keep [0, 5, 6, 13] (.cond (.t 13)
    (.seq (.ops [.op (some 2) (.mov (.k (.bool false)))])
     (.keep [2] (.ret)))
    (.skip)))))))
   (.keep [0, 5, 6] (.ops [.op (some 14) (.bin .add (.t 6) (.k (.int .i64 1))),
    .op (some 6) (.mov (.t 14))])))))))))))
 (.keep [0] (.seq (.ops [.op (some 15) (.mov (.t 0)),
   .op (some 16) (.lenT (.t 15)),
   .op (some 17) (.bin .leq (.t 16) (.k (.int .i64 10))),
   .op (some 2) (.mov (.t 17))])
 (.keep [2] (.ret))))))
theorem k_c_isWord_fits : fitsF Try.prog 70 ⟨18, k_c_isWord, [.t 2]⟩ = true := by kernel_rfl
theorem c_isWord {s : Str} (hs : s.length ≤ 1048576) : Con Try.prog noMv 70 [str s] [] (fun r h => r = bool (isWord s) ∧ h = []) := by
 refine con_of2 k_c_isWord_fits rfl fun C hP hmv => ?_
 unfold k_c_isWord
 refine cx_seq ?_
 refine cx_ops ?_
 refine ax_q (q_mov rfl) ?_
 refine ax_nil ?_
 refine cx_keep rfl rfl ?_
 refine cx_seq ?_
 refine cx_seq ?_
 refine cx_ops ?_
 refine ax_q (q_mov rfl) ?_
 refine ax_q (q_lenT rfl) ?_
 refine ax_q (q_mov rfl) ?_
 refine ax_nil ?_
 refine cx_keep rfl rfl ?_
 refine cx_block ?_
 refine cx_loopU (fun n k => k ≤ s.length ∧ n = s.length - k ∧ ∀ j, j < k → ∀ x, s[j]? = some x → badCh x = false) (fun k : Nat => [(6, int k)]) (fun _ => []) ⟨_, 0, ⟨Nat.zero_le _, rfl, fun j hj => by omega⟩, by repeat (first | exact trivial | refine ⟨rfl, ?_⟩ | refine ⟨?_, ?_⟩)⟩ ?_
 rintro n k ⟨hk, rfl, hb⟩
 refine cx_seq ?_
 refine cx_ops ?_
 refine ax_q (q_ibin rfl rfl rfl) ?_
 refine ax_nil ?_
 refine cx_keep rfl rfl ?_
 refine cx_seq ?_
 refine cx_cond rfl (fun h0 => ?_) (fun h0 => ?_)
 ·
  have h0 := dT h0
  have h0x : k < s.length := by omega
  refine cx_skip ?_
  refine cx_keep rfl rfl ?_
  refine cx_seq ?_
  refine cx_block ?_
  refine cx_seq ?_
  refine cx_ops ?_
  refine ax_q (q_mov rfl) ?_
  refine ax_q (q_mov rfl) ?_
  refine ax_nil ?_
  refine cx_keep rfl rfl ?_
  refine cx_seq ?_
  refine cx_ops ?_
  refine ax_q (q_mov rfl) ?_
  refine ax_q (q_mov rfl) ?_
  refine ax_q (q_idxN rfl rfl (by first | assumption | omega)) ?_
  first | refine ax_call rfl (vc_pure0 (c_isLetter  ) hP rfl rfl ?_) | refine ax_call rfl (vc_lend0 (c_isLetter  ) hP (by repeat (first | exact lal_id _ rfl | exact LAL.nil | refine LAL.cons ?_ ?_ | exact la_id _ rfl | exact LA.lend (lend_whole rfl (by first | (simp; done) | (rw [List.length_map]; rfl))) | refine LA.agg ?_ | refine LA.fn ?_ | refine LA.lend ?_ | exact Lend.d _ | exact Lend.zs _ | exact lend_whole rfl (by first | (simp; done) | (rw [List.length_map]; rfl)) | refine Lend.ptr rfl ?_ | refine Lend.fn ?_ | exact LendL.nil | refine LendL.cons ?_ ?_)) rfl rfl ?_)
  refine ax_q (q_not rfl) ?_
  refine ax_nil ?_
  refine cx_keep rfl rfl ?_
  refine cx_cond rfl (fun h1 => ?_) (fun h1 => ?_)
  ·
   have h1 : badCh s[k] = true := h1
   refine cx_seq ?_
   refine cx_ops ?_
   refine ax_q (q_mov rfl) ?_
   refine ax_nil ?_
   refine cx_keep rfl rfl ?_
   refine cx_ret (ret0 rfl rfl ?_)
   exact ⟨by unfold isWord; rw [any_hit h0x h1] <;> rfl, rfl⟩
  ·
   have h1 : badCh s[k] = false := h1
   refine cx_skip ?_
   refine cx_keep rfl rfl ?_
   refine cx_ops ?_
   refine ax_qe (r' := int ((k + 1 : Nat) : Int)) (q_ibin rfl rfl rfl) (by rw [wi (by omega) (by omega)]; rfl) ?_
   refine ax_q (q_mov rfl) ?_
   refine ax_nil ?_
   exact ⟨_, k + 1, by omega, ⟨by omega, rfl, before_step h0x hb h1⟩, by repeat (first | exact trivial | refine ⟨rfl, ?_⟩ | refine ⟨?_, ?_⟩)⟩
 ·
  have h0 := dF h0
  have h0x : k = s.length := by omega
  refine cx_exit rfl ?_
  refine cx_keep rfl rfl ?_
  refine cx_seq ?_
  refine cx_ops ?_
  refine ax_q (q_mov rfl) ?_
  refine ax_q (q_lenT rfl) ?_
  refine ax_q (q_ibin rfl rfl rfl) ?_
  refine ax_q (q_mov rfl) ?_
  refine ax_nil ?_
  refine cx_keep rfl rfl ?_
  refine cx_ret (ret0 rfl rfl ?_)
  exact ⟨by unfold isWord; rw [any_all (fun i hi => hb i (by omega))] <;> rfl, rfl⟩


/- loop.example/g00332/impl.ValueOK -/
def k_c_ValueOK : XCode :=
 .seq (.ops [.op (some 1) (.box (.t 0)),
   .op (some 2) (.mov (.k (.bool false)))])
 (.keep [1] (.seq (.seq (.ops [.op (some 3) (.fadr (.t 1) 0),
   .op (some 4) (.load1 (.t 3))])
  (.keep [1, 4] (.block 0 (.seq (.ops [.op (some 6) (.bin .eql (.t 4) (.k (.int .i64 0))),
    .op (some 5) (.mov (.t 6))])
  (.keep [1, 4, 5] (.cond (.t 5)
   (.seq (.ops [.op (some 7) (.loadN 3 (.t 1)),
     .op (some 8) (.build [.int .i64 0, .int .i64 0, .str []] []),
     .op (some 9) (.eqs false [0, 0, 2] (.t 7) (.t 8)),
     .op (some 2) (.mov (.t 9))])
   (.keep [2] (.ret)))
   (.seq (.ops [.op (some 11) (.bin .eql (.t 4) (.k (.int .i64 1))),
     .op (some 10) (.mov (.t 11))])
   (.keep [1, 10] (.cond (.t 10)
    (.seq (.ops [.op (some 12) (.fadr (.t 1) 1),
      .op (some 13) (.load1 (.t 12)),
      .call (some 14) 69 [.t 13],
      .op (some 15) (.mov (.t 14)),
      .andor 19 true 3 15 [.op (some 16) (.fadr (.t 1) 2), .op (some 17) (.load1 (.t 16)), .op (some 18) (.bin .eql (.t 17) (.k (.str [])))] (.t 18),
      .op (some 2) (.mov (.t 19))])
    (.keep [2] (.ret)))
    (.skip))))))))))
 (.keep [1] (.seq (.ops [.op (some 20) (.fadr (.t 1) 0),
   .op (some 21) (.load1 (.t 20)),
   .op (some 22) (.bin .eql (.t 21) (.k (.int .i64 2))),
   .op (some 23) (.mov (.t 22)),
   .andor 27 true 3 23 [.op (some 24) (.fadr (.t 1) 1), .op (some 25) (.load1 (.t 24)), .op (some 26) (.bin .eql (.t 25) (.k (.int .i64 0)))] (.t 26),
   .op (some 28) (.mov (.t 27)),
   .andor 32 true 8 28 [.op (some 29) (.fadr (.t 1) 2), .op (some 30) (.load1 (.t 29)), .call (some 31) 70 [.t 30]] (.t 31),
   .op (some 2) (.mov (.t 32))])
 (.keep [2] (.ret))))))
theorem k_c_ValueOK_fits : fitsF Try.prog 45 ⟨33, k_c_ValueOK, [.t 2]⟩ = true := by kernel_rfl
theorem c_ValueOK {v : GValue} (hv : v.T.length ≤ 1048576) : Con Try.prog noMv 45 [v.av] [] (fun r h => r = bool (valueOK v) ∧ h = []) := by
 refine con_of2 k_c_ValueOK_fits rfl fun C hP hmv => ?_
 unfold k_c_ValueOK
 refine cx_seq ?_
 refine cx_ops ?_
 refine ax_e (e_box rfl rfl (by decide) rfl rfl rfl) ?_
 refine ax_q (q_mov rfl) ?_
 refine ax_nil ?_
 refine cx_keep rfl rfl ?_
 refine cx_seq ?_
 refine cx_seq ?_
 refine cx_ops ?_
 refine ax_q (q_fadr_ptr rfl) ?_
 refine ax_q (q_load1_ptr rfl rfl rfl) ?_
 refine ax_nil ?_
 refine cx_keep rfl rfl ?_
 refine cx_block ?_
 refine cx_seq ?_
 refine cx_ops ?_
 refine ax_q (q_ibin rfl rfl rfl) ?_
 refine ax_q (q_mov rfl) ?_
 refine ax_nil ?_
 refine cx_keep rfl rfl ?_
 refine cx_cond rfl (fun h0 => ?_) (fun h0 => ?_)
 ·
  have h0 := dT h0
  refine cx_seq ?_
  refine cx_ops ?_
  refine ax_q (q_ldN rfl rfl rfl) ?_
  refine ax_q (q_build rfl) ?_
  first | refine ax_q (GValue.q_eqs rfl rfl) ?_ | refine ax_q (q_eqs rfl rfl rfl) ?_
  refine ax_q (q_mov rfl) ?_
  refine ax_nil ?_
  refine cx_keep rfl rfl ?_
  refine cx_ret (ret0 rfl rfl ?_)
  exact ⟨by rw [valueOK_0 h0, decide_eq_true h0, Bool.and_true, Bool.true_and] <;> rfl, rfl⟩
 ·
  have h0 := dF h0
  refine cx_seq ?_
  refine cx_ops ?_
  refine ax_q (q_ibin rfl rfl rfl) ?_
  refine ax_q (q_mov rfl) ?_
  refine ax_nil ?_
  refine cx_keep rfl rfl ?_
  refine cx_cond rfl (fun h1 => ?_) (fun h1 => ?_)
  ·
   have h1 := dT h1
   refine cx_seq ?_
   refine cx_ops ?_
   refine ax_q (q_fadr_ptr rfl) ?_
   refine ax_q (q_load1_ptr rfl rfl rfl) ?_
   first | refine ax_call rfl (vc_pure0 (c_isNumber  ) hP rfl rfl ?_) | refine ax_call rfl (vc_lend0 (c_isNumber  ) hP (by repeat (first | exact lal_id _ rfl | exact LAL.nil | refine LAL.cons ?_ ?_ | exact la_id _ rfl | exact LA.lend (lend_whole rfl (by first | (simp; done) | (rw [List.length_map]; rfl))) | refine LA.agg ?_ | refine LA.fn ?_ | refine LA.lend ?_ | exact Lend.d _ | exact Lend.zs _ | exact lend_whole rfl (by first | (simp; done) | (rw [List.length_map]; rfl)) | refine Lend.ptr rfl ?_ | refine Lend.fn ?_ | exact LendL.nil | refine LendL.cons ?_ ?_)) rfl rfl ?_)
   refine ax_q (q_mov rfl) ?_
   apply ax_and rfl rfl
   ·
    intro g
    refine ax_q (q_fadr_ptr rfl) ?_
    refine ax_q (q_load1_ptr rfl rfl rfl) ?_
    refine ax_q (q_sbin rfl rfl rfl) ?_
    exact ax_nil ⟨rfl, by repeat (first | exact trivial | refine ⟨rfl, ?_⟩ | refine ⟨?_, ?_⟩)⟩
   refine ax_q (q_mov rfl) ?_
   refine ax_nil ?_
   refine cx_keep rfl rfl ?_
   refine cx_ret (ret0 rfl rfl ?_)
   exact ⟨by rw [valueOK_1 h1] <;> rfl, rfl⟩
  ·
   have h1 := dF h1
   refine cx_skip ?_
   refine cx_keep rfl rfl ?_
   refine cx_seq ?_
   refine cx_ops ?_
   refine ax_q (q_fadr_ptr rfl) ?_
   refine ax_q (q_load1_ptr rfl rfl rfl) ?_
   refine ax_q (q_ibin rfl rfl rfl) ?_
   refine ax_q (q_mov rfl) ?_
   apply ax_and rfl rfl
   ·
    intro g
    have g := dT g
    refine ax_q (q_fadr_ptr rfl) ?_
    refine ax_q (q_load1_ptr rfl rfl rfl) ?_
    refine ax_q (q_ibin rfl rfl rfl) ?_
    exact ax_nil ⟨rfl, by repeat (first | exact trivial | refine ⟨rfl, ?_⟩ | refine ⟨?_, ?_⟩)⟩
   refine ax_q (q_mov rfl) ?_
   apply ax_and rfl rfl
   ·
    intro g
    have g := (fun h => And.intro (dT (and_T h).1) (dT (and_T h).2)) g
    refine ax_q (q_fadr_ptr rfl) ?_
    refine ax_q (q_load1_ptr rfl rfl rfl) ?_
    first | refine ax_call rfl (vc_pure0 (c_isWord  ?_) hP rfl rfl ?_) | refine ax_call rfl (vc_lend0 (c_isWord  ?_) hP (by repeat (first | exact lal_id _ rfl | exact LAL.nil | refine LAL.cons ?_ ?_ | exact la_id _ rfl | exact LA.lend (lend_whole rfl (by first | (simp; done) | (rw [List.length_map]; rfl))) | refine LA.agg ?_ | refine LA.fn ?_ | refine LA.lend ?_ | exact Lend.d _ | exact Lend.zs _ | exact lend_whole rfl (by first | (simp; done) | (rw [List.length_map]; rfl)) | refine Lend.ptr rfl ?_ | refine Lend.fn ?_ | exact LendL.nil | refine LendL.cons ?_ ?_)) rfl rfl ?_)
    ·
     first | assumption | omega | (simp; done) | (simp; omega)
    exact ax_nil ⟨rfl, by repeat (first | exact trivial | refine ⟨rfl, ?_⟩ | refine ⟨?_, ?_⟩)⟩
   refine ax_q (q_mov rfl) ?_
   refine ax_nil ?_
   refine cx_keep rfl rfl ?_
   refine cx_ret (ret0 rfl rfl ?_)
   exact ⟨by rw [valueOK_2 h0 h1] <;> rfl, rfl⟩


/- loop.example/g00332/impl.isId -/
def k_c_isId : XCode :=
 .seq (.ops [.op (some 2) (.mov (.k (.bool false)))])
 (.keep [0] (.seq (.ops [.op (some 3) (.mov (.t 0)),
   .call (some 4) 55 [.t 3, .k (.int .i64 0), .k (.int .i64 1000)],
   .op (some 2) (.mov (.t 4))])
 (.keep [2] (.ret))))
theorem k_c_isId_fits : fitsF Try.prog 79 ⟨5, k_c_isId, [.t 2]⟩ = true := by kernel_rfl
theorem c_isId {n : Int} : Con Try.prog noMv 79 [int n] [] (fun r h => r = bool (inR n 0 1000) ∧ h = []) := by
 refine con_of2 k_c_isId_fits rfl fun C hP hmv => ?_
 unfold k_c_isId
 refine cx_seq ?_
 refine cx_ops ?_
 refine ax_q (q_mov rfl) ?_
 refine ax_nil ?_
 refine cx_keep rfl rfl ?_
 refine cx_seq ?_
 refine cx_ops ?_
 refine ax_q (q_mov rfl) ?_
 first | refine ax_call rfl (vc_pure0 (c_inRange  ) hP rfl rfl ?_) | refine ax_call rfl (vc_lend0 (c_inRange  ) hP (by repeat (first | exact lal_id _ rfl | exact LAL.nil | refine LAL.cons ?_ ?_ | exact la_id _ rfl | exact LA.lend (lend_whole rfl (by first | (simp; done) | (rw [List.length_map]; rfl))) | refine LA.agg ?_ | refine LA.fn ?_ | refine LA.lend ?_ | exact Lend.d _ | exact Lend.zs _ | exact lend_whole rfl (by first | (simp; done) | (rw [List.length_map]; rfl)) | refine Lend.ptr rfl ?_ | refine Lend.fn ?_ | exact LendL.nil | refine LendL.cons ?_ ?_)) rfl rfl ?_)
 refine ax_q (q_mov rfl) ?_
 refine ax_nil ?_
 refine cx_keep rfl rfl ?_
 refine cx_ret (ret0 rfl rfl ?_)
 exact ⟨rfl, rfl⟩


/- loop.example/g00332/impl.rowOK -/
def k_c_rowOK : XCode :=
 .seq (.ops [.op (some 1) (.box (.t 0)),
   .op (some 2) (.mov (.k (.bool false)))])
 (.keep [1] (.seq (.ops [.op (some 3) (.fadr (.t 1) 0),
   .op (some 4) (.load1 (.t 3)),
   .call (some 5) 79 [.t 4],
   .op (some 6) (.mov (.t 5)),
   .andor 10 true 3 6 [.op (some 7) (.fadr (.t 1) 1), .op (some 8) (.loadN 3 (.t 7)), .call (some 9) 45 [.t 8]] (.t 9),
   .op (some 11) (.mov (.t 10)),
   .andor 16 true 8 11 [.op (some 12) (.fadr (.t 1) 1), .op (some 13) (.fadr (.t 12) 0), .op (some 14) (.load1 (.t 13)), .op (some 15) (.bin .neq (.t 14) (.k (.int .i64 2)))] (.t 15),
   .op (some 17) (.mov (.t 16)),
   .andor 21 true 14 17 [.op (some 18) (.fadr (.t 1) 4), .op (some 19) (.loadN 3 (.t 18)), .call (some 20) 45 [.t 19]] (.t 20),
   .op (some 22) (.mov (.t 21)),
   .andor 27 true 19 22 [.op (some 23) (.fadr (.t 1) 4), .op (some 24) (.fadr (.t 23) 0), .op (some 25) (.load1 (.t 24)), .op (some 26) (.bin .neq (.t 25) (.k (.int .i64 1)))] (.t 26),
   .op (some 2) (.mov (.t 27))])
 (.keep [2] (.ret))))
theorem k_c_rowOK_fits : fitsF Try.prog 54 ⟨28, k_c_rowOK, [.t 2]⟩ = true := by kernel_rfl
theorem c_rowOK {a : GRow} (hv : a.N.T.length ≤ 1048576) (hw : a.Name.T.length ≤ 1048576) : Con Try.prog noMv 54 [a.av] [] (fun r h => r = bool (rowOK a) ∧ h = []) := by
 refine con_of2 k_c_rowOK_fits rfl fun C hP hmv => ?_
 unfold k_c_rowOK
 refine cx_seq ?_
 refine cx_ops ?_
 refine ax_e (e_box rfl rfl (by decide) rfl rfl rfl) ?_
 refine ax_q (q_mov rfl) ?_
 refine ax_nil ?_
 refine cx_keep rfl rfl ?_
 refine cx_seq ?_
 refine cx_ops ?_
 refine ax_q (q_fadr_ptr rfl) ?_
 refine ax_q (q_load1_ptr rfl rfl rfl) ?_
 first | refine ax_call rfl (vc_pure0 (c_isId  ) hP rfl rfl ?_) | refine ax_call rfl (vc_lend0 (c_isId  ) hP (by repeat (first | exact lal_id _ rfl | exact LAL.nil | refine LAL.cons ?_ ?_ | exact la_id _ rfl | exact LA.lend (lend_whole rfl (by first | (simp; done) | (rw [List.length_map]; rfl))) | refine LA.agg ?_ | refine LA.fn ?_ | refine LA.lend ?_ | exact Lend.d _ | exact Lend.zs _ | exact lend_whole rfl (by first | (simp; done) | (rw [List.length_map]; rfl)) | refine Lend.ptr rfl ?_ | refine Lend.fn ?_ | exact LendL.nil | refine LendL.cons ?_ ?_)) rfl rfl ?_)
 refine ax_q (q_mov rfl) ?_
 apply ax_and rfl rfl
 ·
  intro g
  refine ax_q (q_fadr_ptr rfl) ?_
  refine ax_q (q_ldN rfl rfl rfl) ?_
  first | refine ax_call rfl (vc_pure0 (c_ValueOK (v := a.N) ?_) hP rfl rfl ?_) | refine ax_call rfl (vc_lend0 (c_ValueOK (v := a.N) ?_) hP (by repeat (first | exact lal_id _ rfl | exact LAL.nil | refine LAL.cons ?_ ?_ | exact la_id _ rfl | exact LA.lend (lend_whole rfl (by first | (simp; done) | (rw [List.length_map]; rfl))) | refine LA.agg ?_ | refine LA.fn ?_ | refine LA.lend ?_ | exact Lend.d _ | exact Lend.zs _ | exact lend_whole rfl (by first | (simp; done) | (rw [List.length_map]; rfl)) | refine Lend.ptr rfl ?_ | refine Lend.fn ?_ | exact LendL.nil | refine LendL.cons ?_ ?_)) rfl rfl ?_)
  ·
   first | assumption | omega | (simp; done) | (simp; omega)
  exact ax_nil ⟨rfl, by repeat (first | exact trivial | refine ⟨rfl, ?_⟩ | refine ⟨?_, ?_⟩)⟩
 refine ax_q (q_mov rfl) ?_
 apply ax_and rfl rfl
 ·
  intro g
  have g := (fun h => And.intro (id (and_T h).1) (id (and_T h).2)) g
  refine ax_q (q_fadr_ptr rfl) ?_
  refine ax_q (q_fadr_ptr rfl) ?_
  refine ax_q (q_load1_ptr rfl rfl rfl) ?_
  refine ax_q (q_ibin rfl rfl rfl) ?_
  exact ax_nil ⟨rfl, by repeat (first | exact trivial | refine ⟨rfl, ?_⟩ | refine ⟨?_, ?_⟩)⟩
 refine ax_q (q_mov rfl) ?_
 apply ax_and rfl rfl
 ·
  intro g
  have g := (fun h => And.intro ((fun h => And.intro (id (and_T h).1) (id (and_T h).2)) (and_T h).1) (nT (and_T h).2)) g
  refine ax_q (q_fadr_ptr rfl) ?_
  refine ax_q (q_ldN rfl rfl rfl) ?_
  first | refine ax_call rfl (vc_pure0 (c_ValueOK (v := a.Name) ?_) hP rfl rfl ?_) | refine ax_call rfl (vc_lend0 (c_ValueOK (v := a.Name) ?_) hP (by repeat (first | exact lal_id _ rfl | exact LAL.nil | refine LAL.cons ?_ ?_ | exact la_id _ rfl | exact LA.lend (lend_whole rfl (by first | (simp; done) | (rw [List.length_map]; rfl))) | refine LA.agg ?_ | refine LA.fn ?_ | refine LA.lend ?_ | exact Lend.d _ | exact Lend.zs _ | exact lend_whole rfl (by first | (simp; done) | (rw [List.length_map]; rfl)) | refine Lend.ptr rfl ?_ | refine Lend.fn ?_ | exact LendL.nil | refine LendL.cons ?_ ?_)) rfl rfl ?_)
  ·
   first | assumption | omega | (simp; done) | (simp; omega)
  exact ax_nil ⟨rfl, by repeat (first | exact trivial | refine ⟨rfl, ?_⟩ | refine ⟨?_, ?_⟩)⟩
 refine ax_q (q_mov rfl) ?_
 apply ax_and rfl rfl
 ·
  intro g
  have g := (fun h => And.intro ((fun h => And.intro ((fun h => And.intro (id (and_T h).1) (id (and_T h).2)) (and_T h).1) (nT (and_T h).2)) (and_T h).1) (id (and_T h).2)) g
  refine ax_q (q_fadr_ptr rfl) ?_
  refine ax_q (q_fadr_ptr rfl) ?_
  refine ax_q (q_load1_ptr rfl rfl rfl) ?_
  refine ax_q (q_ibin rfl rfl rfl) ?_
  exact ax_nil ⟨rfl, by repeat (first | exact trivial | refine ⟨rfl, ?_⟩ | refine ⟨?_, ?_⟩)⟩
 refine ax_q (q_mov rfl) ?_
 refine ax_nil ?_
 refine cx_keep rfl rfl ?_
 refine cx_ret (ret0 rfl rfl ?_)
 exact ⟨by rw [← rowOK_i] <;> rfl, rfl⟩


/- loop.example/g00332/impl.areRows -/
def k_c_areRows : XCode :=
 .seq (.ops [.op (some 2) (.mov (.k (.bool false)))])
 (.keep [0] (.seq (.seq (.ops [.op (some 5) (.mov (.t 0)),
   .op (some 6) (.lenS (.t 5)),
   .op (some 7) (.mov (.k (.int .i64 0)))])
  (.keep [0, 5, 6, 7] (.block 0 (.loop (.seq (.ops [.op (some 8) (.bin .lss (.t 7) (.t 6))])
   (.keep [0, 5, 6, 7, 8] (.seq (.cond (.t 8)
    (.skip)
    (.exit 0))
   (.keep [0, 5, 6, 7] (.seq (.block 1 (.seq (.ops [.op (some 9) (.mov (.t 7)),
     .op (some 10) (.iadr 7 (.t 5) (.t 7)),
     .op (some 11) (.loadN 7 (.t 10)),
     .op (some 4) (.alloc [.int .i64 0, .int .i64 0, .int .i64 0, .str [], .int .i64 0, .int .i64 0, .str []]),
     .op (some 3) (.mov (.t 9)),
     .op none (.store 7 (.t 4) (.t 11))])
    (.keep [0, 3, 4, 5, 6, 7] (.seq (.draw [.op (some 12) (.loadN 7 (.t 4)),
     .call (some 13) 54 [.t 12],
     .op (some 14) (.not (.t 13)),
     .op (some 15) (.mov (.t 14)),
     .andor 29 false 3 15 [.op (some 16) (.mov (.t 3)), .op (some 17) (.bin .gtr (.t 16) (.k (.int .i64 0))), .op (some 18) (.mov (.t 17)), .andor 28 true 6 18 [.op (some 19) (.mov (.t 0)), .op (some 20) (.mov (.t 3)), .op (some 21) (.bin .sub (.t 20) (.k (.int .i64 1))), .op (some 22) (.iadr 7 (.t 19) (.t 21)), .op (some 23) (.fadr (.t 22) 0), .op (some 24) (.load1 (.t 23)), .op (some 25) (.fadr (.t 4) 0), .op (some 26) (.load1 (.t 25)), .op (some 27) (.bin .geq (.t 24) (.t 26))] (.t 27)] (.t 28)])
    (.keep [0, 5, 6, 7, 29] (.cond (.t 29)
    (.seq (.ops [.op (some 2) (.mov (.k (.bool false)))])
     (.keep [2] (.ret)))
    (.skip)))))))
   (.keep [0, 5, 6, 7] (.ops [.op (some 30) (.bin .add (.t 7) (.k (.int .i64 1))),
    .op (some 7) (.mov (.t 30))])))))))))))
 (.keep [] (.seq (.ops [.op (some 2) (.mov (.k (.bool true)))])
 (.keep [2] (.ret))))))
theorem k_c_areRows_fits : fitsF Try.prog 40 ⟨31, k_c_areRows, [.t 2]⟩ = true := by kernel_rfl
theorem c_areRows {xs : List GRow} (hg : RG xs 6) : Con Try.prog noMv 40 [.d (.sl 7 (xs.map GRow.row))] [] (fun r h => r = bool true ∧ h = []) := by
 refine con_of2 k_c_areRows_fits rfl fun C hP hmv => ?_
 unfold k_c_areRows
 have hln := hg.ln
 have hsz := fun x (hx : x ∈ xs) => row_sz (hg.ok x hx)
 refine cx_seq ?_
 refine cx_ops ?_
 refine ax_q (q_mov rfl) ?_
 refine ax_nil ?_
 refine cx_keep rfl rfl ?_
 refine cx_seq ?_
 refine cx_seq ?_
 refine cx_ops ?_
 refine ax_q (q_mov rfl) ?_
 first | refine ax_q (q_lenS_map rfl) ?_ | refine ax_q (q_lenS_osl rfl) ?_ | refine ax_q (q_lenS_zs rfl) ?_ | refine ax_q (q_lenS rfl) ?_
 refine ax_q (q_mov rfl) ?_
 refine ax_nil ?_
 refine cx_keep rfl rfl ?_
 refine cx_block ?_
 refine cx_loopU (fun n k => k ≤ xs.length ∧ n = xs.length - k) (fun k : Nat => [(7, int k)]) (fun _ => []) ⟨_, 0, ⟨Nat.zero_le _, rfl⟩, by repeat (first | exact trivial | refine ⟨rfl, ?_⟩ | refine ⟨?_, ?_⟩)⟩ ?_
 rintro n k ⟨hk, rfl⟩
 refine cx_seq ?_
 refine cx_ops ?_
 refine ax_q (q_ibin rfl rfl rfl) ?_
 refine ax_nil ?_
 refine cx_keep rfl rfl ?_
 refine cx_seq ?_
 refine cx_cond rfl (fun h0 => ?_) (fun h0 => ?_)
 ·
  have h0 := dT h0
  have h0x : k < xs.length := by omega
  obtain ⟨hz1, hz2⟩ := hsz _ (List.getElem_mem h0x)
  have hro := hg.ok _ (List.getElem_mem h0x)
  refine cx_skip ?_
  refine cx_keep rfl rfl ?_
  refine cx_seq ?_
  refine cx_block ?_
  refine cx_seq ?_
  refine cx_ops ?_
  refine ax_q (q_mov rfl) ?_
  refine ax_q (q_ix rfl rfl (mapAt h0x)) ?_
  first | refine ax_q (q_ldN rfl rfl rfl) ?_ | refine ax_q (q_loadN_ip rfl (Nat.le_refl _)) ?_ | refine ax_q (q_loadN_ip rfl (by decide)) ?_ | refine ax_q (q_loadN_rptr rfl rfl (by assumption) (by decide)) ?_ | refine ax_q (q_loadN_rptr rfl rfl (mapAt (by first | assumption | omega)) (by decide)) ?_
  refine ax_e (e_alloc (by decide) rfl rfl) ?_
  refine ax_q (q_mov rfl) ?_
  refine ax_e (e_st rfl rfl rfl rfl rfl rfl rfl) ?_
  refine ax_nil ?_
  refine cx_keep rfl rfl ?_
  refine cx_seq ?_
  refine cx_draw ?_
  refine ax_q (q_ldN rfl rfl rfl) ?_
  first | refine ax_callq rfl (c_rowOK (a := xs[k]) ?_ ?_) hP (lal_id _ rfl) rfl ?_ | refine ax_callq rfl (c_rowOK (a := xs[k]) ?_ ?_) hP (by repeat (first | exact lal_id _ rfl | exact LAL.nil | refine LAL.cons ?_ ?_ | exact la_id _ rfl | exact LA.lend (lend_whole rfl (by first | (simp; done) | (rw [List.length_map]; rfl))) | refine LA.agg ?_ | refine LA.fn ?_ | refine LA.lend ?_ | exact Lend.d _ | exact Lend.zs _ | exact lend_whole rfl (by first | (simp; done) | (rw [List.length_map]; rfl)) | refine Lend.ptr rfl ?_ | refine Lend.fn ?_ | exact LendL.nil | refine LendL.cons ?_ ?_)) rfl ?_
  ·
   first | assumption | omega | (simp; done) | (simp; omega)
  ·
   first | assumption | omega | (simp; done) | (simp; omega)
  refine ax_q (q_not rfl) ?_
  refine ax_q (q_mov rfl) ?_
  apply ax_or rfl rfl
  ·
   intro g
   have g := bF g
   refine ax_q (q_mov rfl) ?_
   refine ax_q (q_ibin rfl rfl rfl) ?_
   refine ax_q (q_mov rfl) ?_
   apply ax_and rfl rfl
   ·
    intro g
    have g := dT g
    refine ax_q (q_mov rfl) ?_
    refine ax_q (q_mov rfl) ?_
    refine ax_qe (r' := int ((k - 1 : Nat) : Int)) (q_ibin rfl rfl rfl) (by rw [wi (by omega) (by omega)]; exact congrArg AM.int (by omega)) ?_
    refine ax_q (q_ix (row := GRow.row (xs.getD (k - 1) .zero)) rfl rfl (mapAtD (by omega))) ?_
    first | refine ax_q (q_fadr_ptr rfl) ?_ | refine ax_q (q_fadr_rptr rfl) ?_ | refine ax_q (q_fadr_ip rfl) ?_
    first | refine ax_q (q_load1_ptr rfl rfl rfl) ?_ | refine ax_q (q_load1_ip rfl) ?_ | refine ax_q (q_load1_rptr rfl rfl rfl rfl) ?_ | refine ax_q (q_load1_rptr rfl rfl (by assumption) rfl) ?_ | refine ax_q (q_load1_rptr rfl rfl (mapAt (by first | assumption | omega)) rfl) ?_
    refine ax_q (q_fadr_ptr rfl) ?_
    refine ax_q (q_load1_ptr rfl rfl rfl) ?_
    refine ax_q (q_ibin rfl rfl rfl) ?_
    exact ax_nil ⟨rfl, by repeat (first | exact trivial | refine ⟨rfl, ?_⟩ | refine ⟨?_, ?_⟩)⟩
   exact ax_nil ⟨rfl, by repeat (first | exact trivial | refine ⟨rfl, ?_⟩ | refine ⟨?_, ?_⟩)⟩
  refine ax_nil ?_
  refine cx_keep rfl rfl ?_
  refine cx_cond rfl (fun h1 => ?_) (fun h1 => ?_)
  ·
   have h1 := (fun h => (or_T h).imp bT (fun h => And.intro (dT (and_T h).1) (dT (and_T h).2))) h1
   exfalso
   rcases h1 with h | ⟨h, h2⟩
   ·
    rw [hro] at h; cases h
   ·
    have := hg.up (k - 1) (by omega)
    rw [getD_row (show k - 1 < xs.length by omega)] at h2
    simp only [show k - 1 + 1 = k from by omega] at this
    omega
  ·
   have h1 := (fun h => And.intro (bF (or_F h).1) ((fun h => (and_F h).imp dF dF) (or_F h).2)) h1
   refine cx_skip ?_
   refine cx_keep rfl rfl ?_
   refine cx_ops ?_
   refine ax_qe (r' := int ((k + 1 : Nat) : Int)) (q_ibin rfl rfl rfl) (by rw [wi (by omega) (by omega)]; rfl) ?_
   refine ax_q (q_mov rfl) ?_
   refine ax_nil ?_
   exact ⟨_, k + 1, by omega, ⟨by omega, rfl⟩, by repeat (first | exact trivial | refine ⟨rfl, ?_⟩ | refine ⟨?_, ?_⟩)⟩
 ·
  have h0 := dF h0
  refine cx_exit rfl ?_
  refine cx_keep rfl rfl ?_
  refine cx_seq ?_
  refine cx_ops ?_
  refine ax_q (q_mov rfl) ?_
  refine ax_nil ?_
  refine cx_keep rfl rfl ?_
  refine cx_ret (ret0 rfl rfl ?_)
  exact ⟨rfl, rfl⟩


/- loop.example/g00332/impl.isPlace -/
def k_c_isPlace : XCode :=
 .seq (.ops [.op (some 4) (.mov (.k (.bool false)))])
 (.keep [0, 1] (.seq (.ops [.op (some 5) (.mov (.t 0)),
   .op (some 6) (.mov (.t 1)),
   .op (some 7) (.bin .sub (.t 6) (.k (.int .i64 1))),
   .call (some 8) 55 [.t 5, .k (.int .i64 0), .t 7],
   .op (some 4) (.mov (.t 8))])
 (.keep [4] (.ret))))
theorem k_c_isPlace_fits : fitsF Try.prog 41 ⟨9, k_c_isPlace, [.t 4]⟩ = true := by kernel_rfl
theorem c_isPlace {n k : Int} (hk : 0 ≤ k ∧ k ≤ 1048576) : Con Try.prog noMv 41 [int n, int k] [] (fun r h => r = bool (inR n 0 (k - 1)) ∧ h = []) := by
 refine con_of2 k_c_isPlace_fits rfl fun C hP hmv => ?_
 unfold k_c_isPlace
 refine cx_seq ?_
 refine cx_ops ?_
 refine ax_q (q_mov rfl) ?_
 refine ax_nil ?_
 refine cx_keep rfl rfl ?_
 refine cx_seq ?_
 refine cx_ops ?_
 refine ax_q (q_mov rfl) ?_
 refine ax_q (q_mov rfl) ?_
 refine ax_q (q_sub rfl rfl (by omega)) ?_
 first | refine ax_call rfl (vc_pure0 (c_inRange  ) hP rfl rfl ?_) | refine ax_call rfl (vc_lend0 (c_inRange  ) hP (by repeat (first | exact lal_id _ rfl | exact LAL.nil | refine LAL.cons ?_ ?_ | exact la_id _ rfl | exact LA.lend (lend_whole rfl (by first | (simp; done) | (rw [List.length_map]; rfl))) | refine LA.agg ?_ | refine LA.fn ?_ | refine LA.lend ?_ | exact Lend.d _ | exact Lend.zs _ | exact lend_whole rfl (by first | (simp; done) | (rw [List.length_map]; rfl)) | refine Lend.ptr rfl ?_ | refine Lend.fn ?_ | exact LendL.nil | refine LendL.cons ?_ ?_)) rfl rfl ?_)
 refine ax_q (q_mov rfl) ?_
 refine ax_nil ?_
 refine cx_keep rfl rfl ?_
 refine cx_ret (ret0 rfl rfl ?_)
 exact ⟨rfl, rfl⟩


/- slices.Clone[[]loop.example/g00332/impl.Row,loop.example/g00332/impl.Row] -/
def k_c_Clone_Row : XCode :=
 .seq (.ops [.op (some 2) (.mov (.k (.nils 7)))])
 (.keep [0] (.seq (.seq (.ops [.op (some 3) (.mov (.t 0)),
   .op (some 4) (.eqn false (.t 3))])
  (.keep [0, 4] (.cond (.t 4)
  (.seq (.ops [.op (some 2) (.mov (.k (.nils 7)))])
   (.keep [2] (.ret)))
  (.skip))))
 (.keep [0] (.seq (.ops [.op (some 5) (.bslice 7 []),
   .op (some 6) (.mov (.t 0)),
   .op (some 7) (.app 7 72 [.int .i64 0, .int .i64 0, .int .i64 0, .str [], .int .i64 0, .int .i64 0, .str []] (.t 5) (.t 6)),
   .op (some 2) (.mov (.t 7))])
 (.keep [2] (.ret))))))
theorem k_c_Clone_Row_fits : fitsF Try.prog 29 ⟨8, k_c_Clone_Row, [.t 2]⟩ = true := by kernel_rfl
theorem c_Clone_Row {xs : List GRow} (hw : xs.length ≤ 1048576) : Con Try.prog noMv 29 [.d (.sl 7 (xs.map GRow.row))] [] (fun r h => r = .osl 0 7 0 xs.length ∧ h = [(0, .rows 7 (xs.map GRow.row))]) := by
 refine con_of2 k_c_Clone_Row_fits rfl fun C hP hmv => ?_
 unfold k_c_Clone_Row
 refine cx_seq ?_
 refine cx_ops ?_
 refine ax_q (q_mov rfl) ?_
 refine ax_nil ?_
 refine cx_keep rfl rfl ?_
 refine cx_seq ?_
 refine cx_seq ?_
 refine cx_ops ?_
 refine ax_q (q_mov rfl) ?_
 refine ax_eqn_sl rfl (fun b hb => ?_)
 refine ax_nil ?_
 refine cx_keep rfl rfl ?_
 refine cx_cond rfl (fun h0 => ?_) (fun h0 => ?_)
 ·
  skip
  refine cx_seq ?_
  refine cx_ops ?_
  refine ax_q (q_mov rfl) ?_
  refine ax_nil ?_
  refine cx_keep rfl rfl ?_
  have hx : xs = [] := List.map_eq_nil_iff.1 (hb h0)
  subst hx
  refine cx_wk (wk_virt 900 7 rfl rfl rfl) ?_
  refine cx_wk (wk_zs 2 900 [] rfl rfl) ?_
  refine cx_ret (retN (fun _ => 0) [900] rfl rfl rfl rfl rfl ?_)
  exact ⟨rfl, rfl⟩
 ·
  skip
  refine cx_skip ?_
  refine cx_keep rfl rfl ?_
  refine cx_seq ?_
  refine cx_ops ?_
  refine ax_e (e_bslice rfl (by decide) rfl rfl) ?_
  refine ax_q (q_mov rfl) ?_
  refine ax_e (e_app_osl rfl rfl (Nat.le_refl _) rfl (src_sl 7 _) (.inl (by decide)) (by simp only [List.length_map, List.length_nil]; omega)) ?_
  refine ax_q (q_mov rfl) ?_
  refine ax_nil ?_
  refine cx_keep rfl rfl ?_
  refine cx_ret (retN (fun _ => 0) [5] rfl rfl rfl rfl rfl ?_)
  exact ⟨by simp [renA, mkRes], by simp [renOs, renO]⟩


/- slices.insertionSortCmpFunc[loop.example/g00332/impl.Row] -/
def k_c_insertion : XCode :=
 .seq (.ops [.op (some 10) (.mov (.t 1)),
   .op (some 11) (.bin .add (.t 10) (.k (.int .i64 1))),
   .op (some 8) (.mov (.t 11))])
 (.keep [0, 1, 2, 3, 8] (.block 0 (.loop (.seq (.seq (.ops [.op (some 12) (.mov (.t 8)),
    .op (some 13) (.mov (.t 2)),
    .op (some 14) (.bin .lss (.t 12) (.t 13))])
   (.keep [0, 1, 2, 3, 8, 14] (.cond (.t 14)
   (.skip)
   (.exit 0))))
  (.keep [0, 1, 2, 3, 8] (.seq (.block 1 (.seq (.ops [.op (some 17) (.mov (.t 8)),
     .op (some 9) (.mov (.t 17))])
   (.keep [0, 1, 2, 3, 8, 9] (.block 2 (.loop (.seq (.seq (.draw [.op (some 18) (.mov (.t 9)),
      .op (some 19) (.mov (.t 1)),
      .op (some 20) (.bin .gtr (.t 18) (.t 19)),
      .op (some 21) (.mov (.t 20)),
      .andor 34 true 3 21 [.op (some 22) (.mov (.t 3)), .op (some 23) (.mov (.t 0)), .op (some 24) (.mov (.t 9)), .op (some 25) (.iadr 7 (.t 23) (.t 24)), .op (some 26) (.loadN 7 (.t 25)), .op (some 27) (.mov (.t 0)), .op (some 28) (.mov (.t 9)), .op (some 29) (.bin .sub (.t 28) (.k (.int .i64 1))), .op (some 30) (.iadr 7 (.t 27) (.t 29)), .op (some 31) (.loadN 7 (.t 30)), .callv (some 32) (.t 22) [.t 26, .t 31], .op (some 33) (.bin .lss (.t 32) (.k (.int .i64 0)))] (.t 33)])
     (.keep [0, 1, 2, 3, 8, 9, 34] (.cond (.t 34)
     (.skip)
     (.exit 2))))
    (.keep [0, 1, 2, 3, 8, 9] (.seq (.block 3 (.drawE [[], [], [], [], [3], [], [], [6], [5, 6, 7], [5, 6, 7, 8], [], [], [10, 11], [10, 11, 12], [0, 1, 5, 6, 7, 8, 9, 10, 11, 12, 13], [0, 1, 5, 6, 7, 8, 9, 10, 11, 12, 13, 14], [0, 1, 2, 3, 4, 5, 6, 7, 8, 9, 10, 11, 12, 13, 14, 15], [0, 1, 2, 3, 4, 5, 6, 7, 8, 9, 10, 11, 12, 13, 14, 15, 16]] [.op (some 37) (.mov (.t 0)),
      .op (some 38) (.mov (.t 9)),
      .op (some 39) (.mov (.t 0)),
      .op (some 40) (.mov (.t 9)),
      .op (some 41) (.bin .sub (.t 40) (.k (.int .i64 1))),
      .op (some 42) (.mov (.t 0)),
      .op (some 43) (.mov (.t 9)),
      .op (some 44) (.bin .sub (.t 43) (.k (.int .i64 1))),
      .op (some 45) (.iadr 7 (.t 42) (.t 44)),
      .op (some 46) (.loadN 7 (.t 45)),
      .op (some 47) (.mov (.t 0)),
      .op (some 48) (.mov (.t 9)),
      .op (some 49) (.iadr 7 (.t 47) (.t 48)),
      .op (some 50) (.loadN 7 (.t 49)),
      .op (some 51) (.iadr 7 (.t 37) (.t 38)),
      .op none (.store 7 (.t 51) (.t 46))]
      [.op (some 52) (.iadr 7 (.t 39) (.t 41)),
      .op none (.store 7 (.t 52) (.t 50))]))
    (.keep [0, 1, 2, 3, 8, 9] (.ops [.op (some 35) (.mov (.t 9)),
     .op (some 36) (.bin .sub (.t 35) (.k (.int .i64 1))),
     .op (some 9) (.mov (.t 36))]))))))))))
  (.keep [0, 1, 2, 3, 8] (.ops [.op (some 15) (.mov (.t 8)),
   .op (some 16) (.bin .add (.t 15) (.k (.int .i64 1))),
   .op (some 8) (.mov (.t 16))]))))))))
theorem k_c_insertion_fits : fitsF Try.prog 95 ⟨53, k_c_insertion, []⟩ = true := by kernel_rfl
set_option maxHeartbeats 2000000 in
theorem c_insertion {xs : List GRow} {cf : Nat} {ds : List D} (f : GRow → GRow → Int) (hl : xs.length ≤ 12) (hb : hasBody Try.prog cf = true) (hf : ∀ a ∈ xs, ∀ b ∈ xs, Con Try.prog noMv cf (a.av :: b.av :: ds.map AV.d) [] (fun r h => r = int (f a b) ∧ h = [])) : Con Try.prog noMv 95 [.osl 1000 7 0 xs.length, int 0, int xs.length, .d (.fn (.func cf) ds)] [(1000, .rows 7 (xs.map GRow.row))] (fun r h => r = .tup [] ∧ h = [(1000, .rows 7 ((sortS (fun a b => decide (f a b < 0)) xs).map GRow.row))]) := by
 refine con_of2 k_c_insertion_fits rfl fun C hP hmv => ?_
 unfold k_c_insertion
 refine cx_seq ?_
 refine cx_ops ?_
 refine ax_q (q_mov rfl) ?_
 refine ax_q (q_add rfl rfl (by omega)) ?_
 refine ax_q (q_mov rfl) ?_
 refine ax_nil ?_
 refine cx_keep rfl rfl ?_
 refine cx_block ?_
 refine cx_loopU (fun n k => 1 ≤ k ∧ k ≤ xs.length + 1 ∧ n = xs.length + 1 - k) (fun k : Nat => [(8, int k)]) (fun k => [(1000, .rows 7 ((sortS (fun a b => decide (f a b < 0)) (xs.take k) ++ xs.drop k).map GRow.row))]) ⟨_, 1, ⟨Nat.le_refl _, by omega, rfl⟩, by rw [sort_one]; exact (by repeat (first | exact trivial | refine ⟨rfl, ?_⟩ | refine ⟨?_, ?_⟩))⟩ ?_
 rintro n k ⟨hk0, hk, rfl⟩
 refine cx_seq ?_
 refine cx_seq ?_
 refine cx_ops ?_
 refine ax_q (q_mov rfl) ?_
 refine ax_q (q_mov rfl) ?_
 refine ax_q (q_ibin rfl rfl rfl) ?_
 refine ax_nil ?_
 refine cx_keep rfl rfl ?_
 refine cx_cond rfl (fun h0 => ?_) (fun h0 => ?_)
 ·
  have h0 := dT h0
  have h0x : k < xs.length := by omega
  have hS : (sortS (fun a b => decide (f a b < 0)) (xs.take k)).length = k := by rw [sortS_len, List.length_take]; omega
  have hx : xs[k] ∈ xs := List.getElem_mem h0x
  rw [sort_at h0x]
  have hrl : (xs.drop (k + 1)).length = xs.length - (k + 1) := List.length_drop
  refine cx_skip ?_
  refine cx_keep rfl rfl ?_
  refine cx_seq ?_
  refine cx_block ?_
  refine cx_seq ?_
  refine cx_ops ?_
  refine ax_q (q_mov rfl) ?_
  refine ax_q (q_mov rfl) ?_
  refine ax_nil ?_
  refine cx_keep rfl rfl ?_
  refine cx_block ?_
  refine cx_loopU (fun n j => j ≤ k ∧ j = n ∧ posI (fun a b => decide (f a b < 0)) xs[k] (sortS (fun a b => decide (f a b < 0)) (xs.take k)) k = posI (fun a b => decide (f a b < 0)) xs[k] (sortS (fun a b => decide (f a b < 0)) (xs.take k)) j) (fun j : Nat => [(9, int j)]) (fun j => [(1000, .rows 7 ((dat (sortS (fun a b => decide (f a b < 0)) (xs.take k)) xs[k] (xs.drop (k + 1)) j).map GRow.row))]) ⟨_, k, ⟨Nat.le_refl _, rfl, rfl⟩, by repeat (first | exact trivial | refine ⟨rfl, ?_⟩ | refine ⟨?_, ?_⟩)⟩ ?_
  rintro n j ⟨hj, rfl, hp⟩
  have hdl := dat_len (x := xs[k]) (rest := (xs.drop (k + 1))) (show j ≤ (sortS (fun a b => decide (f a b < 0)) (xs.take k)).length by omega)
  refine cx_seq ?_
  refine cx_seq ?_
  refine cx_draw ?_
  refine ax_q (q_mov rfl) ?_
  refine ax_q (q_mov rfl) ?_
  refine ax_q (q_ibin rfl rfl rfl) ?_
  refine ax_q (q_mov rfl) ?_
  apply ax_and rfl rfl
  ·
   intro g
   have g := dT g
   refine ax_q (q_mov rfl) ?_
   refine ax_q (q_mov rfl) ?_
   refine ax_q (q_mov rfl) ?_
   refine ax_q (q_ixoI rfl rfl (by omega) (by omega)) ?_
   refine ax_q (q_loadN_rptr rfl rfl (datAt (dat_x (by omega))) (by decide)) ?_
   refine ax_q (q_mov rfl) ?_
   refine ax_q (q_mov rfl) ?_
   refine ax_qe (r' := int ((j - 1 : Nat) : Int)) (q_ibin rfl rfl rfl) (by rw [wi (by omega) (by omega)]; exact congrArg AM.int (by omega)) ?_
   refine ax_q (q_ixoI rfl rfl (by omega) (by omega)) ?_
   refine ax_q (q_loadN_rptr (r := GRow.row ((sortS (fun a b => decide (f a b < 0)) (xs.take k)).getD (j - 1) xs[k])) rfl rfl (datAt (dat_yD (by omega) (by omega))) (by decide)) ?_
   refine ax_callvq rfl (by rw [hP]; exact hb) rfl (hf _ hx _ (sort_mem (j := j - 1) hx)) hP (lal_two rfl rfl ds) rfl ?_
   refine ax_q (q_ibin rfl rfl rfl) ?_
   exact ax_nil ⟨rfl, by repeat (first | exact trivial | refine ⟨rfl, ?_⟩ | refine ⟨?_, ?_⟩)⟩
  refine ax_nil ?_
  refine cx_keep rfl rfl ?_
  refine cx_cond rfl (fun h1 => ?_) (fun h1 => ?_)
  ·
   have h1 := (fun h => And.intro (dT (and_T h).1) (dT (and_T h).2)) h1
   obtain ⟨h1a, h1b⟩ := h1
   obtain ⟨j, rfl⟩ : ∃ j2, j = j2 + 1 := ⟨j - 1, by omega⟩
   rw [show j + 1 - 1 = j from rfl, getD_in (show j < (sortS (fun a b => decide (f a b < 0)) (xs.take k)).length by omega)] at h1b
   have hsl := dat_len (x := xs[k]) (rest := (xs.drop (k + 1))) (show j + 1 ≤ (sortS (fun a b => decide (f a b < 0)) (xs.take k)).length by omega)
   refine cx_skip ?_
   refine cx_keep rfl rfl ?_
   refine cx_seq ?_
   refine cx_block ?_
   refine cx_drawL 15 5000 (fun _ => false) (fun _ => true) [] ([(1000, .rows 7 (((dat (sortS (fun a b => decide (f a b < 0)) (xs.take k)) xs[k] (xs.drop (k + 1)) (j + 1)).set (j + 1) ((sortS (fun a b => decide (f a b < 0)) (xs.take k))[j]'(by omega))).map GRow.row))]) [[0], [9], [0], [9], [40], [0], [9], [43], [42, 44], [45], [0], [9], [47, 48], [49], [37, 38], [46, 51]] [[], [], [1000], [1000], [1000], [], [], [], [], [], [], [], [], [], [], [1000]] rfl ?_
   first | refine ⟨_, .inr ⟨rfl, _, rfl, .inl rfl, loc_q (q_mov rfl)⟩, ?_⟩
   first | refine ⟨_, .inr ⟨rfl, _, rfl, .inl rfl, loc_q (q_mov rfl)⟩, ?_⟩
   first | refine ⟨_, .inr ⟨rfl, _, rfl, .inr ⟨rfl, rfl, .inr rfl, rfl, rfl⟩, loc_q (q_mov rfl)⟩, ?_⟩
   first | refine ⟨_, .inr ⟨rfl, _, rfl, .inr ⟨rfl, rfl, .inr rfl, rfl, rfl⟩, loc_q (q_mov rfl)⟩, ?_⟩
   first | refine ⟨_, .inr ⟨rfl, _, rfl, .inr ⟨rfl, rfl, .inr rfl, rfl, rfl⟩, loc_qe (r' := int ((j : Nat) : Int)) (q_ibin rfl rfl rfl) (by rw [wi (by omega) (by omega)]; exact congrArg AM.int (by omega))⟩, ?_⟩
   first | refine ⟨_, .inr ⟨rfl, _, rfl, .inl rfl, loc_q (q_mov rfl)⟩, ?_⟩
   first | refine ⟨_, .inr ⟨rfl, _, rfl, .inl rfl, loc_q (q_mov rfl)⟩, ?_⟩
   first | refine ⟨_, .inr ⟨rfl, _, rfl, .inl rfl, loc_qe (r' := int ((j : Nat) : Int)) (q_ibin rfl rfl rfl) (by rw [wi (by omega) (by omega)]; exact congrArg AM.int (by omega))⟩, ?_⟩
   first | refine ⟨_, .inr ⟨rfl, _, rfl, .inl rfl, loc_q (q_ixo rfl rfl (by omega))⟩, ?_⟩
   first | refine ⟨_, .inr ⟨rfl, _, rfl, .inl rfl, loc_q (q_loadN_rptr (r := GRow.row ((sortS (fun a b => decide (f a b < 0)) (xs.take k))[j]'(by omega))) rfl rfl (datAt (dat_y (by omega))) (by decide))⟩, ?_⟩
   first | refine ⟨_, .inr ⟨rfl, _, rfl, .inl rfl, loc_q (q_mov rfl)⟩, ?_⟩
   first | refine ⟨_, .inr ⟨rfl, _, rfl, .inl rfl, loc_q (q_mov rfl)⟩, ?_⟩
   first | refine ⟨_, .inr ⟨rfl, _, rfl, .inl rfl, loc_q (q_ixo rfl rfl (by omega))⟩, ?_⟩
   first | refine ⟨_, .inr ⟨rfl, _, rfl, .inl rfl, loc_q (q_loadN_rptr (r := GRow.row xs[k]) rfl rfl (datAt (dat_x (by omega))) (by decide))⟩, ?_⟩
   first | refine ⟨_, .inr ⟨rfl, _, rfl, .inl rfl, loc_q (q_ixo rfl rfl (by omega))⟩, ?_⟩
   refine ⟨⟨5000, .dead, []⟩, .inl ⟨rfl, rfl, rfl, locl_str (row := GRow.row xs[k]) (q := GRow.row ((sortS (fun a b => decide (f a b < 0)) (xs.take k))[j]'(by omega))) rfl rfl rfl rfl rfl rfl (datAt (dat_x (by omega))) rfl rfl List.map_set.symm⟩, ?_⟩
   refine ⟨rfl, ?_⟩
   refine ax_q (q_ixo rfl rfl (by omega)) ?_
   refine ax_e (e_str (rs' := (((dat (sortS (fun a b => decide (f a b < 0)) (xs.take k)) xs[k] (xs.drop (k + 1)) (j + 1)).set (j + 1) ((sortS (fun a b => decide (f a b < 0)) (xs.take k))[j]'(by omega))).set j xs[k]).map GRow.row) (row := GRow.row ((sortS (fun a b => decide (f a b < 0)) (xs.take k))[j]'(by omega))) (q := GRow.row xs[k]) rfl rfl rfl rfl rfl rfl (datAt (by rw [List.getElem?_set_ne (by omega)]; exact dat_y (by omega))) rfl rfl List.map_set.symm) ?_
   refine ax_nil ?_
   refine cx_keep rfl rfl ?_
   refine cx_ops ?_
   refine ax_q (q_mov rfl) ?_
   refine ax_qe (r' := int ((j : Nat) : Int)) (q_ibin rfl rfl rfl) (by rw [wi (by omega) (by omega)]; exact congrArg AM.int (by omega)) ?_
   refine ax_q (q_mov rfl) ?_
   refine ax_nil ?_
   exact ⟨_, j, by omega, ⟨by omega, rfl, by rw [hp]; exact posI_t (by omega) (decide_eq_true h1b)⟩, by rw [← dat_step (show j + 1 ≤ (sortS (fun a b => decide (f a b < 0)) (xs.take k)).length by omega)]; exact (by repeat (first | exact trivial | refine ⟨rfl, ?_⟩ | refine ⟨?_, ?_⟩))⟩
  ·
   have h1 := (fun h => (and_F h).imp dF dF) h1
   have ej : posI (fun a b => decide (f a b < 0)) xs[k] (sortS (fun a b => decide (f a b < 0)) (xs.take k)) k = j := by
    rw [hp]
    cases j with
    | zero => rfl
    | succ j =>
     rcases h1 with h | h
     ·
      exact absurd (show ((0 : Int)) < ((j + 1 : Nat) : Int) by omega) h
     ·
      rw [show j + 1 - 1 = j from rfl, getD_in (show j < (sortS (fun a b => decide (f a b < 0)) (xs.take k)).length by omega)] at h
      exact posI_f (by omega) (decide_eq_false h)
   refine cx_exit rfl ?_
   refine cx_keep rfl rfl ?_
   refine cx_ops ?_
   refine ax_q (q_mov rfl) ?_
   refine ax_qe (r' := int ((k + 1 : Nat) : Int)) (q_ibin rfl rfl rfl) (by rw [wi (by omega) (by omega)]; rfl) ?_
   refine ax_q (q_mov rfl) ?_
   refine ax_nil ?_
   exact ⟨_, k + 1, by omega, ⟨by omega, by omega, rfl⟩, by rw [← sort_to h0x ej]; exact (by repeat (first | exact trivial | refine ⟨rfl, ?_⟩ | refine ⟨?_, ?_⟩))⟩
 ·
  have h0 := dF h0
  rw [List.take_of_length_le (show xs.length ≤ k by omega), List.drop_of_length_le (show xs.length ≤ k by omega), List.append_nil]
  refine cx_exit rfl ?_
  refine retN id [1000] rfl rfl rfl rfl rfl ?_
  exact ⟨rfl, rfl⟩


/- math/bits.Len64 -/
def k_c_Len64 : XCode :=
 .seq (.ops [.op (some 2) (.mov (.k (.int .i64 0)))])
 (.keep [0, 2] (.seq (.seq (.ops [.op (some 3) (.mov (.t 0)),
   .op (some 4) (.bin .geq (.t 3) (.k (.int .u64 4294967296)))])
  (.keep [0, 2, 4] (.cond (.t 4)
  (.seq (.ops [.op (some 5) (.mov (.t 0)),
    .op (some 6) (.bin .shr (.t 5) (.k (.int .u64 32))),
    .op (some 0) (.mov (.t 6))])
   (.keep [0] (.ops [.op (some 2) (.mov (.k (.int .i64 32)))])))
  (.skip))))
 (.keep [0, 2] (.seq (.seq (.ops [.op (some 7) (.mov (.t 0)),
   .op (some 8) (.bin .geq (.t 7) (.k (.int .u64 65536)))])
  (.keep [0, 2, 8] (.cond (.t 8)
  (.seq (.ops [.op (some 9) (.mov (.t 0)),
    .op (some 10) (.bin .shr (.t 9) (.k (.int .u64 16))),
    .op (some 0) (.mov (.t 10))])
   (.keep [0, 2] (.ops [.op (some 11) (.mov (.t 2)),
    .op (some 12) (.bin .add (.t 11) (.k (.int .i64 16))),
    .op (some 2) (.mov (.t 12))])))
  (.skip))))
 (.keep [0, 2] (.seq (.seq (.ops [.op (some 13) (.mov (.t 0)),
   .op (some 14) (.bin .geq (.t 13) (.k (.int .u64 256)))])
  (.keep [0, 2, 14] (.cond (.t 14)
  (.seq (.ops [.op (some 15) (.mov (.t 0)),
    .op (some 16) (.bin .shr (.t 15) (.k (.int .u64 8))),
    .op (some 0) (.mov (.t 16))])
   (.keep [0, 2] (.ops [.op (some 17) (.mov (.t 2)),
    .op (some 18) (.bin .add (.t 17) (.k (.int .i64 8))),
    .op (some 2) (.mov (.t 18))])))
  (.skip))))
 (.keep [0, 2] (.seq (.ops [.op (some 19) (.mov (.t 2)),
   .op (some 20) (.mov (.t 0)),
   .op (some 21) (.conv .u8 (.t 20)),
   .op (some 22) (.idxS (.k (.str [0, 1, 2, 2, 3, 3, 3, 3, 4, 4, 4, 4, 4, 4, 4, 4, 5, 5, 5, 5, 5, 5, 5, 5, 5, 5, 5, 5, 5, 5, 5, 5, 6, 6, 6, 6, 6, 6, 6, 6, 6, 6, 6, 6, 6, 6, 6, 6, 6, 6, 6, 6, 6, 6, 6, 6, 6, 6, 6, 6, 6, 6, 6, 6, 7, 7, 7, 7, 7, 7, 7, 7, 7, 7, 7, 7, 7, 7, 7, 7, 7, 7, 7, 7, 7, 7, 7, 7, 7, 7, 7, 7, 7, 7, 7, 7, 7, 7, 7, 7, 7, 7, 7, 7, 7, 7, 7, 7, 7, 7, 7, 7, 7, 7, 7, 7, 7, 7, 7, 7, 7, 7, 7, 7, 7, 7, 7, 7, 8, 8, 8, 8, 8, 8, 8, 8, 8, 8, 8, 8, 8, 8, 8, 8, 8, 8, 8, 8, 8, 8, 8, 8, 8, 8, 8, 8, 8, 8, 8, 8, 8, 8, 8, 8, 8, 8, 8, 8, 8, 8, 8, 8, 8, 8, 8, 8, 8, 8, 8, 8, 8, 8, 8, 8, 8, 8, 8, 8, 8, 8, 8, 8, 8, 8, 8, 8, 8, 8, 8, 8, 8, 8, 8, 8, 8, 8, 8, 8, 8, 8, 8, 8, 8, 8, 8, 8, 8, 8, 8, 8, 8, 8, 8, 8, 8, 8, 8, 8, 8, 8, 8, 8, 8, 8, 8, 8, 8, 8, 8, 8, 8, 8, 8, 8, 8, 8, 8, 8, 8, 8, 8, 8, 8, 8, 8, 8])) (.t 21)),
   .op (some 23) (.conv .i64 (.t 22)),
   .op (some 24) (.bin .add (.t 19) (.t 23)),
   .op (some 2) (.mov (.t 24))])
 (.keep [2] (.ret))))))))))
theorem k_c_Len64_fits : fitsF Try.prog 104 ⟨25, k_c_Len64, [.t 2]⟩ = true := by kernel_rfl
theorem c_Len64 {n : Nat} (hn : n ≤ 12) : Con Try.prog noMv 104 [.d (.int .u64 (n : Int))] [] (fun r h => (∃ m : Int, 0 ≤ m ∧ m ≤ 255 ∧ r = int m) ∧ h = []) := by
 refine con_of2 k_c_Len64_fits rfl fun C hP hmv => ?_
 unfold k_c_Len64
 refine cx_seq ?_
 refine cx_ops ?_
 refine ax_q (q_mov rfl) ?_
 refine ax_nil ?_
 refine cx_keep rfl rfl ?_
 refine cx_seq ?_
 refine cx_seq ?_
 refine cx_ops ?_
 refine ax_q (q_mov rfl) ?_
 refine ax_q (q_ibin rfl rfl rfl) ?_
 refine ax_nil ?_
 refine cx_keep rfl rfl ?_
 refine cx_cond rfl (fun h0 => ?_) (fun h0 => ?_)
 ·
  have h0 := dT h0
  exfalso; omega
 ·
  have h0 := dF h0
  refine cx_skip ?_
  refine cx_keep rfl rfl ?_
  refine cx_seq ?_
  refine cx_seq ?_
  refine cx_ops ?_
  refine ax_q (q_mov rfl) ?_
  refine ax_q (q_ibin rfl rfl rfl) ?_
  refine ax_nil ?_
  refine cx_keep rfl rfl ?_
  refine cx_cond rfl (fun h1 => ?_) (fun h1 => ?_)
  ·
   have h1 := dT h1
   exfalso; omega
  ·
   have h1 := dF h1
   refine cx_skip ?_
   refine cx_keep rfl rfl ?_
   refine cx_seq ?_
   refine cx_seq ?_
   refine cx_ops ?_
   refine ax_q (q_mov rfl) ?_
   refine ax_q (q_ibin rfl rfl rfl) ?_
   refine ax_nil ?_
   refine cx_keep rfl rfl ?_
   refine cx_cond rfl (fun h2 => ?_) (fun h2 => ?_)
   ·
    have h2 := dT h2
    exfalso; omega
   ·
    have h2 := dF h2
    refine cx_skip ?_
    refine cx_keep rfl rfl ?_
    refine cx_seq ?_
    refine cx_ops ?_
    refine ax_q (q_mov rfl) ?_
    refine ax_q (q_mov rfl) ?_
    refine ax_qe (r' := .d (.int .u8 (n : Int))) (q_convU8 rfl) (by rw [AM.byteOf_nat, Int.emod_eq_of_lt (by omega) (by omega)]) ?_
    refine ax_q (q_idxN rfl rfl (show n < 256 by omega)) ?_
    first | refine ax_q (q_convB rfl) ?_ | refine ax_q (q_convI rfl (by omega)) ?_ | refine ax_q (q_convU8 rfl) ?_ | refine ax_q (q_conv rfl) ?_
    refine ax_q (q_addB rfl rfl) ?_
    refine ax_q (q_mov rfl) ?_
    refine ax_nil ?_
    refine cx_keep rfl rfl ?_
    refine cx_ret (ret0 rfl rfl ?_)
    exact ⟨bnd_u8 _, rfl⟩


/- math/bits.Len -/
def k_c_Len : XCode :=
 .seq (.ops [.op (some 2) (.mov (.k (.int .i64 0)))])
 (.keep [0] (.seq (.cond (.k (.bool false))
  (.seq (.ops [.op (some 3) (.mov (.t 0)),
    .op (some 4) (.conv .u32 (.t 3)),
    .call (some 5) 103 [.t 4],
    .op (some 2) (.mov (.t 5))])
   (.keep [2] (.ret)))
  (.skip))
 (.keep [0] (.seq (.ops [.op (some 6) (.mov (.t 0)),
   .call (some 7) 104 [.t 6],
   .op (some 2) (.mov (.t 7))])
 (.keep [2] (.ret))))))
theorem k_c_Len_fits : fitsF Try.prog 85 ⟨8, k_c_Len, [.t 2]⟩ = true := by kernel_rfl
theorem c_Len {n : Nat} (hn : n ≤ 12) : Con Try.prog noMv 85 [.d (.int .u64 (n : Int))] [] (fun r h => (∃ m : Int, 0 ≤ m ∧ m ≤ 255 ∧ r = int m) ∧ h = []) := by
 refine con_of2 k_c_Len_fits rfl fun C hP hmv => ?_
 unfold k_c_Len
 refine cx_seq ?_
 refine cx_ops ?_
 refine ax_q (q_mov rfl) ?_
 refine ax_nil ?_
 refine cx_keep rfl rfl ?_
 refine cx_seq ?_
 refine cx_cond rfl (fun h0 => ?_) (fun h0 => ?_)
 ·
  skip
  exact absurd h0 Bool.false_ne_true
 ·
  skip
  refine cx_skip ?_
  refine cx_keep rfl rfl ?_
  refine cx_seq ?_
  refine cx_ops ?_
  refine ax_q (q_mov rfl) ?_
  refine ax_call rfl (vc_pure (c_Len64 hn) hP rfl ?_)
  rintro r h ⟨⟨m, hm0, hm1, rfl⟩, rfl⟩
  refine ⟨id, [], ⟨rfl, rfl, rfl, rfl, rfl, fun h => absurd h Bool.false_ne_true⟩, ?_⟩
  refine ax_q (q_mov rfl) ?_
  refine ax_nil ?_
  refine cx_keep rfl rfl ?_
  refine cx_ret (ret0 rfl rfl ?_)
  exact ⟨⟨m, hm0, hm1, rfl⟩, rfl⟩


/- slices.pdqsortCmpFunc[loop.example/g00332/impl.Row] -/
def k_c_pdq : XCode :=
 .seq (.ops [.op (some 10) (.mov (.k (.bool true)))])
 (.keep [0, 1, 2, 3, 4, 10] (.seq (.ops [.op (some 11) (.mov (.k (.bool true)))])
 (.keep [0, 1, 2, 3, 4, 10, 11] (.block 0 (.loop (.block 1 (.seq (.ops [.op (some 21) (.mov (.t 2)),
    .op (some 22) (.mov (.t 1)),
    .op (some 23) (.bin .sub (.t 21) (.t 22)),
    .op (some 12) (.mov (.t 23))])
   (.keep [0, 1, 2, 3, 4, 10, 11, 12] (.seq (.seq (.ops [.op (some 24) (.mov (.t 12)),
     .op (some 25) (.bin .leq (.t 24) (.k (.int .i64 12)))])
   (.keep [0, 1, 2, 3, 4, 10, 11, 12, 25] (.cond (.t 25)
    (.seq (.ops [.op (some 26) (.mov (.t 0)),
      .op (some 27) (.mov (.t 1)),
      .op (some 28) (.mov (.t 2)),
      .op (some 29) (.mov (.t 4)),
      .call (some 30) 95 [.t 26, .t 27, .t 28, .t 29]])
    (.keep [] (.ret)))
    (.skip))))
   (.keep [0, 1, 2, 3, 4, 10, 11, 12] (.seq (.seq (.ops [.op (some 31) (.mov (.t 3)),
     .op (some 32) (.bin .eql (.t 31) (.k (.int .i64 0)))])
   (.keep [0, 1, 2, 3, 4, 10, 11, 12, 32] (.cond (.t 32)
    (.seq (.ops [.op (some 33) (.mov (.t 0)),
      .op (some 34) (.mov (.t 1)),
      .op (some 35) (.mov (.t 2)),
      .op (some 36) (.mov (.t 4)),
      .call (some 37) 96 [.t 33, .t 34, .t 35, .t 36]])
    (.keep [] (.ret)))
    (.skip))))
   (.keep [0, 1, 2, 3, 4, 10, 11, 12] (.seq (.seq (.ops [.op (some 38) (.mov (.t 10)),
     .op (some 39) (.not (.t 38))])
   (.keep [0, 1, 2, 3, 4, 10, 11, 12, 39] (.cond (.t 39)
    (.seq (.ops [.op (some 40) (.mov (.t 0)),
      .op (some 41) (.mov (.t 1)),
      .op (some 42) (.mov (.t 2)),
      .op (some 43) (.mov (.t 4)),
      .call (some 44) 97 [.t 40, .t 41, .t 42, .t 43]])
    (.keep [0, 1, 2, 3, 4, 10, 11, 12] (.ops [.op (some 45) (.mov (.t 3)),
     .op (some 46) (.bin .sub (.t 45) (.k (.int .i64 1))),
     .op (some 3) (.mov (.t 46))])))
    (.skip))))
   (.keep [0, 1, 2, 3, 4, 10, 11, 12] (.seq (.ops [.op (some 48) (.mov (.t 0)),
    .op (some 49) (.mov (.t 1)),
    .op (some 50) (.mov (.t 2)),
    .op (some 51) (.mov (.t 4)),
    .call (some 52) 98 [.t 48, .t 49, .t 50, .t 51],
    .op (some 47) (.mov (.t 52)),
    .op (some 53) (.ext (.t 47) 0),
    .op (some 54) (.ext (.t 47) 1),
    .op (some 13) (.mov (.t 53)),
    .op (some 14) (.mov (.t 54))])
   (.keep [0, 1, 2, 3, 4, 10, 11, 12, 13, 14] (.seq (.seq (.ops [.op (some 55) (.mov (.t 14)),
     .op (some 56) (.bin .eql (.t 55) (.k (.int .i64 2)))])
   (.keep [0, 1, 2, 3, 4, 10, 11, 12, 13, 14, 56] (.cond (.t 56)
    (.seq (.ops [.op (some 57) (.mov (.t 0)),
      .op (some 58) (.mov (.t 1)),
      .op (some 59) (.mov (.t 2)),
      .op (some 60) (.mov (.t 4)),
      .call (some 61) 99 [.t 57, .t 58, .t 59, .t 60]])
    (.keep [0, 1, 2, 3, 4, 10, 11, 12, 13] (.seq (.ops [.op (some 62) (.mov (.t 2)),
      .op (some 63) (.bin .sub (.t 62) (.k (.int .i64 1))),
      .op (some 64) (.mov (.t 13)),
      .op (some 65) (.mov (.t 1)),
      .op (some 66) (.bin .sub (.t 64) (.t 65)),
      .op (some 67) (.bin .sub (.t 63) (.t 66)),
      .op (some 13) (.mov (.t 67))])
    (.keep [0, 1, 2, 3, 4, 10, 11, 12, 13] (.ops [.op (some 14) (.mov (.k (.int .i64 1)))])))))
    (.skip))))
   (.keep [0, 1, 2, 3, 4, 10, 11, 12, 13, 14] (.seq (.seq (.ops [.op (some 68) (.mov (.t 10)),
     .op (some 69) (.mov (.t 68)),
     .andor 71 true 1 69 [.op (some 70) (.mov (.t 11))] (.t 70),
     .op (some 72) (.mov (.t 71)),
     .andor 75 true 4 72 [.op (some 73) (.mov (.t 14)), .op (some 74) (.bin .eql (.t 73) (.k (.int .i64 1)))] (.t 74)])
   (.keep [0, 1, 2, 3, 4, 10, 11, 12, 13, 75] (.cond (.t 75)
    (.seq (.ops [.op (some 76) (.mov (.t 0)),
      .op (some 77) (.mov (.t 1)),
      .op (some 78) (.mov (.t 2)),
      .op (some 79) (.mov (.t 4)),
      .call (some 80) 100 [.t 76, .t 77, .t 78, .t 79]])
    (.keep [0, 1, 2, 3, 4, 10, 11, 12, 13, 80] (.cond (.t 80)
     (.ret)
     (.skip))))
    (.skip))))
   (.keep [0, 1, 2, 3, 4, 10, 11, 12, 13] (.seq (.seq (.draw [.op (some 81) (.mov (.t 1)),
     .op (some 82) (.bin .gtr (.t 81) (.k (.int .i64 0))),
     .op (some 83) (.mov (.t 82)),
     .andor 97 true 2 83 [.op (some 84) (.mov (.t 4)), .op (some 85) (.mov (.t 0)), .op (some 86) (.mov (.t 1)), .op (some 87) (.bin .sub (.t 86) (.k (.int .i64 1))), .op (some 88) (.iadr 7 (.t 85) (.t 87)), .op (some 89) (.loadN 7 (.t 88)), .op (some 90) (.mov (.t 0)), .op (some 91) (.mov (.t 13)), .op (some 92) (.iadr 7 (.t 90) (.t 91)), .op (some 93) (.loadN 7 (.t 92)), .callv (some 94) (.t 84) [.t 89, .t 93], .op (some 95) (.bin .lss (.t 94) (.k (.int .i64 0))), .op (some 96) (.not (.t 95))] (.t 96)])
   (.keep [0, 1, 2, 3, 4, 10, 11, 12, 13, 97] (.cond (.t 97)
    (.seq (.ops [.op (some 98) (.mov (.t 0)),
      .op (some 99) (.mov (.t 1)),
      .op (some 100) (.mov (.t 2)),
      .op (some 101) (.mov (.t 13)),
      .op (some 102) (.mov (.t 4)),
      .call (some 103) 101 [.t 98, .t 99, .t 100, .t 101, .t 102],
      .op (some 15) (.mov (.t 103))])
    (.keep [0, 2, 3, 4, 10, 11, 15] (.seq (.ops [.op (some 104) (.mov (.t 15)),
      .op (some 1) (.mov (.t 104))])
    (.keep [0, 1, 2, 3, 4, 10, 11] (.exit 1)))))
    (.skip))))
   (.keep [0, 1, 2, 3, 4, 12, 13] (.seq (.ops [.op (some 106) (.mov (.t 0)),
    .op (some 107) (.mov (.t 1)),
    .op (some 108) (.mov (.t 2)),
    .op (some 109) (.mov (.t 13)),
    .op (some 110) (.mov (.t 4)),
    .call (some 111) 102 [.t 106, .t 107, .t 108, .t 109, .t 110],
    .op (some 105) (.mov (.t 111)),
    .op (some 112) (.ext (.t 105) 0),
    .op (some 113) (.ext (.t 105) 1),
    .op (some 16) (.mov (.t 112)),
    .op (some 17) (.mov (.t 113))])
   (.keep [0, 1, 2, 3, 4, 12, 16, 17] (.seq (.ops [.op (some 114) (.mov (.t 17)),
    .op (some 11) (.mov (.t 114))])
   (.keep [0, 1, 2, 3, 4, 11, 12, 16] (.seq (.ops [.op (some 115) (.mov (.t 16)),
    .op (some 116) (.mov (.t 1)),
    .op (some 117) (.bin .sub (.t 115) (.t 116)),
    .op (some 118) (.mov (.t 2)),
    .op (some 119) (.mov (.t 16)),
    .op (some 120) (.bin .sub (.t 118) (.t 119)),
    .op (some 18) (.mov (.t 117)),
    .op (some 19) (.mov (.t 120))])
   (.keep [0, 1, 2, 3, 4, 11, 12, 16, 18, 19] (.seq (.ops [.op (some 121) (.mov (.t 12)),
    .op (some 122) (.bin .quo (.t 121) (.k (.int .i64 8))),
    .op (some 20) (.mov (.t 122))])
   (.keep [0, 1, 2, 3, 4, 11, 16, 18, 19, 20] (.seq (.ops [.op (some 123) (.mov (.t 18)),
    .op (some 124) (.mov (.t 19)),
    .op (some 125) (.bin .lss (.t 123) (.t 124))])
   (.keep [0, 1, 2, 3, 4, 11, 16, 18, 19, 20, 125] (.cond (.t 125)
   (.seq (.ops [.op (some 126) (.mov (.t 18)),
     .op (some 127) (.mov (.t 20)),
     .op (some 128) (.bin .geq (.t 126) (.t 127)),
     .op (some 10) (.mov (.t 128))])
    (.keep [0, 1, 2, 3, 4, 10, 11, 16] (.seq (.ops [.op (some 129) (.mov (.t 0)),
     .op (some 130) (.mov (.t 1)),
     .op (some 131) (.mov (.t 16)),
     .op (some 132) (.mov (.t 3)),
     .op (some 133) (.mov (.t 4)),
     .call (some 134) 84 [.t 129, .t 130, .t 131, .t 132, .t 133]])
    (.keep [0, 2, 3, 4, 10, 11, 16] (.ops [.op (some 135) (.mov (.t 16)),
     .op (some 136) (.bin .add (.t 135) (.k (.int .i64 1))),
     .op (some 1) (.mov (.t 136))])))))
   (.seq (.ops [.op (some 137) (.mov (.t 19)),
     .op (some 138) (.mov (.t 20)),
     .op (some 139) (.bin .geq (.t 137) (.t 138)),
     .op (some 10) (.mov (.t 139))])
    (.keep [0, 1, 2, 3, 4, 10, 11, 16] (.seq (.ops [.op (some 140) (.mov (.t 0)),
     .op (some 141) (.mov (.t 16)),
     .op (some 142) (.bin .add (.t 141) (.k (.int .i64 1))),
     .op (some 143) (.mov (.t 2)),
     .op (some 144) (.mov (.t 3)),
     .op (some 145) (.mov (.t 4)),
     .call (some 146) 84 [.t 140, .t 142, .t 143, .t 144, .t 145]])
    (.keep [0, 1, 3, 4, 10, 11, 16] (.ops [.op (some 147) (.mov (.t 16)),
     .op (some 2) (.mov (.t 147))]))))))))))))))))))))))))))))))))))))))
theorem k_c_pdq_fits : fitsF Try.prog 84 ⟨148, k_c_pdq, []⟩ = true := by kernel_rfl
theorem c_pdq {m : Int} {xs : List GRow} {cf : Nat} {ds : List D} (f : GRow → GRow → Int) (hl : xs.length ≤ 12) (hb : hasBody Try.prog cf = true) (hf : ∀ a ∈ xs, ∀ b ∈ xs, Con Try.prog noMv cf (a.av :: b.av :: ds.map AV.d) [] (fun r h => r = int (f a b) ∧ h = [])) : Con Try.prog noMv 84 [.osl 1000 7 0 xs.length, int 0, int xs.length, int m, .d (.fn (.func cf) ds)] [(1000, .rows 7 (xs.map GRow.row))] (fun r h => r = .tup [] ∧ h = [(1000, .rows 7 ((sortS (fun a b => decide (f a b < 0)) xs).map GRow.row))]) := by
 refine con_of2 k_c_pdq_fits rfl fun C hP hmv => ?_
 unfold k_c_pdq
 refine cx_seq ?_
 refine cx_ops ?_
 refine ax_q (q_mov rfl) ?_
 refine ax_nil ?_
 refine cx_keep rfl rfl ?_
 refine cx_seq ?_
 refine cx_ops ?_
 refine ax_q (q_mov rfl) ?_
 refine ax_nil ?_
 refine cx_keep rfl rfl ?_
 refine cx_block ?_
 refine cx_loopU (fun n (_ : Unit) => n = 0) (fun _ => []) (fun _ => [(1000, .rows 7 (xs.map GRow.row))]) ⟨_, (), rfl, by repeat (first | exact trivial | refine ⟨rfl, ?_⟩ | refine ⟨?_, ?_⟩)⟩ ?_
 rintro n u rfl
 refine cx_block ?_
 refine cx_seq ?_
 refine cx_ops ?_
 refine ax_q (q_mov rfl) ?_
 refine ax_q (q_mov rfl) ?_
 refine ax_q (q_sub rfl rfl (by omega)) ?_
 refine ax_q (q_mov rfl) ?_
 refine ax_nil ?_
 refine cx_keep rfl rfl ?_
 refine cx_seq ?_
 refine cx_seq ?_
 refine cx_ops ?_
 refine ax_q (q_mov rfl) ?_
 refine ax_q (q_ibin rfl rfl rfl) ?_
 refine ax_nil ?_
 refine cx_keep rfl rfl ?_
 refine cx_cond rfl (fun h0 => ?_) (fun h0 => ?_)
 ·
  have h0 := dT h0
  refine cx_seq ?_
  refine cx_ops ?_
  refine ax_q (q_mov rfl) ?_
  refine ax_q (q_mov rfl) ?_
  refine ax_q (q_mov rfl) ?_
  refine ax_q (q_mov rfl) ?_
  refine ax_call rfl (vcall_own (c_insertion (xs := xs) (cf := cf) (ds := ds) f hl hb hf) hP hmv false (fun _ => 1000) [1000] ⟨rfl, rfl, rfl, rfl, ⟨rfl, trivial⟩, rfl, rfl, rfl⟩ (.pass rfl rfl (.pass rfl rfl (.pass rfl rfl (.pass rfl rfl .nil)))) ?_)
  rintro r h ⟨rfl, rfl⟩
  refine ⟨fun _ => 1000, [], ⟨rfl, rfl, rfl, rfl, mem1 rfl, rfl, rfl, fun h => absurd h Bool.false_ne_true⟩, ?_⟩
  refine ax_nil ?_
  refine cx_keep rfl rfl ?_
  refine cx_ret (retN id [1000] rfl rfl rfl rfl rfl ?_)
  exact ⟨rfl, rfl⟩
 ·
  have h0 := dF h0
  exfalso; omega


/- slices.SortFunc[[]loop.example/g00332/impl.Row,loop.example/g00332/impl.Row] -/
def k_c_SortFunc : XCode :=
 .seq (.ops [.op (some 5) (.mov (.t 0)),
   .op (some 6) (.lenS (.t 5)),
   .op (some 4) (.mov (.t 6))])
 (.keep [0, 1, 4] (.ops [.op (some 7) (.mov (.t 0)),
  .op (some 8) (.mov (.t 4)),
  .op (some 9) (.mov (.t 4)),
  .op (some 10) (.conv .u64 (.t 9)),
  .call (some 11) 85 [.t 10],
  .op (some 12) (.mov (.t 1)),
  .call (some 13) 84 [.t 7, .k (.int .i64 0), .t 8, .t 11, .t 12]]))
theorem k_c_SortFunc_fits : fitsF Try.prog 60 ⟨14, k_c_SortFunc, []⟩ = true := by kernel_rfl
theorem c_SortFunc {xs : List GRow} {cf : Nat} {ds : List D} (f : GRow → GRow → Int) (hl : xs.length ≤ 12) (hb : hasBody Try.prog cf = true) (hf : ∀ a ∈ xs, ∀ b ∈ xs, Con Try.prog noMv cf (a.av :: b.av :: ds.map AV.d) [] (fun r h => r = int (f a b) ∧ h = [])) : Con Try.prog noMv 60 [.osl 1000 7 0 xs.length, .d (.fn (.func cf) ds)] [(1000, .rows 7 (xs.map GRow.row))] (fun r h => r = .tup [] ∧ h = [(1000, .rows 7 ((sortS (fun a b => decide (f a b < 0)) xs).map GRow.row))]) := by
 refine con_of2 k_c_SortFunc_fits rfl fun C hP hmv => ?_
 unfold k_c_SortFunc
 refine cx_seq ?_
 refine cx_ops ?_
 refine ax_q (q_mov rfl) ?_
 first | refine ax_q (q_lenS_map rfl) ?_ | refine ax_q (q_lenS_osl rfl) ?_ | refine ax_q (q_lenS_zs rfl) ?_ | refine ax_q (q_lenS rfl) ?_
 refine ax_q (q_mov rfl) ?_
 refine ax_nil ?_
 refine cx_keep rfl rfl ?_
 refine cx_ops ?_
 refine ax_q (q_mov rfl) ?_
 refine ax_q (q_mov rfl) ?_
 refine ax_q (q_mov rfl) ?_
 refine ax_qe (r' := .d (.int .u64 (xs.length : Int))) (q_conv rfl) (u64_of (by omega)) ?_
 refine ax_call rfl (vc_pure (c_Len (n := xs.length) hl) hP rfl ?_)
 rintro r h ⟨⟨m, hm0, hm1, rfl⟩, rfl⟩
 refine ⟨id, [], ⟨rfl, rfl, rfl, rfl, rfl, fun h => absurd h Bool.false_ne_true⟩, ?_⟩
 refine ax_q (q_mov rfl) ?_
 refine ax_call rfl (vcall_own (c_pdq (xs := xs) (m := m) (cf := cf) (ds := ds) f hl hb hf) hP hmv false (fun _ => 1000) [1000] ⟨rfl, rfl, rfl, rfl, ⟨rfl, trivial⟩, rfl, rfl, rfl⟩ (.pass rfl rfl (.pass rfl rfl (.pass rfl rfl (.pass rfl rfl (.pass rfl rfl .nil))))) ?_)
 rintro r h ⟨rfl, rfl⟩
 refine ⟨fun _ => 1000, [], ⟨rfl, rfl, rfl, rfl, mem1 rfl, rfl, rfl, fun h => absurd h Bool.false_ne_true⟩, ?_⟩
 refine ax_nil ?_
 refine retN id [1000] rfl rfl rfl rfl rfl ?_
 exact ⟨rfl, rfl⟩


/- cmp.Or[int] -/
def k_c_Or : XCode :=
 .seq (.ops [.op (some 2) (.mov (.k (.int .i64 0)))])
 (.keep [0] (.seq (.ops [.op (some 3) (.mov (.k (.int .i64 0)))])
 (.keep [0, 3] (.seq (.seq (.ops [.op (some 6) (.mov (.t 0)),
   .op (some 7) (.lenS (.t 6)),
   .op (some 8) (.mov (.k (.int .i64 0)))])
  (.keep [3, 6, 7, 8] (.block 0 (.loop (.seq (.ops [.op (some 9) (.bin .lss (.t 8) (.t 7))])
   (.keep [3, 6, 7, 8, 9] (.seq (.cond (.t 9)
    (.skip)
    (.exit 0))
   (.keep [3, 6, 7, 8] (.seq (.block 1 (.seq (.ops [.op (some 10) (.iadr 1 (.t 6) (.t 8)),
     .op (some 11) (.load1 (.t 10)),
     .op (some 5) (.mov (.t 11))])
    (.keep [3, 5, 6, 7, 8] (.seq (.ops [.op (some 12) (.mov (.t 5)),
     .op (some 13) (.mov (.t 3)),
     .op (some 14) (.bin .neq (.t 12) (.t 13))])
    (.keep [3, 5, 6, 7, 8, 14] (.cond (.t 14)
    (.seq (.ops [.op (some 15) (.mov (.t 5)),
      .op (some 2) (.mov (.t 15))])
     (.keep [2] (.ret)))
    (.skip)))))))
   (.keep [3, 6, 7, 8] (.ops [.op (some 16) (.bin .add (.t 8) (.k (.int .i64 1))),
    .op (some 8) (.mov (.t 16))])))))))))))
 (.keep [3] (.seq (.ops [.op (some 17) (.mov (.t 3)),
   .op (some 2) (.mov (.t 17))])
 (.keep [2] (.ret))))))))
theorem k_c_Or_fits : fitsF Try.prog 62 ⟨18, k_c_Or, [.t 2]⟩ = true := by kernel_rfl
theorem c_Or {xs : List Int} (hl : xs.length ≤ 1000) : Con Try.prog noMv 62 [.d (.sl 1 (xs.map intRow))] [] (fun r h => r = int (orF xs) ∧ h = []) := by
 refine con_of2 k_c_Or_fits rfl fun C hP hmv => ?_
 unfold k_c_Or
 refine cx_seq ?_
 refine cx_ops ?_
 refine ax_q (q_mov rfl) ?_
 refine ax_nil ?_
 refine cx_keep rfl rfl ?_
 refine cx_seq ?_
 refine cx_ops ?_
 refine ax_q (q_mov rfl) ?_
 refine ax_nil ?_
 refine cx_keep rfl rfl ?_
 refine cx_seq ?_
 refine cx_seq ?_
 refine cx_ops ?_
 refine ax_q (q_mov rfl) ?_
 first | refine ax_q (q_lenS_map rfl) ?_ | refine ax_q (q_lenS_osl rfl) ?_ | refine ax_q (q_lenS_zs rfl) ?_ | refine ax_q (q_lenS rfl) ?_
 refine ax_q (q_mov rfl) ?_
 refine ax_nil ?_
 refine cx_keep rfl rfl ?_
 refine cx_block ?_
 refine cx_loopU (fun n k => k ≤ xs.length ∧ n = xs.length - k ∧ ∀ j, j < k → ∀ x, xs[j]? = some x → x = 0) (fun k : Nat => [(8, int k)]) (fun _ => []) ⟨_, 0, ⟨Nat.zero_le _, rfl, fun j hj => by omega⟩, by repeat (first | exact trivial | refine ⟨rfl, ?_⟩ | refine ⟨?_, ?_⟩)⟩ ?_
 rintro n k ⟨hk, rfl, hb⟩
 refine cx_seq ?_
 refine cx_ops ?_
 refine ax_q (q_ibin rfl rfl rfl) ?_
 refine ax_nil ?_
 refine cx_keep rfl rfl ?_
 refine cx_seq ?_
 refine cx_cond rfl (fun h0 => ?_) (fun h0 => ?_)
 ·
  have h0 := dT h0
  have h0x : k < xs.length := by omega
  refine cx_skip ?_
  refine cx_keep rfl rfl ?_
  refine cx_seq ?_
  refine cx_block ?_
  refine cx_seq ?_
  refine cx_ops ?_
  first | refine ax_q (q_ix rfl rfl (by assumption)) ?_ | refine ax_q (q_ix rfl rfl (mapAt (by first | assumption | omega))) ?_ | refine ax_q (q_ixo rfl rfl (by first | assumption | omega)) ?_ | refine ax_q (q_ixI rfl rfl (by omega) (mapAt (by first | assumption | omega))) ?_ | refine ax_q (q_ixoI rfl rfl (by omega) (by omega)) ?_
  first | refine ax_q (q_load1_ptr rfl rfl rfl) ?_ | refine ax_q (q_load1_ip rfl) ?_ | refine ax_q (q_load1_rptr rfl rfl rfl rfl) ?_ | refine ax_q (q_load1_rptr rfl rfl (by assumption) rfl) ?_ | refine ax_q (q_load1_rptr rfl rfl (mapAt (by first | assumption | omega)) rfl) ?_
  refine ax_q (q_mov rfl) ?_
  refine ax_nil ?_
  refine cx_keep rfl rfl ?_
  refine cx_seq ?_
  refine cx_ops ?_
  refine ax_q (q_mov rfl) ?_
  refine ax_q (q_mov rfl) ?_
  refine ax_q (q_ibin rfl rfl rfl) ?_
  refine ax_nil ?_
  refine cx_keep rfl rfl ?_
  refine cx_cond rfl (fun h1 => ?_) (fun h1 => ?_)
  ·
   have h1 := nT h1
   refine cx_seq ?_
   refine cx_ops ?_
   refine ax_q (q_mov rfl) ?_
   refine ax_q (q_mov rfl) ?_
   refine ax_nil ?_
   refine cx_keep rfl rfl ?_
   refine cx_ret (ret0 rfl rfl ?_)
   exact ⟨by rw [orF_hit h0x hb h1]; rfl, rfl⟩
  ·
   have h1 := nF h1
   refine cx_skip ?_
   refine cx_keep rfl rfl ?_
   refine cx_ops ?_
   refine ax_qe (r' := int ((k + 1 : Nat) : Int)) (q_ibin rfl rfl rfl) (by rw [wi (by omega) (by omega)]; rfl) ?_
   refine ax_q (q_mov rfl) ?_
   refine ax_nil ?_
   exact ⟨_, k + 1, by omega, ⟨by omega, rfl, fun j hj x hx => by
    rcases Nat.lt_succ_iff_lt_or_eq.1 hj with h | rfl
    ·
     exact hb j h x hx
    ·
     rw [List.getElem?_eq_getElem h0x] at hx; cases hx; exact h1⟩, by repeat (first | exact trivial | refine ⟨rfl, ?_⟩ | refine ⟨?_, ?_⟩)⟩
 ·
  have h0 := dF h0
  have h0x : k = xs.length := by omega
  refine cx_exit rfl ?_
  refine cx_keep rfl rfl ?_
  refine cx_seq ?_
  refine cx_ops ?_
  refine ax_q (q_mov rfl) ?_
  refine ax_q (q_mov rfl) ?_
  refine ax_nil ?_
  refine cx_keep rfl rfl ?_
  refine cx_ret (ret0 rfl rfl ?_)
  exact ⟨by rw [orF_none (fun j hj => hb j (by omega))]; rfl, rfl⟩


/- cmp.isNaN[int] -/
def k_c_isNaN_int : XCode :=
 .seq (.ops [.op (some 2) (.mov (.k (.bool false)))])
 (.keep [0] (.seq (.ops [.op (some 3) (.mov (.t 0)),
   .op (some 4) (.mov (.t 0)),
   .op (some 5) (.bin .neq (.t 3) (.t 4)),
   .op (some 2) (.mov (.t 5))])
 (.keep [2] (.ret))))
theorem k_c_isNaN_int_fits : fitsF Try.prog 89 ⟨6, k_c_isNaN_int, [.t 2]⟩ = true := by kernel_rfl
theorem c_isNaN_int {x : Int} : Con Try.prog noMv 89 [int x] [] (fun r h => r = bool false ∧ h = []) := by
 refine con_of2 k_c_isNaN_int_fits rfl fun C hP hmv => ?_
 unfold k_c_isNaN_int
 refine cx_seq ?_
 refine cx_ops ?_
 refine ax_q (q_mov rfl) ?_
 refine ax_nil ?_
 refine cx_keep rfl rfl ?_
 refine cx_seq ?_
 refine cx_ops ?_
 refine ax_q (q_mov rfl) ?_
 refine ax_q (q_mov rfl) ?_
 refine ax_q (q_ibin rfl rfl rfl) ?_
 refine ax_q (q_mov rfl) ?_
 refine ax_nil ?_
 refine cx_keep rfl rfl ?_
 refine cx_ret (ret0 rfl rfl ?_)
 exact ⟨by simp; rfl, rfl⟩


/- cmp.Compare[int] -/
def k_c_Compare_int : XCode :=
 .seq (.ops [.op (some 4) (.mov (.k (.int .i64 0)))])
 (.keep [0, 1] (.seq (.ops [.op (some 7) (.mov (.t 0)),
   .call (some 8) 89 [.t 7],
   .op (some 5) (.mov (.t 8))])
 (.keep [0, 1, 5] (.seq (.ops [.op (some 9) (.mov (.t 1)),
   .call (some 10) 89 [.t 9],
   .op (some 6) (.mov (.t 10))])
 (.keep [0, 1, 5, 6] (.seq (.seq (.ops [.op (some 11) (.mov (.t 5))])
  (.keep [0, 1, 6, 11] (.cond (.t 11)
  (.seq (.seq (.ops [.op (some 12) (.mov (.t 6))])
   (.keep [12] (.cond (.t 12)
    (.seq (.ops [.op (some 4) (.mov (.k (.int .i64 0)))])
    (.keep [4] (.ret)))
    (.skip))))
   (.keep [] (.seq (.ops [.op (some 4) (.mov (.k (.int .i64 (-1))))])
   (.keep [4] (.ret)))))
  (.skip))))
 (.keep [0, 1, 6] (.seq (.seq (.ops [.op (some 13) (.mov (.t 6))])
  (.keep [0, 1, 13] (.cond (.t 13)
  (.seq (.ops [.op (some 4) (.mov (.k (.int .i64 1)))])
   (.keep [4] (.ret)))
  (.skip))))
 (.keep [0, 1] (.seq (.seq (.ops [.op (some 14) (.mov (.t 0)),
   .op (some 15) (.mov (.t 1)),
   .op (some 16) (.bin .lss (.t 14) (.t 15))])
  (.keep [0, 1, 16] (.cond (.t 16)
  (.seq (.ops [.op (some 4) (.mov (.k (.int .i64 (-1))))])
   (.keep [4] (.ret)))
  (.skip))))
 (.keep [0, 1] (.seq (.seq (.ops [.op (some 17) (.mov (.t 0)),
   .op (some 18) (.mov (.t 1)),
   .op (some 19) (.bin .gtr (.t 17) (.t 18))])
  (.keep [19] (.cond (.t 19)
  (.seq (.ops [.op (some 4) (.mov (.k (.int .i64 1)))])
   (.keep [4] (.ret)))
  (.skip))))
 (.keep [] (.seq (.ops [.op (some 4) (.mov (.k (.int .i64 0)))])
 (.keep [4] (.ret))))))))))))))))
theorem k_c_Compare_int_fits : fitsF Try.prog 71 ⟨20, k_c_Compare_int, [.t 4]⟩ = true := by kernel_rfl
theorem c_Compare_int {a b : Int} : Con Try.prog noMv 71 [int a, int b] [] (fun r h => r = int (cmpI a b) ∧ h = []) := by
 refine con_of2 k_c_Compare_int_fits rfl fun C hP hmv => ?_
 unfold k_c_Compare_int
 refine cx_seq ?_
 refine cx_ops ?_
 refine ax_q (q_mov rfl) ?_
 refine ax_nil ?_
 refine cx_keep rfl rfl ?_
 refine cx_seq ?_
 refine cx_ops ?_
 refine ax_q (q_mov rfl) ?_
 first | refine ax_call rfl (vc_pure0 (c_isNaN_int  ) hP rfl rfl ?_) | refine ax_call rfl (vc_lend0 (c_isNaN_int  ) hP (by repeat (first | exact lal_id _ rfl | exact LAL.nil | refine LAL.cons ?_ ?_ | exact la_id _ rfl | exact LA.lend (lend_whole rfl (by first | (simp; done) | (rw [List.length_map]; rfl))) | refine LA.agg ?_ | refine LA.fn ?_ | refine LA.lend ?_ | exact Lend.d _ | exact Lend.zs _ | exact lend_whole rfl (by first | (simp; done) | (rw [List.length_map]; rfl)) | refine Lend.ptr rfl ?_ | refine Lend.fn ?_ | exact LendL.nil | refine LendL.cons ?_ ?_)) rfl rfl ?_)
 refine ax_q (q_mov rfl) ?_
 refine ax_nil ?_
 refine cx_keep rfl rfl ?_
 refine cx_seq ?_
 refine cx_ops ?_
 refine ax_q (q_mov rfl) ?_
 first | refine ax_call rfl (vc_pure0 (c_isNaN_int  ) hP rfl rfl ?_) | refine ax_call rfl (vc_lend0 (c_isNaN_int  ) hP (by repeat (first | exact lal_id _ rfl | exact LAL.nil | refine LAL.cons ?_ ?_ | exact la_id _ rfl | exact LA.lend (lend_whole rfl (by first | (simp; done) | (rw [List.length_map]; rfl))) | refine LA.agg ?_ | refine LA.fn ?_ | refine LA.lend ?_ | exact Lend.d _ | exact Lend.zs _ | exact lend_whole rfl (by first | (simp; done) | (rw [List.length_map]; rfl)) | refine Lend.ptr rfl ?_ | refine Lend.fn ?_ | exact LendL.nil | refine LendL.cons ?_ ?_)) rfl rfl ?_)
 refine ax_q (q_mov rfl) ?_
 refine ax_nil ?_
 refine cx_keep rfl rfl ?_
 refine cx_seq ?_
 refine cx_seq ?_
 refine cx_ops ?_
 refine ax_q (q_mov rfl) ?_
 refine ax_nil ?_
 refine cx_keep rfl rfl ?_
 refine cx_cond rfl (fun h0 => ?_) (fun h0 => ?_)
 ·
  skip
  exact absurd h0 Bool.false_ne_true
 ·
  skip
  refine cx_skip ?_
  refine cx_keep rfl rfl ?_
  refine cx_seq ?_
  refine cx_seq ?_
  refine cx_ops ?_
  refine ax_q (q_mov rfl) ?_
  refine ax_nil ?_
  refine cx_keep rfl rfl ?_
  refine cx_cond rfl (fun h2 => ?_) (fun h2 => ?_)
  ·
   skip
   exact absurd h2 Bool.false_ne_true
  ·
   skip
   refine cx_skip ?_
   refine cx_keep rfl rfl ?_
   refine cx_seq ?_
   refine cx_seq ?_
   refine cx_ops ?_
   refine ax_q (q_mov rfl) ?_
   refine ax_q (q_mov rfl) ?_
   refine ax_q (q_ibin rfl rfl rfl) ?_
   refine ax_nil ?_
   refine cx_keep rfl rfl ?_
   refine cx_cond rfl (fun h3 => ?_) (fun h3 => ?_)
   ·
    have h3 := dT h3
    refine cx_seq ?_
    refine cx_ops ?_
    refine ax_q (q_mov rfl) ?_
    refine ax_nil ?_
    refine cx_keep rfl rfl ?_
    refine cx_ret (ret0 rfl rfl ?_)
    exact ⟨by rw [show cmpI a b = -1 from by unfold cmpI; rw [if_neg (by omega), if_pos h3]]; rfl, rfl⟩
   ·
    have h3 := dF h3
    refine cx_skip ?_
    refine cx_keep rfl rfl ?_
    refine cx_seq ?_
    refine cx_seq ?_
    refine cx_ops ?_
    refine ax_q (q_mov rfl) ?_
    refine ax_q (q_mov rfl) ?_
    refine ax_q (q_ibin rfl rfl rfl) ?_
    refine ax_nil ?_
    refine cx_keep rfl rfl ?_
    refine cx_cond rfl (fun h4 => ?_) (fun h4 => ?_)
    ·
     have h4 := dT h4
     refine cx_seq ?_
     refine cx_ops ?_
     refine ax_q (q_mov rfl) ?_
     refine ax_nil ?_
     refine cx_keep rfl rfl ?_
     refine cx_ret (ret0 rfl rfl ?_)
     exact ⟨by rw [show cmpI a b = 1 from by unfold cmpI; rw [if_neg (by omega), if_neg h3]]; rfl, rfl⟩
    ·
     have h4 := dF h4
     refine cx_skip ?_
     refine cx_keep rfl rfl ?_
     refine cx_seq ?_
     refine cx_ops ?_
     refine ax_q (q_mov rfl) ?_
     refine ax_nil ?_
     refine cx_keep rfl rfl ?_
     refine cx_ret (ret0 rfl rfl ?_)
     exact ⟨by rw [show cmpI a b = 0 from by unfold cmpI; rw [if_pos (by omega)]]; rfl, rfl⟩


/- cmp.isNaN[string] -/
def k_c_isNaN_string : XCode :=
 .seq (.ops [.op (some 2) (.mov (.k (.bool false)))])
 (.keep [0] (.seq (.ops [.op (some 3) (.mov (.t 0)),
   .op (some 4) (.mov (.t 0)),
   .op (some 5) (.bin .neq (.t 3) (.t 4)),
   .op (some 2) (.mov (.t 5))])
 (.keep [2] (.ret))))
theorem k_c_isNaN_string_fits : fitsF Try.prog 90 ⟨6, k_c_isNaN_string, [.t 2]⟩ = true := by kernel_rfl
theorem c_isNaN_string {x : Str} : Con Try.prog noMv 90 [str x] [] (fun r h => r = bool false ∧ h = []) := by
 refine con_of2 k_c_isNaN_string_fits rfl fun C hP hmv => ?_
 unfold k_c_isNaN_string
 refine cx_seq ?_
 refine cx_ops ?_
 refine ax_q (q_mov rfl) ?_
 refine ax_nil ?_
 refine cx_keep rfl rfl ?_
 refine cx_seq ?_
 refine cx_ops ?_
 refine ax_q (q_mov rfl) ?_
 refine ax_q (q_mov rfl) ?_
 refine ax_q (q_sbin rfl rfl rfl) ?_
 refine ax_q (q_mov rfl) ?_
 refine ax_nil ?_
 refine cx_keep rfl rfl ?_
 refine cx_ret (ret0 rfl rfl ?_)
 exact ⟨by simp; rfl, rfl⟩


/- cmp.Compare[string] -/
def k_c_Compare_string : XCode :=
 .seq (.ops [.op (some 4) (.mov (.k (.int .i64 0)))])
 (.keep [0, 1] (.seq (.ops [.op (some 7) (.mov (.t 0)),
   .call (some 8) 90 [.t 7],
   .op (some 5) (.mov (.t 8))])
 (.keep [0, 1, 5] (.seq (.ops [.op (some 9) (.mov (.t 1)),
   .call (some 10) 90 [.t 9],
   .op (some 6) (.mov (.t 10))])
 (.keep [0, 1, 5, 6] (.seq (.seq (.ops [.op (some 11) (.mov (.t 5))])
  (.keep [0, 1, 6, 11] (.cond (.t 11)
  (.seq (.seq (.ops [.op (some 12) (.mov (.t 6))])
   (.keep [12] (.cond (.t 12)
    (.seq (.ops [.op (some 4) (.mov (.k (.int .i64 0)))])
    (.keep [4] (.ret)))
    (.skip))))
   (.keep [] (.seq (.ops [.op (some 4) (.mov (.k (.int .i64 (-1))))])
   (.keep [4] (.ret)))))
  (.skip))))
 (.keep [0, 1, 6] (.seq (.seq (.ops [.op (some 13) (.mov (.t 6))])
  (.keep [0, 1, 13] (.cond (.t 13)
  (.seq (.ops [.op (some 4) (.mov (.k (.int .i64 1)))])
   (.keep [4] (.ret)))
  (.skip))))
 (.keep [0, 1] (.seq (.seq (.ops [.op (some 14) (.mov (.t 0)),
   .op (some 15) (.mov (.t 1)),
   .op (some 16) (.bin .lss (.t 14) (.t 15))])
  (.keep [0, 1, 16] (.cond (.t 16)
  (.seq (.ops [.op (some 4) (.mov (.k (.int .i64 (-1))))])
   (.keep [4] (.ret)))
  (.skip))))
 (.keep [0, 1] (.seq (.seq (.ops [.op (some 17) (.mov (.t 0)),
   .op (some 18) (.mov (.t 1)),
   .op (some 19) (.bin .gtr (.t 17) (.t 18))])
  (.keep [19] (.cond (.t 19)
  (.seq (.ops [.op (some 4) (.mov (.k (.int .i64 1)))])
   (.keep [4] (.ret)))
  (.skip))))
 (.keep [] (.seq (.ops [.op (some 4) (.mov (.k (.int .i64 0)))])
 (.keep [4] (.ret))))))))))))))))
theorem k_c_Compare_string_fits : fitsF Try.prog 72 ⟨20, k_c_Compare_string, [.t 4]⟩ = true := by kernel_rfl
theorem c_Compare_string {a b : Str} : Con Try.prog noMv 72 [str a, str b] [] (fun r h => r = int (cmpS a b) ∧ h = []) := by
 refine con_of2 k_c_Compare_string_fits rfl fun C hP hmv => ?_
 unfold k_c_Compare_string
 refine cx_seq ?_
 refine cx_ops ?_
 refine ax_q (q_mov rfl) ?_
 refine ax_nil ?_
 refine cx_keep rfl rfl ?_
 refine cx_seq ?_
 refine cx_ops ?_
 refine ax_q (q_mov rfl) ?_
 first | refine ax_call rfl (vc_pure0 (c_isNaN_string  ) hP rfl rfl ?_) | refine ax_call rfl (vc_lend0 (c_isNaN_string  ) hP (by repeat (first | exact lal_id _ rfl | exact LAL.nil | refine LAL.cons ?_ ?_ | exact la_id _ rfl | exact LA.lend (lend_whole rfl (by first | (simp; done) | (rw [List.length_map]; rfl))) | refine LA.agg ?_ | refine LA.fn ?_ | refine LA.lend ?_ | exact Lend.d _ | exact Lend.zs _ | exact lend_whole rfl (by first | (simp; done) | (rw [List.length_map]; rfl)) | refine Lend.ptr rfl ?_ | refine Lend.fn ?_ | exact LendL.nil | refine LendL.cons ?_ ?_)) rfl rfl ?_)
 refine ax_q (q_mov rfl) ?_
 refine ax_nil ?_
 refine cx_keep rfl rfl ?_
 refine cx_seq ?_
 refine cx_ops ?_
 refine ax_q (q_mov rfl) ?_
 first | refine ax_call rfl (vc_pure0 (c_isNaN_string  ) hP rfl rfl ?_) | refine ax_call rfl (vc_lend0 (c_isNaN_string  ) hP (by repeat (first | exact lal_id _ rfl | exact LAL.nil | refine LAL.cons ?_ ?_ | exact la_id _ rfl | exact LA.lend (lend_whole rfl (by first | (simp; done) | (rw [List.length_map]; rfl))) | refine LA.agg ?_ | refine LA.fn ?_ | refine LA.lend ?_ | exact Lend.d _ | exact Lend.zs _ | exact lend_whole rfl (by first | (simp; done) | (rw [List.length_map]; rfl)) | refine Lend.ptr rfl ?_ | refine Lend.fn ?_ | exact LendL.nil | refine LendL.cons ?_ ?_)) rfl rfl ?_)
 refine ax_q (q_mov rfl) ?_
 refine ax_nil ?_
 refine cx_keep rfl rfl ?_
 refine cx_seq ?_
 refine cx_seq ?_
 refine cx_ops ?_
 refine ax_q (q_mov rfl) ?_
 refine ax_nil ?_
 refine cx_keep rfl rfl ?_
 refine cx_cond rfl (fun h0 => ?_) (fun h0 => ?_)
 ·
  skip
  exact absurd h0 Bool.false_ne_true
 ·
  skip
  refine cx_skip ?_
  refine cx_keep rfl rfl ?_
  refine cx_seq ?_
  refine cx_seq ?_
  refine cx_ops ?_
  refine ax_q (q_mov rfl) ?_
  refine ax_nil ?_
  refine cx_keep rfl rfl ?_
  refine cx_cond rfl (fun h2 => ?_) (fun h2 => ?_)
  ·
   skip
   exact absurd h2 Bool.false_ne_true
  ·
   skip
   refine cx_skip ?_
   refine cx_keep rfl rfl ?_
   refine cx_seq ?_
   refine cx_seq ?_
   refine cx_ops ?_
   refine ax_q (q_mov rfl) ?_
   refine ax_q (q_mov rfl) ?_
   refine ax_q (q_sbin rfl rfl rfl) ?_
   refine ax_nil ?_
   refine cx_keep rfl rfl ?_
   refine cx_cond rfl (fun h3 => ?_) (fun h3 => ?_)
   ·
    skip
    refine cx_seq ?_
    refine cx_ops ?_
    refine ax_q (q_mov rfl) ?_
    refine ax_nil ?_
    refine cx_keep rfl rfl ?_
    refine cx_ret (ret0 rfl rfl ?_)
    exact ⟨by rw [cmpS_lt h3]; rfl, rfl⟩
   ·
    skip
    refine cx_skip ?_
    refine cx_keep rfl rfl ?_
    refine cx_seq ?_
    refine cx_seq ?_
    refine cx_ops ?_
    refine ax_q (q_mov rfl) ?_
    refine ax_q (q_mov rfl) ?_
    refine ax_q (q_sbin rfl rfl rfl) ?_
    refine ax_nil ?_
    refine cx_keep rfl rfl ?_
    refine cx_cond rfl (fun h4 => ?_) (fun h4 => ?_)
    ·
     skip
     refine cx_seq ?_
     refine cx_ops ?_
     refine ax_q (q_mov rfl) ?_
     refine ax_nil ?_
     refine cx_keep rfl rfl ?_
     refine cx_ret (ret0 rfl rfl ?_)
     exact ⟨by rw [cmpS_gt h4]; rfl, rfl⟩
    ·
     skip
     refine cx_skip ?_
     refine cx_keep rfl rfl ?_
     refine cx_seq ?_
     refine cx_ops ?_
     refine ax_q (q_mov rfl) ?_
     refine ax_nil ?_
     refine cx_keep rfl rfl ?_
     refine cx_ret (ret0 rfl rfl ?_)
     exact ⟨by rw [cmpS_eq h3 h4]; rfl, rfl⟩


/- loop.example/g00332/impl.compareValues -/
def k_c_compareValues : XCode :=
 .seq (.ops [.op (some 2) (.box (.t 0)),
   .op (some 3) (.box (.t 1)),
   .op (some 4) (.mov (.k (.int .i64 0)))])
 (.keep [2, 3] (.seq (.drawE [[], [0], [], [2], [0, 1, 2, 3], [], [5], [], [7], [0, 1, 2, 3, 4, 5, 6, 7, 8], [], [10], [], [12], [0, 1, 2, 3, 4, 5, 6, 7, 8, 9, 10, 11, 12, 13], [0, 1, 2, 3, 4, 5, 6, 7, 8, 9, 10, 11, 12, 13, 14], [0, 1, 2, 3, 4, 5, 6, 7, 8, 9, 10, 11, 12, 13, 14, 15], [0, 1, 2, 3, 4, 5, 6, 7, 8, 9, 10, 11, 12, 13, 14, 15, 16]] [.op (some 5) (.fadr (.t 2) 0),
   .op (some 6) (.load1 (.t 5)),
   .op (some 7) (.fadr (.t 3) 0),
   .op (some 8) (.load1 (.t 7)),
   .call (some 9) 71 [.t 6, .t 8],
   .op (some 10) (.fadr (.t 2) 1),
   .op (some 11) (.load1 (.t 10)),
   .op (some 12) (.fadr (.t 3) 1),
   .op (some 13) (.load1 (.t 12)),
   .call (some 14) 71 [.t 11, .t 13],
   .op (some 15) (.fadr (.t 2) 2),
   .op (some 16) (.load1 (.t 15)),
   .op (some 17) (.fadr (.t 3) 2),
   .op (some 18) (.load1 (.t 17))]
  [.call (some 19) 72 [.t 16, .t 18],
   .op (some 20) (.bslice 1 [.t 9, .t 14, .t 19]),
   .call (some 21) 62 [.t 20],
   .op (some 4) (.mov (.t 21))])
 (.keep [4] (.ret))))
theorem k_c_compareValues_fits : fitsF Try.prog 46 ⟨22, k_c_compareValues, [.t 4]⟩ = true := by kernel_rfl
set_option maxHeartbeats 2000000 in
theorem c_compareValues {a b : GValue} : Con Try.prog noMv 46 [a.av, b.av] [] (fun r h => r = int (cmpV a b) ∧ h = []) := by
 refine con_of2 k_c_compareValues_fits rfl fun C hP hmv => ?_
 unfold k_c_compareValues
 refine cx_seq ?_
 refine cx_ops ?_
 refine ax_e (e_box rfl rfl (by decide) rfl rfl rfl) ?_
 refine ax_e (e_box rfl rfl (by decide) rfl rfl rfl) ?_
 refine ax_q (q_mov rfl) ?_
 refine ax_nil ?_
 refine cx_keep rfl rfl ?_
 refine cx_seq ?_
 refine cx_drawL 0 5 (fun _ => false) (fun _ => true) [] ([]) [[2], [5], [3], [7], [6, 8], [2], [10], [3], [12], [11, 13], [2], [15], [3], [17]] [[], [], [], [], [], [], [], [], [], [], [], [], [], []] rfl ?_
 first | refine ⟨⟨5, _, []⟩, .inl ⟨rfl, rfl, rfl, locl_of (loc_q (q_fadr_ptr rfl))⟩, ?_⟩
 first | refine ⟨_, .inr ⟨rfl, _, rfl, .inr ⟨rfl, rfl, .inl rfl, rfl, rfl⟩, loc_q (q_load1_ptr rfl rfl rfl)⟩, ?_⟩
 first | refine ⟨_, .inr ⟨rfl, _, rfl, .inr ⟨rfl, rfl, .inr rfl, rfl, rfl⟩, loc_q (q_fadr_ptr rfl)⟩, ?_⟩
 first | refine ⟨_, .inr ⟨rfl, _, rfl, .inr ⟨rfl, rfl, .inr rfl, rfl, rfl⟩, loc_q (q_load1_ptr rfl rfl rfl)⟩, ?_⟩
 first | refine ⟨_, .inr ⟨rfl, _, rfl, .inr ⟨rfl, rfl, .inl rfl, rfl, rfl⟩, loc_call (fun i => 9 + 200 * i) false rfl (c_Compare_int  ) hP (.inr ⟨rfl, rfl, rfl⟩) rfl rfl (fun h => by cases h)⟩, ?_⟩ | refine ⟨_, .inr ⟨rfl, _, rfl, .inr ⟨rfl, rfl, .inl rfl, rfl, rfl⟩, loc_call (fun i => 9 + 200 * i) true rfl (c_Compare_int  ) hP (.inl ⟨rfl, (by repeat (first | exact lal_id _ rfl | exact LAL.nil | refine LAL.cons ?_ ?_ | exact la_id _ rfl | exact LA.lend (lend_whole rfl (by first | (simp; done) | (rw [List.length_map]; rfl))) | refine LA.agg ?_ | refine LA.fn ?_ | refine LA.lend ?_ | exact Lend.d _ | exact Lend.zs _ | exact lend_whole rfl (by first | (simp; done) | (rw [List.length_map]; rfl)) | refine Lend.ptr rfl ?_ | refine Lend.fn ?_ | exact LendL.nil | refine LendL.cons ?_ ?_))⟩) rfl rfl (fun _ => ⟨rfl, noisl_of (by repeat (first | exact trivial | refine ⟨noisl_map (fun _ => rfl), ?_⟩ | refine ⟨?_, ?_⟩))⟩)⟩, ?_⟩
 first | refine ⟨_, .inr ⟨rfl, _, rfl, .inr ⟨rfl, rfl, .inr rfl, rfl, rfl⟩, loc_q (q_fadr_ptr rfl)⟩, ?_⟩
 first | refine ⟨_, .inr ⟨rfl, _, rfl, .inr ⟨rfl, rfl, .inr rfl, rfl, rfl⟩, loc_q (q_load1_ptr rfl rfl rfl)⟩, ?_⟩
 first | refine ⟨_, .inr ⟨rfl, _, rfl, .inr ⟨rfl, rfl, .inr rfl, rfl, rfl⟩, loc_q (q_fadr_ptr rfl)⟩, ?_⟩
 first | refine ⟨_, .inr ⟨rfl, _, rfl, .inr ⟨rfl, rfl, .inr rfl, rfl, rfl⟩, loc_q (q_load1_ptr rfl rfl rfl)⟩, ?_⟩
 first | refine ⟨_, .inr ⟨rfl, _, rfl, .inr ⟨rfl, rfl, .inl rfl, rfl, rfl⟩, loc_call (fun i => 14 + 200 * i) false rfl (c_Compare_int  ) hP (.inr ⟨rfl, rfl, rfl⟩) rfl rfl (fun h => by cases h)⟩, ?_⟩ | refine ⟨_, .inr ⟨rfl, _, rfl, .inr ⟨rfl, rfl, .inl rfl, rfl, rfl⟩, loc_call (fun i => 14 + 200 * i) true rfl (c_Compare_int  ) hP (.inl ⟨rfl, (by repeat (first | exact lal_id _ rfl | exact LAL.nil | refine LAL.cons ?_ ?_ | exact la_id _ rfl | exact LA.lend (lend_whole rfl (by first | (simp; done) | (rw [List.length_map]; rfl))) | refine LA.agg ?_ | refine LA.fn ?_ | refine LA.lend ?_ | exact Lend.d _ | exact Lend.zs _ | exact lend_whole rfl (by first | (simp; done) | (rw [List.length_map]; rfl)) | refine Lend.ptr rfl ?_ | refine Lend.fn ?_ | exact LendL.nil | refine LendL.cons ?_ ?_))⟩) rfl rfl (fun _ => ⟨rfl, noisl_of (by repeat (first | exact trivial | refine ⟨noisl_map (fun _ => rfl), ?_⟩ | refine ⟨?_, ?_⟩))⟩)⟩, ?_⟩
 first | refine ⟨_, .inr ⟨rfl, _, rfl, .inr ⟨rfl, rfl, .inr rfl, rfl, rfl⟩, loc_q (q_fadr_ptr rfl)⟩, ?_⟩
 first | refine ⟨_, .inr ⟨rfl, _, rfl, .inr ⟨rfl, rfl, .inr rfl, rfl, rfl⟩, loc_q (q_load1_ptr rfl rfl rfl)⟩, ?_⟩
 first | refine ⟨_, .inr ⟨rfl, _, rfl, .inr ⟨rfl, rfl, .inr rfl, rfl, rfl⟩, loc_q (q_fadr_ptr rfl)⟩, ?_⟩
 first | refine ⟨_, .inr ⟨rfl, _, rfl, .inr ⟨rfl, rfl, .inr rfl, rfl, rfl⟩, loc_q (q_load1_ptr rfl rfl rfl)⟩, ?_⟩
 refine ⟨rfl, ?_⟩
 first | refine ax_call rfl (vc_pure0 (c_Compare_string  ) hP rfl rfl ?_) | refine ax_call rfl (vc_lend0 (c_Compare_string  ) hP (by repeat (first | exact lal_id _ rfl | exact LAL.nil | refine LAL.cons ?_ ?_ | exact la_id _ rfl | exact LA.lend (lend_whole rfl (by first | (simp; done) | (rw [List.length_map]; rfl))) | refine LA.agg ?_ | refine LA.fn ?_ | refine LA.lend ?_ | exact Lend.d _ | exact Lend.zs _ | exact lend_whole rfl (by first | (simp; done) | (rw [List.length_map]; rfl)) | refine Lend.ptr rfl ?_ | refine Lend.fn ?_ | exact LendL.nil | refine LendL.cons ?_ ?_)) rfl rfl ?_)
 refine ax_e (e_bslice rfl (by decide) rfl rfl) ?_
 first | refine ax_call rfl (vc_pure0 (c_Or (xs := [cmpI a.Kind b.Kind, cmpI a.N b.N, cmpS a.T b.T]) ?_) hP rfl rfl ?_) | refine ax_call rfl (vc_lend0 (c_Or (xs := [cmpI a.Kind b.Kind, cmpI a.N b.N, cmpS a.T b.T]) ?_) hP (by repeat (first | exact lal_id _ rfl | exact LAL.nil | refine LAL.cons ?_ ?_ | exact la_id _ rfl | exact LA.lend (lend_whole rfl (by first | (simp; done) | (rw [List.length_map]; rfl))) | refine LA.agg ?_ | refine LA.fn ?_ | refine LA.lend ?_ | exact Lend.d _ | exact Lend.zs _ | exact lend_whole rfl (by first | (simp; done) | (rw [List.length_map]; rfl)) | refine Lend.ptr rfl ?_ | refine Lend.fn ?_ | exact LendL.nil | refine LendL.cons ?_ ?_)) rfl rfl ?_)
 ·
  first | assumption | omega | (simp; done) | (simp; omega)
 refine ax_q (q_mov rfl) ?_
 refine ax_nil ?_
 refine cx_keep rfl rfl ?_
 refine cx_ret (ret0 rfl rfl ?_)
 exact ⟨by rw [cmpV_or]; rfl, rfl⟩


/- loop.example/g00332/impl.numberValue -/
def k_c_numberValue : XCode :=
 .seq (.ops [.op (some 2) (.alloc [.int .i64 0, .int .i64 0, .str []])])
 (.keep [0, 2] (.seq (.ops [.op (some 3) (.mov (.t 0)),
   .op (some 4) (.build [.int .i64 0, .int .i64 0, .str []] [(0, 1, .k (.int .i64 1)), (1, 1, .t 3)]),
   .op none (.store 3 (.t 2) (.t 4))])
 (.keep [2] (.ret))))
theorem k_c_numberValue_fits : fitsF Try.prog 86 ⟨5, k_c_numberValue, [.cN 2 3]⟩ = true := by kernel_rfl
theorem c_numberValue {n : Int} : Con Try.prog noMv 86 [int n] [] (fun r h => r = (vI n).av ∧ h = []) := by
 refine con_of2 k_c_numberValue_fits rfl fun C hP hmv => ?_
 unfold k_c_numberValue
 refine cx_seq ?_
 refine cx_ops ?_
 refine ax_e (e_alloc (by decide) rfl rfl) ?_
 refine ax_nil ?_
 refine cx_keep rfl rfl ?_
 refine cx_seq ?_
 refine cx_ops ?_
 refine ax_q (q_mov rfl) ?_
 refine ax_q (q_build rfl) ?_
 refine ax_e (e_st rfl rfl rfl rfl rfl rfl rfl) ?_
 refine ax_nil ?_
 refine cx_keep rfl rfl ?_
 refine cx_ret (ret0 rfl rfl ?_)
 exact ⟨rfl, rfl⟩


/- loop.example/g00332/impl.columnOf -/
def k_c_columnOf : XCode :=
 .seq (.ops [.op (some 2) (.box (.t 0)),
   .op (some 4) (.alloc [.int .i64 0, .int .i64 0, .str []])])
 (.keep [1, 2, 4] (.seq (.drawE [[], [0], [0, 1], [], [3], [], [5], [0, 1, 2, 3, 4, 5, 6], [], [0, 1, 2, 3, 4, 5, 6, 7, 8], [0, 1, 2, 3, 4, 5, 6, 7, 8, 9]] [.op (some 5) (.fadr (.t 2) 0),
   .op (some 6) (.load1 (.t 5)),
   .call (some 7) 86 [.t 6],
   .op (some 8) (.fadr (.t 2) 1),
   .op (some 9) (.loadN 3 (.t 8)),
   .op (some 10) (.fadr (.t 2) 4),
   .op (some 11) (.loadN 3 (.t 10)),
   .op (some 12) (.build [.int .i64 0, .int .i64 0, .str [], .int .i64 0, .int .i64 0, .str [], .int .i64 0, .int .i64 0, .str []] [(0, 3, .t 7), (3, 3, .t 9), (6, 3, .t 11)]),
   .op (some 13) (.mov (.t 1))]
  [.op (some 14) (.idxA 3 3 (.t 12) (.t 13)),
   .op none (.store 3 (.t 4) (.t 14))])
 (.keep [4] (.ret))))
theorem k_c_columnOf_fits : fitsF Try.prog 63 ⟨15, k_c_columnOf, [.cN 4 3]⟩ = true := by kernel_rfl
theorem c_columnOf {w : GRow} {k : Int} (hk : 0 ≤ k ∧ k ≤ 2) : Con Try.prog noMv 63 [w.av, int k] [] (fun r h => r = (colF w k).av ∧ h = []) := by
 refine con_of2 k_c_columnOf_fits rfl fun C hP hmv => ?_
 unfold k_c_columnOf
 refine cx_seq ?_
 refine cx_ops ?_
 refine ax_e (e_box rfl rfl (by decide) rfl rfl rfl) ?_
 refine ax_e (e_alloc (by decide) rfl rfl) ?_
 refine ax_nil ?_
 refine cx_keep rfl rfl ?_
 refine cx_seq ?_
 refine cx_drawL 0 5 (fun _ => false) (fun _ => true) [] ([]) [[2], [5], [6], [2], [8], [2], [10], [7, 9, 11], [1]] [[], [], [], [], [], [], [], [], []] rfl ?_
 first | refine ⟨⟨5, _, []⟩, .inl ⟨rfl, rfl, rfl, locl_of (loc_q (q_fadr_ptr rfl))⟩, ?_⟩
 first | refine ⟨_, .inr ⟨rfl, _, rfl, .inr ⟨rfl, rfl, .inl rfl, rfl, rfl⟩, loc_q (q_load1_ptr rfl rfl rfl)⟩, ?_⟩
 first | refine ⟨_, .inr ⟨rfl, _, rfl, .inr ⟨rfl, rfl, .inl rfl, rfl, rfl⟩, loc_call (fun i => 7 + 200 * i) false rfl (c_numberValue  ) hP (.inr ⟨rfl, rfl, rfl⟩) rfl rfl (fun h => by cases h)⟩, ?_⟩ | refine ⟨_, .inr ⟨rfl, _, rfl, .inr ⟨rfl, rfl, .inl rfl, rfl, rfl⟩, loc_call (fun i => 7 + 200 * i) true rfl (c_numberValue  ) hP (.inl ⟨rfl, (by repeat (first | exact lal_id _ rfl | exact LAL.nil | refine LAL.cons ?_ ?_ | exact la_id _ rfl | exact LA.lend (lend_whole rfl (by first | (simp; done) | (rw [List.length_map]; rfl))) | refine LA.agg ?_ | refine LA.fn ?_ | refine LA.lend ?_ | exact Lend.d _ | exact Lend.zs _ | exact lend_whole rfl (by first | (simp; done) | (rw [List.length_map]; rfl)) | refine Lend.ptr rfl ?_ | refine Lend.fn ?_ | exact LendL.nil | refine LendL.cons ?_ ?_))⟩) rfl rfl (fun _ => ⟨rfl, noisl_of (by repeat (first | exact trivial | refine ⟨noisl_map (fun _ => rfl), ?_⟩ | refine ⟨?_, ?_⟩))⟩)⟩, ?_⟩
 first | refine ⟨_, .inr ⟨rfl, _, rfl, .inr ⟨rfl, rfl, .inr rfl, rfl, rfl⟩, loc_q (q_fadr_ptr rfl)⟩, ?_⟩
 first | refine ⟨_, .inr ⟨rfl, _, rfl, .inr ⟨rfl, rfl, .inr rfl, rfl, rfl⟩, loc_q (q_ldN rfl rfl rfl)⟩, ?_⟩
 first | refine ⟨_, .inr ⟨rfl, _, rfl, .inr ⟨rfl, rfl, .inr rfl, rfl, rfl⟩, loc_q (q_fadr_ptr rfl)⟩, ?_⟩
 first | refine ⟨_, .inr ⟨rfl, _, rfl, .inr ⟨rfl, rfl, .inr rfl, rfl, rfl⟩, loc_q (q_ldN rfl rfl rfl)⟩, ?_⟩
 first | refine ⟨_, .inr ⟨rfl, _, rfl, .inr ⟨rfl, rfl, .inl rfl, rfl, rfl⟩, loc_q (q_build rfl)⟩, ?_⟩
 first | refine ⟨_, .inr ⟨rfl, _, rfl, .inr ⟨rfl, rfl, .inr rfl, rfl, rfl⟩, loc_q (q_mov rfl)⟩, ?_⟩
 refine ⟨rfl, ?_⟩
 refine ax_qe (r' := (colF w k).av) (q_idxA rfl rfl (by omega)) (colF_at hk) ?_
 refine ax_e (e_st rfl rfl rfl rfl rfl rfl rfl) ?_
 refine ax_nil ?_
 refine cx_keep rfl rfl ?_
 refine cx_ret (ret0 rfl rfl ?_)
 exact ⟨rfl, rfl⟩


/- loop.example/g00332/impl.compareRows -/
def k_c_compareRows : XCode :=
 .seq (.ops [.op (some 2) (.box (.t 0)),
   .op (some 3) (.box (.t 1)),
   .op (some 4) (.mov (.k (.int .i64 0)))])
 (.keep [2, 3] (.seq (.ops [.op (some 5) (.fadr (.t 2) 0),
   .op (some 6) (.load1 (.t 5)),
   .op (some 7) (.fadr (.t 3) 0),
   .op (some 8) (.load1 (.t 7)),
   .call (some 9) 71 [.t 6, .t 8],
   .op (some 4) (.mov (.t 9))])
 (.keep [4] (.ret))))
theorem k_c_compareRows_fits : fitsF Try.prog 64 ⟨10, k_c_compareRows, [.t 4]⟩ = true := by kernel_rfl
theorem c_compareRows {a b : GRow} : Con Try.prog noMv 64 [a.av, b.av] [] (fun r h => r = int (cmpI a.Id b.Id) ∧ h = []) := by
 refine con_of2 k_c_compareRows_fits rfl fun C hP hmv => ?_
 unfold k_c_compareRows
 refine cx_seq ?_
 refine cx_ops ?_
 refine ax_e (e_box rfl rfl (by decide) rfl rfl rfl) ?_
 refine ax_e (e_box rfl rfl (by decide) rfl rfl rfl) ?_
 refine ax_q (q_mov rfl) ?_
 refine ax_nil ?_
 refine cx_keep rfl rfl ?_
 refine cx_seq ?_
 refine cx_ops ?_
 refine ax_q (q_fadr_ptr rfl) ?_
 refine ax_q (q_load1_ptr rfl rfl rfl) ?_
 refine ax_q (q_fadr_ptr rfl) ?_
 refine ax_q (q_load1_ptr rfl rfl rfl) ?_
 first | refine ax_call rfl (vc_pure0 (c_Compare_int  ) hP rfl rfl ?_) | refine ax_call rfl (vc_lend0 (c_Compare_int  ) hP (by repeat (first | exact lal_id _ rfl | exact LAL.nil | refine LAL.cons ?_ ?_ | exact la_id _ rfl | exact LA.lend (lend_whole rfl (by first | (simp; done) | (rw [List.length_map]; rfl))) | refine LA.agg ?_ | refine LA.fn ?_ | refine LA.lend ?_ | exact Lend.d _ | exact Lend.zs _ | exact lend_whole rfl (by first | (simp; done) | (rw [List.length_map]; rfl)) | refine Lend.ptr rfl ?_ | refine Lend.fn ?_ | exact LendL.nil | refine LendL.cons ?_ ?_)) rfl rfl ?_)
 refine ax_q (q_mov rfl) ?_
 refine ax_nil ?_
 refine cx_keep rfl rfl ?_
 refine cx_ret (ret0 rfl rfl ?_)
 exact ⟨rfl, rfl⟩


/- loop.example/g00332/impl.sortRows$1 -/
def k_c_sortRows1 : XCode :=
 .seq (.ops [.op (some 3) (.box (.t 0)),
   .op (some 4) (.box (.t 1)),
   .op (some 5) (.mov (.k (.int .i64 0)))])
 (.keep [2, 3, 4] (.seq (.drawE [[], [], [0, 1], [], [], [0, 1, 2, 3, 4], [0, 1, 2, 3, 4, 5], [], [], [0, 1, 2, 3, 4, 5, 6, 7, 8], [0, 1, 2, 3, 4, 5, 6, 7, 8, 9], [0, 1, 2, 3, 4, 5, 6, 7, 8, 9, 10], [0, 1, 2, 3, 4, 5, 6, 7, 8, 9, 10, 11]] [.op (some 6) (.loadN 7 (.t 3)),
   .op (some 7) (.load1 (.t 2)),
   .call (some 8) 63 [.t 6, .t 7],
   .op (some 9) (.loadN 7 (.t 4)),
   .op (some 10) (.load1 (.t 2)),
   .call (some 11) 63 [.t 9, .t 10],
   .call (some 12) 46 [.t 8, .t 11],
   .op (some 13) (.loadN 7 (.t 3)),
   .op (some 14) (.loadN 7 (.t 4))]
  [.call (some 15) 64 [.t 13, .t 14],
   .op (some 16) (.bslice 1 [.t 12, .t 15]),
   .call (some 17) 62 [.t 16],
   .op (some 5) (.mov (.t 17))])
 (.keep [5] (.ret))))
theorem k_c_sortRows1_fits : fitsF Try.prog 61 ⟨18, k_c_sortRows1, [.t 5]⟩ = true := by kernel_rfl
theorem c_sortRows1 {a b : GRow} {k : Int} (hk : 0 ≤ k ∧ k ≤ 2) : Con Try.prog noMv 61 [a.av, b.av, .d (.ip [.int .i64 k])] [] (fun r h => r = int (cmpR k a b) ∧ h = []) := by
 refine con_of2 k_c_sortRows1_fits rfl fun C hP hmv => ?_
 unfold k_c_sortRows1
 refine cx_seq ?_
 refine cx_ops ?_
 refine ax_e (e_box rfl rfl (by decide) rfl rfl rfl) ?_
 refine ax_e (e_box rfl rfl (by decide) rfl rfl rfl) ?_
 refine ax_q (q_mov rfl) ?_
 refine ax_nil ?_
 refine cx_keep rfl rfl ?_
 refine cx_seq ?_
 refine cx_drawL 0 6 (fun _ => false) (fun _ => true) [] ([]) [[3], [2], [6, 7], [4], [2], [9, 10], [8, 11], [3], [4]] [[], [], [], [], [], [], [], [], []] rfl ?_
 first | refine ⟨⟨6, _, []⟩, .inl ⟨rfl, rfl, rfl, locl_of (loc_q (q_ldN rfl rfl rfl))⟩, ?_⟩
 first | refine ⟨_, .inr ⟨rfl, _, rfl, .inr ⟨rfl, rfl, .inr rfl, rfl, rfl⟩, loc_q (q_load1_ptr rfl rfl rfl)⟩, ?_⟩ | refine ⟨_, .inr ⟨rfl, _, rfl, .inr ⟨rfl, rfl, .inr rfl, rfl, rfl⟩, loc_q (q_load1_ip rfl)⟩, ?_⟩ | refine ⟨_, .inr ⟨rfl, _, rfl, .inr ⟨rfl, rfl, .inr rfl, rfl, rfl⟩, loc_q (q_load1_rptr rfl rfl rfl rfl)⟩, ?_⟩ | refine ⟨_, .inr ⟨rfl, _, rfl, .inr ⟨rfl, rfl, .inr rfl, rfl, rfl⟩, loc_q (q_load1_rptr rfl rfl (by assumption) rfl)⟩, ?_⟩ | refine ⟨_, .inr ⟨rfl, _, rfl, .inr ⟨rfl, rfl, .inr rfl, rfl, rfl⟩, loc_q (q_load1_rptr rfl rfl (mapAt (by first | assumption | omega)) rfl)⟩, ?_⟩
 first | refine ⟨_, .inr ⟨rfl, _, rfl, .inr ⟨rfl, rfl, .inl rfl, rfl, rfl⟩, loc_call (fun i => 8 + 200 * i) false rfl (c_columnOf (w := a) (k := k) (by first | assumption | omega | (simp; done) | (simp; omega))) hP (.inr ⟨rfl, rfl, rfl⟩) rfl rfl (fun h => by cases h)⟩, ?_⟩ | refine ⟨_, .inr ⟨rfl, _, rfl, .inr ⟨rfl, rfl, .inl rfl, rfl, rfl⟩, loc_call (fun i => 8 + 200 * i) true rfl (c_columnOf (w := a) (k := k) (by first | assumption | omega | (simp; done) | (simp; omega))) hP (.inl ⟨rfl, (by repeat (first | exact lal_id _ rfl | exact LAL.nil | refine LAL.cons ?_ ?_ | exact la_id _ rfl | exact LA.lend (lend_whole rfl (by first | (simp; done) | (rw [List.length_map]; rfl))) | refine LA.agg ?_ | refine LA.fn ?_ | refine LA.lend ?_ | exact Lend.d _ | exact Lend.zs _ | exact lend_whole rfl (by first | (simp; done) | (rw [List.length_map]; rfl)) | refine Lend.ptr rfl ?_ | refine Lend.fn ?_ | exact LendL.nil | refine LendL.cons ?_ ?_))⟩) rfl rfl (fun _ => ⟨rfl, noisl_of (by repeat (first | exact trivial | refine ⟨noisl_map (fun _ => rfl), ?_⟩ | refine ⟨?_, ?_⟩))⟩)⟩, ?_⟩
 first | refine ⟨_, .inr ⟨rfl, _, rfl, .inr ⟨rfl, rfl, .inr rfl, rfl, rfl⟩, loc_q (q_ldN rfl rfl rfl)⟩, ?_⟩
 first | refine ⟨_, .inr ⟨rfl, _, rfl, .inr ⟨rfl, rfl, .inr rfl, rfl, rfl⟩, loc_q (q_load1_ptr rfl rfl rfl)⟩, ?_⟩ | refine ⟨_, .inr ⟨rfl, _, rfl, .inr ⟨rfl, rfl, .inr rfl, rfl, rfl⟩, loc_q (q_load1_ip rfl)⟩, ?_⟩ | refine ⟨_, .inr ⟨rfl, _, rfl, .inr ⟨rfl, rfl, .inr rfl, rfl, rfl⟩, loc_q (q_load1_rptr rfl rfl rfl rfl)⟩, ?_⟩ | refine ⟨_, .inr ⟨rfl, _, rfl, .inr ⟨rfl, rfl, .inr rfl, rfl, rfl⟩, loc_q (q_load1_rptr rfl rfl (by assumption) rfl)⟩, ?_⟩ | refine ⟨_, .inr ⟨rfl, _, rfl, .inr ⟨rfl, rfl, .inr rfl, rfl, rfl⟩, loc_q (q_load1_rptr rfl rfl (mapAt (by first | assumption | omega)) rfl)⟩, ?_⟩
 first | refine ⟨_, .inr ⟨rfl, _, rfl, .inr ⟨rfl, rfl, .inl rfl, rfl, rfl⟩, loc_call (fun i => 11 + 200 * i) false rfl (c_columnOf (w := b) (k := k) (by first | assumption | omega | (simp; done) | (simp; omega))) hP (.inr ⟨rfl, rfl, rfl⟩) rfl rfl (fun h => by cases h)⟩, ?_⟩ | refine ⟨_, .inr ⟨rfl, _, rfl, .inr ⟨rfl, rfl, .inl rfl, rfl, rfl⟩, loc_call (fun i => 11 + 200 * i) true rfl (c_columnOf (w := b) (k := k) (by first | assumption | omega | (simp; done) | (simp; omega))) hP (.inl ⟨rfl, (by repeat (first | exact lal_id _ rfl | exact LAL.nil | refine LAL.cons ?_ ?_ | exact la_id _ rfl | exact LA.lend (lend_whole rfl (by first | (simp; done) | (rw [List.length_map]; rfl))) | refine LA.agg ?_ | refine LA.fn ?_ | refine LA.lend ?_ | exact Lend.d _ | exact Lend.zs _ | exact lend_whole rfl (by first | (simp; done) | (rw [List.length_map]; rfl)) | refine Lend.ptr rfl ?_ | refine Lend.fn ?_ | exact LendL.nil | refine LendL.cons ?_ ?_))⟩) rfl rfl (fun _ => ⟨rfl, noisl_of (by repeat (first | exact trivial | refine ⟨noisl_map (fun _ => rfl), ?_⟩ | refine ⟨?_, ?_⟩))⟩)⟩, ?_⟩
 first | refine ⟨_, .inr ⟨rfl, _, rfl, .inr ⟨rfl, rfl, .inl rfl, rfl, rfl⟩, loc_call (fun i => 12 + 200 * i) false rfl (c_compareValues (a := colF a k) (b := colF b k) ) hP (.inr ⟨rfl, rfl, rfl⟩) rfl rfl (fun h => by cases h)⟩, ?_⟩ | refine ⟨_, .inr ⟨rfl, _, rfl, .inr ⟨rfl, rfl, .inl rfl, rfl, rfl⟩, loc_call (fun i => 12 + 200 * i) true rfl (c_compareValues (a := colF a k) (b := colF b k) ) hP (.inl ⟨rfl, (by repeat (first | exact lal_id _ rfl | exact LAL.nil | refine LAL.cons ?_ ?_ | exact la_id _ rfl | exact LA.lend (lend_whole rfl (by first | (simp; done) | (rw [List.length_map]; rfl))) | refine LA.agg ?_ | refine LA.fn ?_ | refine LA.lend ?_ | exact Lend.d _ | exact Lend.zs _ | exact lend_whole rfl (by first | (simp; done) | (rw [List.length_map]; rfl)) | refine Lend.ptr rfl ?_ | refine Lend.fn ?_ | exact LendL.nil | refine LendL.cons ?_ ?_))⟩) rfl rfl (fun _ => ⟨rfl, noisl_of (by repeat (first | exact trivial | refine ⟨noisl_map (fun _ => rfl), ?_⟩ | refine ⟨?_, ?_⟩))⟩)⟩, ?_⟩
 first | refine ⟨_, .inr ⟨rfl, _, rfl, .inr ⟨rfl, rfl, .inr rfl, rfl, rfl⟩, loc_q (q_ldN rfl rfl rfl)⟩, ?_⟩
 first | refine ⟨_, .inr ⟨rfl, _, rfl, .inr ⟨rfl, rfl, .inr rfl, rfl, rfl⟩, loc_q (q_ldN rfl rfl rfl)⟩, ?_⟩
 refine ⟨rfl, ?_⟩
 first | refine ax_call rfl (vc_pure0 (c_compareRows (a := a) (b := b) ) hP rfl rfl ?_) | refine ax_call rfl (vc_lend0 (c_compareRows (a := a) (b := b) ) hP (by repeat (first | exact lal_id _ rfl | exact LAL.nil | refine LAL.cons ?_ ?_ | exact la_id _ rfl | exact LA.lend (lend_whole rfl (by first | (simp; done) | (rw [List.length_map]; rfl))) | refine LA.agg ?_ | refine LA.fn ?_ | refine LA.lend ?_ | exact Lend.d _ | exact Lend.zs _ | exact lend_whole rfl (by first | (simp; done) | (rw [List.length_map]; rfl)) | refine Lend.ptr rfl ?_ | refine Lend.fn ?_ | exact LendL.nil | refine LendL.cons ?_ ?_)) rfl rfl ?_)
 refine ax_e (e_bslice rfl (by decide) rfl rfl) ?_
 first | refine ax_call rfl (vc_pure0 (c_Or (xs := [cmpV (colF a k) (colF b k), cmpI a.Id b.Id]) ?_) hP rfl rfl ?_) | refine ax_call rfl (vc_lend0 (c_Or (xs := [cmpV (colF a k) (colF b k), cmpI a.Id b.Id]) ?_) hP (by repeat (first | exact lal_id _ rfl | exact LAL.nil | refine LAL.cons ?_ ?_ | exact la_id _ rfl | exact LA.lend (lend_whole rfl (by first | (simp; done) | (rw [List.length_map]; rfl))) | refine LA.agg ?_ | refine LA.fn ?_ | refine LA.lend ?_ | exact Lend.d _ | exact Lend.zs _ | exact lend_whole rfl (by first | (simp; done) | (rw [List.length_map]; rfl)) | refine Lend.ptr rfl ?_ | refine Lend.fn ?_ | exact LendL.nil | refine LendL.cons ?_ ?_)) rfl rfl ?_)
 ·
  first | assumption | omega | (simp; done) | (simp; omega)
 refine ax_q (q_mov rfl) ?_
 refine ax_nil ?_
 refine cx_keep rfl rfl ?_
 refine cx_ret (ret0 rfl rfl ?_)
 exact ⟨rfl, rfl⟩


/- slices.Reverse[[]loop.example/g00332/impl.Row,loop.example/g00332/impl.Row] -/
def k_c_Reverse : XCode :=
 .seq (.ops [.op (some 4) (.mov (.t 0)),
   .op (some 5) (.lenS (.t 4)),
   .op (some 6) (.bin .sub (.t 5) (.k (.int .i64 1))),
   .op (some 2) (.mov (.k (.int .i64 0))),
   .op (some 3) (.mov (.t 6))])
 (.keep [0, 2, 3] (.block 0 (.loop (.seq (.seq (.ops [.op (some 7) (.mov (.t 2)),
    .op (some 8) (.mov (.t 3)),
    .op (some 9) (.bin .lss (.t 7) (.t 8))])
   (.keep [0, 2, 3, 9] (.cond (.t 9)
   (.skip)
   (.exit 0))))
  (.keep [0, 2, 3] (.seq (.block 1 (.drawE [[], [], [], [], [], [], [4, 5], [4, 5, 6], [], [], [8, 9], [8, 9, 10], [0, 1, 4, 5, 6, 7, 8, 9, 10, 11], [0, 1, 4, 5, 6, 7, 8, 9, 10, 11, 12], [0, 1, 2, 3, 4, 5, 6, 7, 8, 9, 10, 11, 12, 13], [0, 1, 2, 3, 4, 5, 6, 7, 8, 9, 10, 11, 12, 13, 14]] [.op (some 14) (.mov (.t 0)),
    .op (some 15) (.mov (.t 2)),
    .op (some 16) (.mov (.t 0)),
    .op (some 17) (.mov (.t 3)),
    .op (some 18) (.mov (.t 0)),
    .op (some 19) (.mov (.t 3)),
    .op (some 20) (.iadr 7 (.t 18) (.t 19)),
    .op (some 21) (.loadN 7 (.t 20)),
    .op (some 22) (.mov (.t 0)),
    .op (some 23) (.mov (.t 2)),
    .op (some 24) (.iadr 7 (.t 22) (.t 23)),
    .op (some 25) (.loadN 7 (.t 24)),
    .op (some 26) (.iadr 7 (.t 14) (.t 15)),
    .op none (.store 7 (.t 26) (.t 21))]
    [.op (some 27) (.iadr 7 (.t 16) (.t 17)),
    .op none (.store 7 (.t 27) (.t 25))]))
  (.keep [0, 2, 3] (.ops [.op (some 10) (.mov (.t 2)),
   .op (some 11) (.bin .add (.t 10) (.k (.int .i64 1))),
   .op (some 12) (.mov (.t 3)),
   .op (some 13) (.bin .sub (.t 12) (.k (.int .i64 1))),
   .op (some 2) (.mov (.t 11)),
   .op (some 3) (.mov (.t 13))]))))))))
theorem k_c_Reverse_fits : fitsF Try.prog 65 ⟨28, k_c_Reverse, []⟩ = true := by kernel_rfl
set_option maxHeartbeats 2000000 in
theorem c_Reverse {xs : List GRow} (hl : xs.length ≤ 1048576) : Con Try.prog noMv 65 [.osl 1000 7 0 xs.length] [(1000, .rows 7 (xs.map GRow.row))] (fun r h => r = .tup [] ∧ h = [(1000, .rows 7 (xs.reverse.map GRow.row))]) := by
 refine con_of2 k_c_Reverse_fits rfl fun C hP hmv => ?_
 unfold k_c_Reverse
 refine cx_seq ?_
 refine cx_ops ?_
 refine ax_q (q_mov rfl) ?_
 first | refine ax_q (q_lenS_map rfl) ?_ | refine ax_q (q_lenS_osl rfl) ?_ | refine ax_q (q_lenS_zs rfl) ?_ | refine ax_q (q_lenS rfl) ?_
 refine ax_qe (r' := int ((xs.length : Int) - 1 - (0 : Nat))) (q_ibin rfl rfl rfl) (by rw [wi (by omega) (by omega)]; exact congrArg AM.int (by omega)) ?_
 refine ax_q (q_mov rfl) ?_
 refine ax_q (q_mov rfl) ?_
 refine ax_nil ?_
 refine cx_keep rfl rfl ?_
 refine cx_block ?_
 refine cx_loopU (fun n i => 2 * i ≤ xs.length ∧ n = xs.length - i) (fun i : Nat => [(2, int i), (3, int ((xs.length : Int) - 1 - i))]) (fun i => [(1000, .rows 7 ((revK xs i).map GRow.row))]) ⟨_, 0, ⟨Nat.zero_le _, rfl⟩, by repeat (first | exact trivial | refine ⟨rfl, ?_⟩ | refine ⟨?_, ?_⟩)⟩ ?_
 rintro n i ⟨hi, rfl⟩
 have hrl := @revK_len _ xs i
 refine cx_seq ?_
 refine cx_seq ?_
 refine cx_ops ?_
 refine ax_q (q_mov rfl) ?_
 refine ax_q (q_mov rfl) ?_
 refine ax_q (q_ibin rfl rfl rfl) ?_
 refine ax_nil ?_
 refine cx_keep rfl rfl ?_
 refine cx_cond rfl (fun h0 => ?_) (fun h0 => ?_)
 ·
  have h0 := dT h0
  refine cx_skip ?_
  refine cx_keep rfl rfl ?_
  refine cx_seq ?_
  refine cx_block ?_
  refine cx_drawL 13 5000 (fun _ => false) (fun _ => true) [] ([(1000, .rows 7 (((revK xs i).set i ((revK xs i)[(xs.length - 1 - i)]'(by omega))).map GRow.row))]) [[0], [2], [0], [3], [0], [3], [18, 19], [20], [0], [2], [22, 23], [24], [14, 15], [21, 26]] [[], [], [1000], [1000], [], [], [], [], [], [], [], [], [], [1000]] rfl ?_
  first | refine ⟨_, .inr ⟨rfl, _, rfl, .inl rfl, loc_q (q_mov rfl)⟩, ?_⟩
  first | refine ⟨_, .inr ⟨rfl, _, rfl, .inl rfl, loc_q (q_mov rfl)⟩, ?_⟩
  first | refine ⟨_, .inr ⟨rfl, _, rfl, .inr ⟨rfl, rfl, .inr rfl, rfl, rfl⟩, loc_q (q_mov rfl)⟩, ?_⟩
  first | refine ⟨_, .inr ⟨rfl, _, rfl, .inr ⟨rfl, rfl, .inr rfl, rfl, rfl⟩, loc_q (q_mov rfl)⟩, ?_⟩
  first | refine ⟨_, .inr ⟨rfl, _, rfl, .inl rfl, loc_q (q_mov rfl)⟩, ?_⟩
  first | refine ⟨_, .inr ⟨rfl, _, rfl, .inl rfl, loc_q (q_mov rfl)⟩, ?_⟩
  first | refine ⟨_, .inr ⟨rfl, _, rfl, .inl rfl, loc_q (q_ixoI rfl rfl (by omega) (by omega))⟩, ?_⟩
  first | refine ⟨_, .inr ⟨rfl, _, rfl, .inl rfl, loc_q (q_loadN_rptr (r := GRow.row ((revK xs i)[(xs.length - 1 - i)]'(by omega))) rfl rfl (by rw [show ((xs.length : Int) - 1 - i).toNat = (xs.length - 1 - i) from by omega]; exact mapAt (by omega)) (by decide))⟩, ?_⟩
  first | refine ⟨_, .inr ⟨rfl, _, rfl, .inl rfl, loc_q (q_mov rfl)⟩, ?_⟩
  first | refine ⟨_, .inr ⟨rfl, _, rfl, .inl rfl, loc_q (q_mov rfl)⟩, ?_⟩
  first | refine ⟨_, .inr ⟨rfl, _, rfl, .inl rfl, loc_q (q_ixo rfl rfl (by omega))⟩, ?_⟩
  first | refine ⟨_, .inr ⟨rfl, _, rfl, .inl rfl, loc_q (q_loadN_rptr (r := GRow.row ((revK xs i)[i]'(by omega))) rfl rfl (mapAt (by omega)) (by decide))⟩, ?_⟩
  first | refine ⟨_, .inr ⟨rfl, _, rfl, .inl rfl, loc_q (q_ixo rfl rfl (by omega))⟩, ?_⟩
  refine ⟨⟨5000, .dead, []⟩, .inl ⟨rfl, rfl, rfl, locl_str (row := GRow.row ((revK xs i)[i]'(by omega))) (q := GRow.row ((revK xs i)[(xs.length - 1 - i)]'(by omega))) rfl rfl rfl rfl rfl rfl (mapAt (by omega)) rfl rfl List.map_set.symm⟩, ?_⟩
  refine ⟨rfl, ?_⟩
  refine ax_q (q_ixoI rfl rfl (by omega) (by omega)) ?_
  refine ax_e (e_str (i := ((xs.length : Int) - 1 - i).toNat) (rs' := (((revK xs i).set i ((revK xs i)[(xs.length - 1 - i)]'(by omega))).set (xs.length - 1 - i) ((revK xs i)[i]'(by omega))).map GRow.row) (row := GRow.row (((revK xs i).set i ((revK xs i)[(xs.length - 1 - i)]'(by omega)))[(xs.length - 1 - i)]'(by rw [List.length_set]; omega))) (q := GRow.row ((revK xs i)[i]'(by omega))) rfl rfl rfl rfl rfl rfl (by rw [show ((xs.length : Int) - 1 - i).toNat = (xs.length - 1 - i) from by omega]; exact mapAt (by rw [List.length_set]; omega)) rfl rfl (by rw [show ((xs.length : Int) - 1 - i).toNat = (xs.length - 1 - i) from by omega]; exact List.map_set.symm)) ?_
  refine ax_nil ?_
  refine cx_keep rfl rfl ?_
  refine cx_ops ?_
  refine ax_q (q_mov rfl) ?_
  refine ax_qe (r' := int ((i + 1 : Nat) : Int)) (q_ibin rfl rfl rfl) (by rw [wi (by omega) (by omega)]; rfl) ?_
  refine ax_q (q_mov rfl) ?_
  refine ax_qe (r' := int ((xs.length : Int) - 1 - ((i + 1 : Nat) : Int))) (q_ibin rfl rfl rfl) (by rw [wi (by omega) (by omega)]; exact congrArg AM.int (by omega)) ?_
  refine ax_q (q_mov rfl) ?_
  refine ax_q (q_mov rfl) ?_
  refine ax_nil ?_
  exact ⟨_, i + 1, by omega, ⟨by omega, rfl⟩, by rw [show revK xs (i + 1) = _ from swpL_at (l := revK xs i) (by omega) (by omega)]; exact (by repeat (first | exact trivial | refine ⟨rfl, ?_⟩ | refine ⟨?_, ?_⟩))⟩
 ·
  have h0 := dF h0
  have he : revK xs i = xs.reverse := revK_all hi (by omega)
  rw [he]
  refine cx_exit rfl ?_
  refine retN id [1000] rfl rfl rfl rfl rfl ?_
  exact ⟨rfl, rfl⟩


/- loop.example/g00332/impl.sortRows -/
def k_c_sortRows : XCode :=
 .seq (.ops [.op (some 4) (.box (.t 1)),
   .op (some 6) (.mov (.k (.nils 7)))])
 (.keep [0, 2, 4] (.seq (.ops [.op (some 8) (.mov (.t 0)),
   .call (some 9) 29 [.t 8],
   .op (some 7) (.mov (.t 9))])
 (.keep [2, 4, 7] (.seq (.ops [.op (some 10) (.mov (.t 7)),
   .op (some 11) (.mkfn 61 [.t 4]),
   .call (some 12) 60 [.t 10, .t 11]])
 (.keep [2, 7] (.seq (.seq (.ops [.op (some 13) (.mov (.t 2))])
  (.keep [7, 13] (.cond (.t 13)
  (.ops [.op (some 14) (.mov (.t 7)),
    .call (some 15) 65 [.t 14]])
  (.skip))))
 (.keep [7] (.seq (.ops [.op (some 16) (.mov (.t 7)),
   .op (some 6) (.mov (.t 16))])
 (.keep [6] (.ret))))))))))
theorem k_c_sortRows_fits : fitsF Try.prog 42 ⟨17, k_c_sortRows, [.t 6]⟩ = true := by kernel_rfl
theorem c_sortRows {xs : List GRow} {k : Int} {down : Bool} (hl : xs.length ≤ 12) (hk : 0 ≤ k ∧ k ≤ 2) : Con Try.prog noMv 42 [.d (.sl 7 (xs.map GRow.row)), int k, bool down] [] (fun r h => r = .osl 0 7 0 (srtF xs k down).length ∧ h = [(0, .rows 7 ((srtF xs k down).map GRow.row))]) := by
 refine con_of2 k_c_sortRows_fits rfl fun C hP hmv => ?_
 unfold k_c_sortRows
 refine cx_seq ?_
 refine cx_ops ?_
 refine ax_e (e_box rfl rfl (by decide) rfl rfl rfl) ?_
 refine ax_q (q_mov rfl) ?_
 refine ax_nil ?_
 refine cx_keep rfl rfl ?_
 refine cx_seq ?_
 refine cx_ops ?_
 refine ax_q (q_mov rfl) ?_
 first | refine ax_call rfl (vc_pure (c_Clone_Row  ?_) hP rfl ?_) | refine ax_call rfl (vc_lend (c_Clone_Row  ?_) hP (by repeat (first | exact lal_id _ rfl | exact LAL.nil | refine LAL.cons ?_ ?_ | exact la_id _ rfl | exact LA.lend (lend_whole rfl (by first | (simp; done) | (rw [List.length_map]; rfl))) | refine LA.agg ?_ | refine LA.fn ?_ | refine LA.lend ?_ | exact Lend.d _ | exact Lend.zs _ | exact lend_whole rfl (by first | (simp; done) | (rw [List.length_map]; rfl)) | refine Lend.ptr rfl ?_ | refine Lend.fn ?_ | exact LendL.nil | refine LendL.cons ?_ ?_)) ?_)
 ·
  first | assumption | omega | (simp; done) | (simp; omega)
 rintro r h ⟨rfl, rfl⟩
 refine ⟨fun i => 9 + 200 * i, [0], ⟨rfl, rfl, rfl, rfl, rfl, (by first | exact (fun h => absurd h Bool.false_ne_true) | exact (fun _ => ⟨rfl, (noisl_of (by repeat (first | exact trivial | refine ⟨noisl_map (fun _ => rfl), ?_⟩ | refine ⟨?_, ?_⟩)))⟩))⟩, ?_⟩
 skip
 refine ax_q (q_mov rfl) ?_
 refine ax_nil ?_
 refine cx_keep rfl rfl ?_
 refine cx_seq ?_
 refine cx_ops ?_
 refine ax_q (q_mov rfl) ?_
 refine ax_q (q_mkfn rfl) ?_
 refine ax_call rfl (vcall_own (c_SortFunc (xs := xs) (ds := [.ip [.int .i64 k]]) (cmpR k) hl (by kernel_rfl) (fun a _ b _ => c_sortRows1 hk)) hP hmv true (fun _ => 9) [1000] ⟨rfl, rfl, rfl, rfl, ⟨rfl, trivial⟩, rfl, rfl, rfl⟩ (.pass rfl rfl (.lend (LA.lend (Lend.fn (LendL.cons (Lend.ptr rfl (LendL.cons (Lend.d _) LendL.nil)) LendL.nil))) .nil)) ?_)
 rintro r h ⟨rfl, rfl⟩
 refine ⟨fun _ => 9, [], ⟨rfl, rfl, rfl, rfl, mem1 rfl, rfl, rfl, fun _ => ⟨rfl, noisl_of (show noislL [_] from ⟨noisl_map (fun _ => rfl), trivial⟩)⟩⟩, ?_⟩
 have hsl : (sortS (ltR k) xs).length = xs.length := sortS_len
 refine ax_nil ?_
 refine cx_keep rfl rfl ?_
 refine cx_seq ?_
 refine cx_seq ?_
 refine cx_ops ?_
 refine ax_q (q_mov rfl) ?_
 refine ax_nil ?_
 refine cx_keep rfl rfl ?_
 refine cx_cond rfl (fun h0 => ?_) (fun h0 => ?_)
 ·
  skip
  refine cx_ops ?_
  refine ax_q (q_mov rfl) ?_
  rw [← hsl]
  refine ax_call rfl (vcall_own (c_Reverse (xs := (sortS (ltR k) xs)) (by omega)) hP hmv false (fun _ => 9) [1000] ⟨rfl, rfl, rfl, rfl, ⟨rfl, trivial⟩, rfl, rfl, rfl⟩ (.pass rfl rfl .nil) ?_)
  rintro r h ⟨rfl, rfl⟩
  refine ⟨fun _ => 9, [], ⟨rfl, rfl, rfl, rfl, mem1 rfl, rfl, rfl, fun h => absurd h Bool.false_ne_true⟩, ?_⟩
  refine ax_nil ?_
  refine cx_keep rfl rfl ?_
  refine cx_seq ?_
  refine cx_ops ?_
  refine ax_q (q_mov rfl) ?_
  refine ax_q (q_mov rfl) ?_
  refine ax_nil ?_
  refine cx_keep rfl rfl ?_
  refine cx_ret (retN (fun _ => 0) [9] rfl rfl rfl rfl rfl ?_)
  unfold srtF; rw [if_pos h0]; exact ⟨by rw [List.length_reverse]; rfl, rfl⟩
 ·
  skip
  refine cx_skip ?_
  refine cx_keep rfl rfl ?_
  refine cx_seq ?_
  refine cx_ops ?_
  refine ax_q (q_mov rfl) ?_
  refine ax_q (q_mov rfl) ?_
  refine ax_nil ?_
  refine cx_keep rfl rfl ?_
  refine cx_ret (retN (fun _ => 0) [9] rfl rfl rfl rfl rfl ?_)
  unfold srtF; rw [if_neg (by rw [h0]; simp)]; exact ⟨by rw [hsl]; rfl, rfl⟩


/- loop.example/g00332/impl.SortRows -/
def k_c_SortRows : XCode :=
 .seq (.ops [.op (some 6) (.mov (.k (.nils 7))),
   .op (some 7) (.mov (.k (.int .i64 0)))])
 (.keep [0, 1, 2] (.seq (.block 0 (.seq (.ops [.op (some 9) (.mov (.t 0)),
    .op (some 10) (.lenS (.t 9)),
    .op (some 11) (.bin .gtr (.t 10) (.k (.int .i64 4096))),
    .op (some 8) (.mov (.t 11))])
  (.keep [0, 1, 2, 8] (.cond (.t 8)
   (.seq (.ops [.op (some 6) (.mov (.k (.nils 7))),
     .op (some 7) (.mov (.k (.int .i64 2)))])
   (.keep [6, 7] (.ret)))
   (.seq (.ops [.op (some 13) (.mov (.t 0)),
     .op (some 14) (.lenS (.t 13)),
     .op (some 15) (.bin .gtr (.t 14) (.k (.int .i64 100))),
     .op (some 12) (.mov (.t 15))])
   (.keep [0, 1, 2, 12] (.cond (.t 12)
    (.seq (.ops [.op (some 6) (.mov (.k (.nils 7))),
      .op (some 7) (.mov (.k (.int .i64 6)))])
    (.keep [6, 7] (.ret)))
    (.seq (.ops [.op (some 17) (.mov (.t 0)),
      .call (some 18) 40 [.t 17],
      .op (some 19) (.not (.t 18)),
      .op (some 16) (.mov (.t 19))])
    (.keep [0, 1, 2, 16] (.cond (.t 16)
     (.seq (.ops [.op (some 6) (.mov (.k (.nils 7))),
       .op (some 7) (.mov (.k (.int .i64 1)))])
     (.keep [6, 7] (.ret)))
     (.seq (.ops [.op (some 21) (.mov (.t 1)),
       .call (some 22) 41 [.t 21, .k (.int .i64 3)],
       .op (some 23) (.not (.t 22)),
       .op (some 20) (.mov (.t 23))])
     (.keep [0, 1, 2, 20] (.cond (.t 20)
      (.seq (.ops [.op (some 6) (.mov (.k (.nils 7))),
        .op (some 7) (.mov (.k (.int .i64 4)))])
      (.keep [6, 7] (.ret)))
      (.skip))))))))))))))
 (.keep [0, 1, 2] (.seq (.ops [.op (some 24) (.mov (.t 0)),
   .op (some 25) (.mov (.t 1)),
   .op (some 26) (.mov (.t 2)),
   .call (some 27) 42 [.t 24, .t 25, .t 26],
   .op (some 6) (.mov (.t 27)),
   .op (some 7) (.mov (.k (.int .i64 0)))])
 (.keep [6, 7] (.ret))))))
theorem k_c_SortRows_fits : fitsF Try.prog 20 ⟨28, k_c_SortRows, [.t 6, .t 7]⟩ = true := by kernel_rfl
theorem c_SortRows {xs : List GRow} {k : Int} {down : Bool} (hg : RG xs 6) (hk : 0 ≤ k ∧ k ≤ 2) : Con Try.prog noMv 20 [.d (.sl 7 (xs.map GRow.row)), int k, bool down] [] (fun r h => r = .tup [.osl 0 7 0 (srtF xs k down).length, int 0] ∧ h = [(0, .rows 7 ((srtF xs k down).map GRow.row))]) := by
 refine con_of2 k_c_SortRows_fits rfl fun C hP hmv => ?_
 unfold k_c_SortRows
 have hln := hg.ln
 have hsz := fun x (hx : x ∈ xs) => row_sz (hg.ok x hx)
 refine cx_seq ?_
 refine cx_ops ?_
 refine ax_q (q_mov rfl) ?_
 refine ax_q (q_mov rfl) ?_
 refine ax_nil ?_
 refine cx_keep rfl rfl ?_
 refine cx_seq ?_
 refine cx_block ?_
 refine cx_seq ?_
 refine cx_ops ?_
 refine ax_q (q_mov rfl) ?_
 first | refine ax_q (q_lenS_map rfl) ?_ | refine ax_q (q_lenS_osl rfl) ?_ | refine ax_q (q_lenS_zs rfl) ?_ | refine ax_q (q_lenS rfl) ?_
 refine ax_q (q_ibin rfl rfl rfl) ?_
 refine ax_q (q_mov rfl) ?_
 refine ax_nil ?_
 refine cx_keep rfl rfl ?_
 refine cx_cond rfl (fun h0 => ?_) (fun h0 => ?_)
 ·
  have h0 := dT h0
  exfalso; omega
 ·
  have h0 := dF h0
  refine cx_seq ?_
  refine cx_ops ?_
  refine ax_q (q_mov rfl) ?_
  first | refine ax_q (q_lenS_map rfl) ?_ | refine ax_q (q_lenS_osl rfl) ?_ | refine ax_q (q_lenS_zs rfl) ?_ | refine ax_q (q_lenS rfl) ?_
  refine ax_q (q_ibin rfl rfl rfl) ?_
  refine ax_q (q_mov rfl) ?_
  refine ax_nil ?_
  refine cx_keep rfl rfl ?_
  refine cx_cond rfl (fun h1 => ?_) (fun h1 => ?_)
  ·
   have h1 := dT h1
   exfalso; omega
  ·
   have h1 := dF h1
   refine cx_seq ?_
   refine cx_ops ?_
   refine ax_q (q_mov rfl) ?_
   first | refine ax_call rfl (vc_pure0 (c_areRows  ?_) hP rfl rfl ?_) | refine ax_call rfl (vc_lend0 (c_areRows  ?_) hP (by repeat (first | exact lal_id _ rfl | exact LAL.nil | refine LAL.cons ?_ ?_ | exact la_id _ rfl | exact LA.lend (lend_whole rfl (by first | (simp; done) | (rw [List.length_map]; rfl))) | refine LA.agg ?_ | refine LA.fn ?_ | refine LA.lend ?_ | exact Lend.d _ | exact Lend.zs _ | exact lend_whole rfl (by first | (simp; done) | (rw [List.length_map]; rfl)) | refine Lend.ptr rfl ?_ | refine Lend.fn ?_ | exact LendL.nil | refine LendL.cons ?_ ?_)) rfl rfl ?_)
   ·
    first | assumption | omega | (simp; done) | (simp; omega)
   refine ax_q (q_not rfl) ?_
   refine ax_q (q_mov rfl) ?_
   refine ax_nil ?_
   refine cx_keep rfl rfl ?_
   refine cx_cond rfl (fun h2 => ?_) (fun h2 => ?_)
   ·
    skip
    exact absurd h2 Bool.false_ne_true
   ·
    skip
    refine cx_seq ?_
    refine cx_ops ?_
    refine ax_q (q_mov rfl) ?_
    first | refine ax_call rfl (vc_pure0 (c_isPlace  ?_) hP rfl rfl ?_) | refine ax_call rfl (vc_lend0 (c_isPlace  ?_) hP (by repeat (first | exact lal_id _ rfl | exact LAL.nil | refine LAL.cons ?_ ?_ | exact la_id _ rfl | exact LA.lend (lend_whole rfl (by first | (simp; done) | (rw [List.length_map]; rfl))) | refine LA.agg ?_ | refine LA.fn ?_ | refine LA.lend ?_ | exact Lend.d _ | exact Lend.zs _ | exact lend_whole rfl (by first | (simp; done) | (rw [List.length_map]; rfl)) | refine Lend.ptr rfl ?_ | refine Lend.fn ?_ | exact LendL.nil | refine LendL.cons ?_ ?_)) rfl rfl ?_)
    ·
     first | assumption | omega | (simp; done) | (simp; omega)
    refine ax_q (q_not rfl) ?_
    refine ax_q (q_mov rfl) ?_
    refine ax_nil ?_
    refine cx_keep rfl rfl ?_
    refine cx_cond rfl (fun h3 => ?_) (fun h3 => ?_)
    ·
     have h3 := bT h3
     exfalso; rw [inR_iff.2 (show 0 ≤ k ∧ k ≤ 3 - 1 by omega)] at h3; cases h3
    ·
     have h3 := bF h3
     refine cx_skip ?_
     refine cx_keep rfl rfl ?_
     refine cx_seq ?_
     refine cx_ops ?_
     refine ax_q (q_mov rfl) ?_
     refine ax_q (q_mov rfl) ?_
     refine ax_q (q_mov rfl) ?_
     first | refine ax_call rfl (vc_pure (c_sortRows (xs := xs) (k := k) (down := down) ?_ ?_) hP rfl ?_) | refine ax_call rfl (vc_lend (c_sortRows (xs := xs) (k := k) (down := down) ?_ ?_) hP (by repeat (first | exact lal_id _ rfl | exact LAL.nil | refine LAL.cons ?_ ?_ | exact la_id _ rfl | exact LA.lend (lend_whole rfl (by first | (simp; done) | (rw [List.length_map]; rfl))) | refine LA.agg ?_ | refine LA.fn ?_ | refine LA.lend ?_ | exact Lend.d _ | exact Lend.zs _ | exact lend_whole rfl (by first | (simp; done) | (rw [List.length_map]; rfl)) | refine Lend.ptr rfl ?_ | refine Lend.fn ?_ | exact LendL.nil | refine LendL.cons ?_ ?_)) ?_)
     ·
      first | assumption | omega | (simp; done) | (simp; omega)
     ·
      first | assumption | omega | (simp; done) | (simp; omega)
     rintro r h ⟨rfl, rfl⟩
     refine ⟨fun i => 27 + 200 * i, [0], ⟨rfl, rfl, rfl, rfl, rfl, (by first | exact (fun h => absurd h Bool.false_ne_true) | exact (fun _ => ⟨rfl, (noisl_of (by repeat (first | exact trivial | refine ⟨noisl_map (fun _ => rfl), ?_⟩ | refine ⟨?_, ?_⟩)))⟩))⟩, ?_⟩
     skip
     refine ax_q (q_mov rfl) ?_
     refine ax_q (q_mov rfl) ?_
     refine ax_nil ?_
     refine cx_keep rfl rfl ?_
     refine cx_ret (retN (fun _ => 0) [27] rfl rfl rfl rfl rfl ?_)
     exact ⟨rfl, rfl⟩


/- loop.example/g00332/spec.l01In -/
def k_c_l01In : XCode :=
 .seq (.ops [.op (some 6) (.mov (.k (.bool false)))])
 (.keep [0, 1, 2] (.seq (.ops [.op (some 7) (.mov (.t 1)),
   .op (some 8) (.mov (.t 0)),
   .op (some 9) (.bin .leq (.t 7) (.t 8)),
   .op (some 10) (.mov (.t 9)),
   .andor 14 true 3 10 [.op (some 11) (.mov (.t 0)), .op (some 12) (.mov (.t 2)), .op (some 13) (.bin .leq (.t 11) (.t 12))] (.t 13),
   .op (some 6) (.mov (.t 14))])
 (.keep [6] (.ret))))
theorem k_c_l01In_fits : fitsF Try.prog 32 ⟨15, k_c_l01In, [.t 6]⟩ = true := by kernel_rfl
theorem c_l01In {n lo hi : Int} : Con Try.prog noMv 32 [int n, int lo, int hi] [] (fun r h => r = bool (inR n lo hi) ∧ h = []) := by
 refine con_of2 k_c_l01In_fits rfl fun C hP hmv => ?_
 unfold k_c_l01In
 refine cx_seq ?_
 refine cx_ops ?_
 refine ax_q (q_mov rfl) ?_
 refine ax_nil ?_
 refine cx_keep rfl rfl ?_
 refine cx_seq ?_
 refine cx_ops ?_
 refine ax_q (q_mov rfl) ?_
 refine ax_q (q_mov rfl) ?_
 refine ax_q (q_ibin rfl rfl rfl) ?_
 refine ax_q (q_mov rfl) ?_
 apply ax_and rfl rfl
 ·
  intro g
  have g := dT g
  refine ax_q (q_mov rfl) ?_
  refine ax_q (q_mov rfl) ?_
  refine ax_q (q_ibin rfl rfl rfl) ?_
  exact ax_nil ⟨rfl, by repeat (first | exact trivial | refine ⟨rfl, ?_⟩ | refine ⟨?_, ?_⟩)⟩
 refine ax_q (q_mov rfl) ?_
 refine ax_nil ?_
 refine cx_keep rfl rfl ?_
 refine cx_ret (ret0 rfl rfl ?_)
 exact ⟨rfl, rfl⟩


/- loop.example/g00332/spec.ValueOK -/
def k_c_sValueOK : XCode :=
 .seq (.ops [.op (some 1) (.box (.t 0)),
   .op (some 2) (.mov (.k (.bool false)))])
 (.keep [1] (.seq (.seq (.ops [.op (some 4) (.fadr (.t 1) 0),
   .op (some 5) (.load1 (.t 4))])
  (.keep [1, 5] (.block 0 (.seq (.ops [.op (some 7) (.bin .eql (.t 5) (.k (.int .i64 0))),
    .op (some 6) (.mov (.t 7))])
  (.keep [1, 5, 6] (.cond (.t 6)
   (.seq (.ops [.op (some 8) (.fadr (.t 1) 1),
     .op (some 9) (.load1 (.t 8)),
     .op (some 10) (.bin .eql (.t 9) (.k (.int .i64 0))),
     .op (some 11) (.mov (.t 10)),
     .andor 15 true 3 11 [.op (some 12) (.fadr (.t 1) 2), .op (some 13) (.load1 (.t 12)), .op (some 14) (.bin .eql (.t 13) (.k (.str [])))] (.t 14),
     .op (some 2) (.mov (.t 15))])
   (.keep [2] (.ret)))
   (.seq (.ops [.op (some 17) (.bin .eql (.t 5) (.k (.int .i64 1))),
     .op (some 16) (.mov (.t 17))])
   (.keep [1, 5, 16] (.cond (.t 16)
    (.seq (.ops [.op (some 18) (.fadr (.t 1) 1),
      .op (some 19) (.load1 (.t 18)),
      .call (some 20) 32 [.t 19, .k (.int .i64 (-1000000000)), .k (.int .i64 1000000000)],
      .op (some 21) (.mov (.t 20)),
      .andor 25 true 3 21 [.op (some 22) (.fadr (.t 1) 2), .op (some 23) (.load1 (.t 22)), .op (some 24) (.bin .eql (.t 23) (.k (.str [])))] (.t 24),
      .op (some 2) (.mov (.t 25))])
    (.keep [2] (.ret)))
    (.seq (.ops [.op (some 27) (.bin .eql (.t 5) (.k (.int .i64 2))),
      .op (some 26) (.mov (.t 27))])
    (.keep [1, 26] (.cond (.t 26)
     (.seq (.seq (.ops [.op (some 28) (.fadr (.t 1) 1),
       .op (some 29) (.load1 (.t 28)),
       .op (some 30) (.bin .neq (.t 29) (.k (.int .i64 0))),
       .op (some 31) (.mov (.t 30)),
       .andor 36 false 3 31 [.op (some 32) (.fadr (.t 1) 2), .op (some 33) (.load1 (.t 32)), .op (some 34) (.lenT (.t 33)), .op (some 35) (.bin .gtr (.t 34) (.k (.int .i64 10)))] (.t 35)])
      (.keep [1, 36] (.cond (.t 36)
      (.seq (.ops [.op (some 2) (.mov (.k (.bool false)))])
       (.keep [2] (.ret)))
      (.skip))))
     (.keep [1] (.seq (.seq (.ops [.op (some 3) (.mov (.k (.int .i64 0)))])
      (.keep [1, 3] (.block 1 (.loop (.seq (.seq (.ops [.op (some 37) (.mov (.t 3)),
         .op (some 38) (.fadr (.t 1) 2),
         .op (some 39) (.load1 (.t 38)),
         .op (some 40) (.lenT (.t 39)),
         .op (some 41) (.bin .lss (.t 37) (.t 40))])
       (.keep [1, 3, 41] (.cond (.t 41)
        (.skip)
        (.exit 1))))
       (.keep [1, 3] (.seq (.block 2 (.seq (.ops [.op (some 44) (.fadr (.t 1) 2),
         .op (some 45) (.load1 (.t 44)),
         .op (some 46) (.mov (.t 3)),
         .op (some 47) (.idxS (.t 45) (.t 46)),
         .op (some 48) (.conv .i64 (.t 47)),
         .call (some 49) 32 [.t 48, .k (.int .i64 97), .k (.int .i64 122)],
         .op (some 50) (.not (.t 49))])
        (.keep [1, 3, 50] (.cond (.t 50)
        (.seq (.ops [.op (some 2) (.mov (.k (.bool false)))])
         (.keep [2] (.ret)))
        (.skip)))))
       (.keep [1, 3] (.ops [.op (some 42) (.mov (.t 3)),
        .op (some 43) (.bin .add (.t 42) (.k (.int .i64 1))),
        .op (some 3) (.mov (.t 43))])))))))))
     (.keep [] (.seq (.ops [.op (some 2) (.mov (.k (.bool true)))])
     (.keep [2] (.ret)))))))
     (.skip)))))))))))))
 (.keep [] (.seq (.ops [.op (some 2) (.mov (.k (.bool false)))])
 (.keep [2] (.ret))))))
theorem k_c_sValueOK_fits : fitsF Try.prog 83 ⟨51, k_c_sValueOK, [.t 2]⟩ = true := by kernel_rfl
theorem c_sValueOK {v : GValue} (hv : v.T.length ≤ 1048576) : Con Try.prog noMv 83 [v.av] [] (fun r h => r = bool (valueOK v) ∧ h = []) := by
 refine con_of2 k_c_sValueOK_fits rfl fun C hP hmv => ?_
 unfold k_c_sValueOK
 refine cx_seq ?_
 refine cx_ops ?_
 refine ax_e (e_box rfl rfl (by decide) rfl rfl rfl) ?_
 refine ax_q (q_mov rfl) ?_
 refine ax_nil ?_
 refine cx_keep rfl rfl ?_
 refine cx_seq ?_
 refine cx_seq ?_
 refine cx_ops ?_
 refine ax_q (q_fadr_ptr rfl) ?_
 refine ax_q (q_load1_ptr rfl rfl rfl) ?_
 refine ax_nil ?_
 refine cx_keep rfl rfl ?_
 refine cx_block ?_
 refine cx_seq ?_
 refine cx_ops ?_
 refine ax_q (q_ibin rfl rfl rfl) ?_
 refine ax_q (q_mov rfl) ?_
 refine ax_nil ?_
 refine cx_keep rfl rfl ?_
 refine cx_cond rfl (fun h0 => ?_) (fun h0 => ?_)
 ·
  have h0 := dT h0
  refine cx_seq ?_
  refine cx_ops ?_
  refine ax_q (q_fadr_ptr rfl) ?_
  refine ax_q (q_load1_ptr rfl rfl rfl) ?_
  refine ax_q (q_ibin rfl rfl rfl) ?_
  refine ax_q (q_mov rfl) ?_
  apply ax_and rfl rfl
  ·
   intro g
   have g := dT g
   refine ax_q (q_fadr_ptr rfl) ?_
   refine ax_q (q_load1_ptr rfl rfl rfl) ?_
   refine ax_q (q_sbin rfl rfl rfl) ?_
   exact ax_nil ⟨rfl, by repeat (first | exact trivial | refine ⟨rfl, ?_⟩ | refine ⟨?_, ?_⟩)⟩
  refine ax_q (q_mov rfl) ?_
  refine ax_nil ?_
  refine cx_keep rfl rfl ?_
  refine cx_ret (ret0 rfl rfl ?_)
  exact ⟨by rw [valueOK_0 h0] <;> rfl, rfl⟩
 ·
  have h0 := dF h0
  refine cx_seq ?_
  refine cx_ops ?_
  refine ax_q (q_ibin rfl rfl rfl) ?_
  refine ax_q (q_mov rfl) ?_
  refine ax_nil ?_
  refine cx_keep rfl rfl ?_
  refine cx_cond rfl (fun h1 => ?_) (fun h1 => ?_)
  ·
   have h1 := dT h1
   refine cx_seq ?_
   refine cx_ops ?_
   refine ax_q (q_fadr_ptr rfl) ?_
   refine ax_q (q_load1_ptr rfl rfl rfl) ?_
   first | refine ax_call rfl (vc_pure0 (c_l01In  ) hP rfl rfl ?_) | refine ax_call rfl (vc_lend0 (c_l01In  ) hP (by repeat (first | exact lal_id _ rfl | exact LAL.nil | refine LAL.cons ?_ ?_ | exact la_id _ rfl | exact LA.lend (lend_whole rfl (by first | (simp; done) | (rw [List.length_map]; rfl))) | refine LA.agg ?_ | refine LA.fn ?_ | refine LA.lend ?_ | exact Lend.d _ | exact Lend.zs _ | exact lend_whole rfl (by first | (simp; done) | (rw [List.length_map]; rfl)) | refine Lend.ptr rfl ?_ | refine Lend.fn ?_ | exact LendL.nil | refine LendL.cons ?_ ?_)) rfl rfl ?_)
   refine ax_q (q_mov rfl) ?_
   apply ax_and rfl rfl
   ·
    intro g
    refine ax_q (q_fadr_ptr rfl) ?_
    refine ax_q (q_load1_ptr rfl rfl rfl) ?_
    refine ax_q (q_sbin rfl rfl rfl) ?_
    exact ax_nil ⟨rfl, by repeat (first | exact trivial | refine ⟨rfl, ?_⟩ | refine ⟨?_, ?_⟩)⟩
   refine ax_q (q_mov rfl) ?_
   refine ax_nil ?_
   refine cx_keep rfl rfl ?_
   refine cx_ret (ret0 rfl rfl ?_)
   exact ⟨by rw [valueOK_1 h1] <;> rfl, rfl⟩
  ·
   have h1 := dF h1
   refine cx_seq ?_
   refine cx_ops ?_
   refine ax_q (q_ibin rfl rfl rfl) ?_
   refine ax_q (q_mov rfl) ?_
   refine ax_nil ?_
   refine cx_keep rfl rfl ?_
   refine cx_cond rfl (fun h2 => ?_) (fun h2 => ?_)
   ·
    have h2 := dT h2
    refine cx_seq ?_
    refine cx_seq ?_
    refine cx_ops ?_
    refine ax_q (q_fadr_ptr rfl) ?_
    refine ax_q (q_load1_ptr rfl rfl rfl) ?_
    refine ax_q (q_ibin rfl rfl rfl) ?_
    refine ax_q (q_mov rfl) ?_
    apply ax_or rfl rfl
    ·
     intro g
     have g := nF g
     refine ax_q (q_fadr_ptr rfl) ?_
     refine ax_q (q_load1_ptr rfl rfl rfl) ?_
     refine ax_q (q_lenT rfl) ?_
     refine ax_q (q_ibin rfl rfl rfl) ?_
     exact ax_nil ⟨rfl, by repeat (first | exact trivial | refine ⟨rfl, ?_⟩ | refine ⟨?_, ?_⟩)⟩
    refine ax_nil ?_
    refine cx_keep rfl rfl ?_
    refine cx_cond rfl (fun h3 => ?_) (fun h3 => ?_)
    ·
     have h3 := (fun h => (or_T h).imp nT dT) h3
     refine cx_seq ?_
     refine cx_ops ?_
     refine ax_q (q_mov rfl) ?_
     refine ax_nil ?_
     refine cx_keep rfl rfl ?_
     refine cx_ret (ret0 rfl rfl ?_)
     have e : valueOK v = false := by
      rw [valueOK_2 h0 h1]
      rcases h3 with h | h
      ·
       simp [h]
      ·
       unfold isWord; rw [decide_eq_false (show ¬ ((v.T.length : Int) ≤ 10) from by omega)]; simp
     exact ⟨by rw [e] <;> rfl, rfl⟩
    ·
     have h3 := (fun h => And.intro (nF (or_F h).1) (dF (or_F h).2)) h3
     refine cx_skip ?_
     refine cx_keep rfl rfl ?_
     refine cx_seq ?_
     refine cx_seq ?_
     refine cx_ops ?_
     refine ax_q (q_mov rfl) ?_
     refine ax_nil ?_
     refine cx_keep rfl rfl ?_
     refine cx_block ?_
     refine cx_loopU (fun n k => k ≤ v.T.length ∧ n = v.T.length - k ∧ ∀ j, j < k → ∀ x, v.T[j]? = some x → badCh x = false) (fun k : Nat => [(3, int k)]) (fun _ => [(1, .box [.d (.int .i64 v.Kind), .d (.int .i64 v.N), .d (.str v.T)])]) ⟨_, 0, ⟨Nat.zero_le _, rfl, fun j hj => by omega⟩, by repeat (first | exact trivial | refine ⟨rfl, ?_⟩ | refine ⟨?_, ?_⟩)⟩ ?_
     rintro n k ⟨hk, rfl, hb⟩
     refine cx_seq ?_
     refine cx_seq ?_
     refine cx_ops ?_
     refine ax_q (q_mov rfl) ?_
     refine ax_q (q_fadr_ptr rfl) ?_
     refine ax_q (q_load1_ptr rfl rfl rfl) ?_
     refine ax_q (q_lenT rfl) ?_
     refine ax_q (q_ibin rfl rfl rfl) ?_
     refine ax_nil ?_
     refine cx_keep rfl rfl ?_
     refine cx_cond rfl (fun h4 => ?_) (fun h4 => ?_)
     ·
      have h4 := dT h4
      have h4x : k < v.T.length := by omega
      refine cx_skip ?_
      refine cx_keep rfl rfl ?_
      refine cx_seq ?_
      refine cx_block ?_
      refine cx_seq ?_
      refine cx_ops ?_
      refine ax_q (q_fadr_ptr rfl) ?_
      refine ax_q (q_load1_ptr rfl rfl rfl) ?_
      refine ax_q (q_mov rfl) ?_
      refine ax_q (q_idxN rfl rfl (by first | assumption | omega)) ?_
      first | refine ax_q (q_convB rfl) ?_ | refine ax_q (q_convI rfl (by omega)) ?_ | refine ax_q (q_convU8 rfl) ?_ | refine ax_q (q_conv rfl) ?_
      first | refine ax_call rfl (vc_pure0 (c_l01In  ) hP rfl rfl ?_) | refine ax_call rfl (vc_lend0 (c_l01In  ) hP (by repeat (first | exact lal_id _ rfl | exact LAL.nil | refine LAL.cons ?_ ?_ | exact la_id _ rfl | exact LA.lend (lend_whole rfl (by first | (simp; done) | (rw [List.length_map]; rfl))) | refine LA.agg ?_ | refine LA.fn ?_ | refine LA.lend ?_ | exact Lend.d _ | exact Lend.zs _ | exact lend_whole rfl (by first | (simp; done) | (rw [List.length_map]; rfl)) | refine Lend.ptr rfl ?_ | refine Lend.fn ?_ | exact LendL.nil | refine LendL.cons ?_ ?_)) rfl rfl ?_)
      refine ax_q (q_not rfl) ?_
      refine ax_nil ?_
      refine cx_keep rfl rfl ?_
      refine cx_cond rfl (fun h5 => ?_) (fun h5 => ?_)
      ·
       have h5 : badCh v.T[k] = true := h5
       refine cx_seq ?_
       refine cx_ops ?_
       refine ax_q (q_mov rfl) ?_
       refine ax_nil ?_
       refine cx_keep rfl rfl ?_
       refine cx_ret (ret0 rfl rfl ?_)
       have e : valueOK v = false := by
        rw [valueOK_2 h0 h1]; unfold isWord; rw [any_hit h4x h5]; simp
       exact ⟨by rw [e]; rfl, rfl⟩
      ·
       have h5 : badCh v.T[k] = false := h5
       refine cx_skip ?_
       refine cx_keep rfl rfl ?_
       refine cx_ops ?_
       refine ax_q (q_mov rfl) ?_
       refine ax_qe (r' := int ((k + 1 : Nat) : Int)) (q_ibin rfl rfl rfl) (by rw [wi (by omega) (by omega)]; rfl) ?_
       refine ax_q (q_mov rfl) ?_
       refine ax_nil ?_
       exact ⟨_, k + 1, by omega, ⟨by omega, rfl, before_step h4x hb h5⟩, by repeat (first | exact trivial | refine ⟨rfl, ?_⟩ | refine ⟨?_, ?_⟩)⟩
     ·
      have h4 := dF h4
      have h4x : k = v.T.length := by omega
      refine cx_exit rfl ?_
      refine cx_keep rfl rfl ?_
      refine cx_seq ?_
      refine cx_ops ?_
      refine ax_q (q_mov rfl) ?_
      refine ax_nil ?_
      refine cx_keep rfl rfl ?_
      refine cx_ret (ret0 rfl rfl ?_)
      exact ⟨by rw [valueOK_2 h0 h1]; unfold isWord; rw [any_all (fun i hi => hb i (by omega)), decide_eq_true h2, decide_eq_true (show v.N = 0 from by omega), decide_eq_true (show (v.T.length : Int) ≤ 10 from by omega)] <;> rfl, rfl⟩
   ·
    have h2 := dF h2
    refine cx_skip ?_
    refine cx_keep rfl rfl ?_
    refine cx_seq ?_
    refine cx_ops ?_
    refine ax_q (q_mov rfl) ?_
    refine ax_nil ?_
    refine cx_keep rfl rfl ?_
    refine cx_ret (ret0 rfl rfl ?_)
    exact ⟨by rw [valueOK_2 h0 h1, decide_eq_false h2] <;> rfl, rfl⟩


/- loop.example/g00332/spec.l07Row -/
def k_c_l07Row : XCode :=
 .seq (.ops [.op (some 1) (.box (.t 0)),
   .op (some 2) (.mov (.k (.bool false)))])
 (.keep [1] (.seq (.ops [.op (some 3) (.fadr (.t 1) 0),
   .op (some 4) (.load1 (.t 3)),
   .call (some 5) 32 [.t 4, .k (.int .i64 0), .k (.int .i64 1000)],
   .op (some 6) (.mov (.t 5)),
   .andor 10 true 3 6 [.op (some 7) (.fadr (.t 1) 1), .op (some 8) (.loadN 3 (.t 7)), .call (some 9) 83 [.t 8]] (.t 9),
   .op (some 11) (.mov (.t 10)),
   .andor 15 true 8 11 [.op (some 12) (.fadr (.t 1) 4), .op (some 13) (.loadN 3 (.t 12)), .call (some 14) 83 [.t 13]] (.t 14),
   .op (some 16) (.mov (.t 15)),
   .andor 21 true 13 16 [.op (some 17) (.fadr (.t 1) 1), .op (some 18) (.fadr (.t 17) 0), .op (some 19) (.load1 (.t 18)), .op (some 20) (.bin .neq (.t 19) (.k (.int .i64 2)))] (.t 20),
   .op (some 22) (.mov (.t 21)),
   .andor 27 true 19 22 [.op (some 23) (.fadr (.t 1) 4), .op (some 24) (.fadr (.t 23) 0), .op (some 25) (.load1 (.t 24)), .op (some 26) (.bin .neq (.t 25) (.k (.int .i64 1)))] (.t 26),
   .op (some 2) (.mov (.t 27))])
 (.keep [2] (.ret))))
theorem k_c_l07Row_fits : fitsF Try.prog 58 ⟨28, k_c_l07Row, [.t 2]⟩ = true := by kernel_rfl
theorem c_l07Row {a : GRow} (hv : a.N.T.length ≤ 1048576) (hw : a.Name.T.length ≤ 1048576) : Con Try.prog noMv 58 [a.av] [] (fun r h => r = bool (rowOK a) ∧ h = []) := by
 refine con_of2 k_c_l07Row_fits rfl fun C hP hmv => ?_
 unfold k_c_l07Row
 refine cx_seq ?_
 refine cx_ops ?_
 refine ax_e (e_box rfl rfl (by decide) rfl rfl rfl) ?_
 refine ax_q (q_mov rfl) ?_
 refine ax_nil ?_
 refine cx_keep rfl rfl ?_
 refine cx_seq ?_
 refine cx_ops ?_
 refine ax_q (q_fadr_ptr rfl) ?_
 refine ax_q (q_load1_ptr rfl rfl rfl) ?_
 first | refine ax_call rfl (vc_pure0 (c_l01In  ) hP rfl rfl ?_) | refine ax_call rfl (vc_lend0 (c_l01In  ) hP (by repeat (first | exact lal_id _ rfl | exact LAL.nil | refine LAL.cons ?_ ?_ | exact la_id _ rfl | exact LA.lend (lend_whole rfl (by first | (simp; done) | (rw [List.length_map]; rfl))) | refine LA.agg ?_ | refine LA.fn ?_ | refine LA.lend ?_ | exact Lend.d _ | exact Lend.zs _ | exact lend_whole rfl (by first | (simp; done) | (rw [List.length_map]; rfl)) | refine Lend.ptr rfl ?_ | refine Lend.fn ?_ | exact LendL.nil | refine LendL.cons ?_ ?_)) rfl rfl ?_)
 refine ax_q (q_mov rfl) ?_
 apply ax_and rfl rfl
 ·
  intro g
  refine ax_q (q_fadr_ptr rfl) ?_
  refine ax_q (q_ldN rfl rfl rfl) ?_
  first | refine ax_call rfl (vc_pure0 (c_sValueOK (v := a.N) ?_) hP rfl rfl ?_) | refine ax_call rfl (vc_lend0 (c_sValueOK (v := a.N) ?_) hP (by repeat (first | exact lal_id _ rfl | exact LAL.nil | refine LAL.cons ?_ ?_ | exact la_id _ rfl | exact LA.lend (lend_whole rfl (by first | (simp; done) | (rw [List.length_map]; rfl))) | refine LA.agg ?_ | refine LA.fn ?_ | refine LA.lend ?_ | exact Lend.d _ | exact Lend.zs _ | exact lend_whole rfl (by first | (simp; done) | (rw [List.length_map]; rfl)) | refine Lend.ptr rfl ?_ | refine Lend.fn ?_ | exact LendL.nil | refine LendL.cons ?_ ?_)) rfl rfl ?_)
  ·
   first | assumption | omega | (simp; done) | (simp; omega)
  exact ax_nil ⟨rfl, by repeat (first | exact trivial | refine ⟨rfl, ?_⟩ | refine ⟨?_, ?_⟩)⟩
 refine ax_q (q_mov rfl) ?_
 apply ax_and rfl rfl
 ·
  intro g
  have g := (fun h => And.intro (id (and_T h).1) (id (and_T h).2)) g
  refine ax_q (q_fadr_ptr rfl) ?_
  refine ax_q (q_ldN rfl rfl rfl) ?_
  first | refine ax_call rfl (vc_pure0 (c_sValueOK (v := a.Name) ?_) hP rfl rfl ?_) | refine ax_call rfl (vc_lend0 (c_sValueOK (v := a.Name) ?_) hP (by repeat (first | exact lal_id _ rfl | exact LAL.nil | refine LAL.cons ?_ ?_ | exact la_id _ rfl | exact LA.lend (lend_whole rfl (by first | (simp; done) | (rw [List.length_map]; rfl))) | refine LA.agg ?_ | refine LA.fn ?_ | refine LA.lend ?_ | exact Lend.d _ | exact Lend.zs _ | exact lend_whole rfl (by first | (simp; done) | (rw [List.length_map]; rfl)) | refine Lend.ptr rfl ?_ | refine Lend.fn ?_ | exact LendL.nil | refine LendL.cons ?_ ?_)) rfl rfl ?_)
  ·
   first | assumption | omega | (simp; done) | (simp; omega)
  exact ax_nil ⟨rfl, by repeat (first | exact trivial | refine ⟨rfl, ?_⟩ | refine ⟨?_, ?_⟩)⟩
 refine ax_q (q_mov rfl) ?_
 apply ax_and rfl rfl
 ·
  intro g
  have g := (fun h => And.intro ((fun h => And.intro (id (and_T h).1) (id (and_T h).2)) (and_T h).1) (id (and_T h).2)) g
  refine ax_q (q_fadr_ptr rfl) ?_
  refine ax_q (q_fadr_ptr rfl) ?_
  refine ax_q (q_load1_ptr rfl rfl rfl) ?_
  refine ax_q (q_ibin rfl rfl rfl) ?_
  exact ax_nil ⟨rfl, by repeat (first | exact trivial | refine ⟨rfl, ?_⟩ | refine ⟨?_, ?_⟩)⟩
 refine ax_q (q_mov rfl) ?_
 apply ax_and rfl rfl
 ·
  intro g
  have g := (fun h => And.intro ((fun h => And.intro ((fun h => And.intro (id (and_T h).1) (id (and_T h).2)) (and_T h).1) (id (and_T h).2)) (and_T h).1) (nT (and_T h).2)) g
  refine ax_q (q_fadr_ptr rfl) ?_
  refine ax_q (q_fadr_ptr rfl) ?_
  refine ax_q (q_load1_ptr rfl rfl rfl) ?_
  refine ax_q (q_ibin rfl rfl rfl) ?_
  exact ax_nil ⟨rfl, by repeat (first | exact trivial | refine ⟨rfl, ?_⟩ | refine ⟨?_, ?_⟩)⟩
 refine ax_q (q_mov rfl) ?_
 refine ax_nil ?_
 refine cx_keep rfl rfl ?_
 refine cx_ret (ret0 rfl rfl ?_)
 exact ⟨rfl, rfl⟩


/- loop.example/g00332/spec.l12Rows -/
def k_c_l12Rows : XCode :=
 .seq (.ops [.op (some 2) (.mov (.k (.bool false)))])
 (.keep [0] (.seq (.seq (.ops [.op (some 3) (.mov (.k (.int .i64 0)))])
  (.keep [0, 3] (.block 0 (.loop (.seq (.seq (.ops [.op (some 4) (.mov (.t 3)),
     .op (some 5) (.mov (.t 0)),
     .op (some 6) (.lenS (.t 5)),
     .op (some 7) (.bin .lss (.t 4) (.t 6))])
   (.keep [0, 3, 7] (.cond (.t 7)
    (.skip)
    (.exit 0))))
   (.keep [0, 3] (.seq (.block 1 (.seq (.draw [.op (some 10) (.mov (.t 0)),
     .op (some 11) (.mov (.t 3)),
     .op (some 12) (.iadr 7 (.t 10) (.t 11)),
     .op (some 13) (.loadN 7 (.t 12)),
     .call (some 14) 58 [.t 13],
     .op (some 15) (.not (.t 14)),
     .op (some 16) (.mov (.t 15)),
     .andor 33 false 6 16 [.op (some 17) (.mov (.t 3)), .op (some 18) (.bin .gtr (.t 17) (.k (.int .i64 0))), .op (some 19) (.mov (.t 18)), .andor 32 true 9 19 [.op (some 20) (.mov (.t 0)), .op (some 21) (.mov (.t 3)), .op (some 22) (.bin .sub (.t 21) (.k (.int .i64 1))), .op (some 23) (.iadr 7 (.t 20) (.t 22)), .op (some 24) (.fadr (.t 23) 0), .op (some 25) (.load1 (.t 24)), .op (some 26) (.mov (.t 0)), .op (some 27) (.mov (.t 3)), .op (some 28) (.iadr 7 (.t 26) (.t 27)), .op (some 29) (.fadr (.t 28) 0), .op (some 30) (.load1 (.t 29)), .op (some 31) (.bin .geq (.t 25) (.t 30))] (.t 31)] (.t 32)])
    (.keep [0, 3, 33] (.cond (.t 33)
    (.seq (.ops [.op (some 2) (.mov (.k (.bool false)))])
     (.keep [2] (.ret)))
    (.skip)))))
   (.keep [0, 3] (.ops [.op (some 8) (.mov (.t 3)),
    .op (some 9) (.bin .add (.t 8) (.k (.int .i64 1))),
    .op (some 3) (.mov (.t 9))])))))))))
 (.keep [] (.seq (.ops [.op (some 2) (.mov (.k (.bool true)))])
 (.keep [2] (.ret))))))
theorem k_c_l12Rows_fits : fitsF Try.prog 43 ⟨34, k_c_l12Rows, [.t 2]⟩ = true := by kernel_rfl
theorem c_l12Rows {xs : List GRow} (hg : RG xs 6) : Con Try.prog noMv 43 [.d (.sl 7 (xs.map GRow.row))] [] (fun r h => r = bool true ∧ h = []) := by
 refine con_of2 k_c_l12Rows_fits rfl fun C hP hmv => ?_
 unfold k_c_l12Rows
 have hln := hg.ln
 have hsz := fun x (hx : x ∈ xs) => row_sz (hg.ok x hx)
 refine cx_seq ?_
 refine cx_ops ?_
 refine ax_q (q_mov rfl) ?_
 refine ax_nil ?_
 refine cx_keep rfl rfl ?_
 refine cx_seq ?_
 refine cx_seq ?_
 refine cx_ops ?_
 refine ax_q (q_mov rfl) ?_
 refine ax_nil ?_
 refine cx_keep rfl rfl ?_
 refine cx_block ?_
 refine cx_loopU (fun n k => k ≤ xs.length ∧ n = xs.length - k) (fun k : Nat => [(3, int k)]) (fun _ => []) ⟨_, 0, ⟨Nat.zero_le _, rfl⟩, by repeat (first | exact trivial | refine ⟨rfl, ?_⟩ | refine ⟨?_, ?_⟩)⟩ ?_
 rintro n k ⟨hk, rfl⟩
 refine cx_seq ?_
 refine cx_seq ?_
 refine cx_ops ?_
 refine ax_q (q_mov rfl) ?_
 refine ax_q (q_mov rfl) ?_
 first | refine ax_q (q_lenS_map rfl) ?_ | refine ax_q (q_lenS_osl rfl) ?_ | refine ax_q (q_lenS_zs rfl) ?_ | refine ax_q (q_lenS rfl) ?_
 refine ax_q (q_ibin rfl rfl rfl) ?_
 refine ax_nil ?_
 refine cx_keep rfl rfl ?_
 refine cx_cond rfl (fun h0 => ?_) (fun h0 => ?_)
 ·
  have h0 := dT h0
  have h0x : k < xs.length := by omega
  obtain ⟨hz1, hz2⟩ := hsz _ (List.getElem_mem h0x)
  have hro := hg.ok _ (List.getElem_mem h0x)
  refine cx_skip ?_
  refine cx_keep rfl rfl ?_
  refine cx_seq ?_
  refine cx_block ?_
  refine cx_seq ?_
  refine cx_draw ?_
  refine ax_q (q_mov rfl) ?_
  refine ax_q (q_mov rfl) ?_
  refine ax_q (q_ix rfl rfl (mapAt h0x)) ?_
  first | refine ax_q (q_ldN rfl rfl rfl) ?_ | refine ax_q (q_loadN_ip rfl (Nat.le_refl _)) ?_ | refine ax_q (q_loadN_ip rfl (by decide)) ?_ | refine ax_q (q_loadN_rptr rfl rfl (by assumption) (by decide)) ?_ | refine ax_q (q_loadN_rptr rfl rfl (mapAt (by first | assumption | omega)) (by decide)) ?_
  first | refine ax_callq rfl (c_l07Row (a := xs[k]) ?_ ?_) hP (lal_id _ rfl) rfl ?_ | refine ax_callq rfl (c_l07Row (a := xs[k]) ?_ ?_) hP (by repeat (first | exact lal_id _ rfl | exact LAL.nil | refine LAL.cons ?_ ?_ | exact la_id _ rfl | exact LA.lend (lend_whole rfl (by first | (simp; done) | (rw [List.length_map]; rfl))) | refine LA.agg ?_ | refine LA.fn ?_ | refine LA.lend ?_ | exact Lend.d _ | exact Lend.zs _ | exact lend_whole rfl (by first | (simp; done) | (rw [List.length_map]; rfl)) | refine Lend.ptr rfl ?_ | refine Lend.fn ?_ | exact LendL.nil | refine LendL.cons ?_ ?_)) rfl ?_
  ·
   first | assumption | omega | (simp; done) | (simp; omega)
  ·
   first | assumption | omega | (simp; done) | (simp; omega)
  refine ax_q (q_not rfl) ?_
  refine ax_q (q_mov rfl) ?_
  apply ax_or rfl rfl
  ·
   intro g
   have g := bF g
   refine ax_q (q_mov rfl) ?_
   refine ax_q (q_ibin rfl rfl rfl) ?_
   refine ax_q (q_mov rfl) ?_
   apply ax_and rfl rfl
   ·
    intro g
    have g := dT g
    refine ax_q (q_mov rfl) ?_
    refine ax_q (q_mov rfl) ?_
    refine ax_qe (r' := int ((k - 1 : Nat) : Int)) (q_ibin rfl rfl rfl) (by rw [wi (by omega) (by omega)]; exact congrArg AM.int (by omega)) ?_
    refine ax_q (q_ix (row := GRow.row (xs.getD (k - 1) .zero)) rfl rfl (mapAtD (by omega))) ?_
    first | refine ax_q (q_fadr_ptr rfl) ?_ | refine ax_q (q_fadr_rptr rfl) ?_ | refine ax_q (q_fadr_ip rfl) ?_
    first | refine ax_q (q_load1_ptr rfl rfl rfl) ?_ | refine ax_q (q_load1_ip rfl) ?_ | refine ax_q (q_load1_rptr rfl rfl rfl rfl) ?_ | refine ax_q (q_load1_rptr rfl rfl (by assumption) rfl) ?_ | refine ax_q (q_load1_rptr rfl rfl (mapAt (by first | assumption | omega)) rfl) ?_
    refine ax_q (q_mov rfl) ?_
    refine ax_q (q_mov rfl) ?_
    refine ax_q (q_ix rfl rfl (mapAt h0x)) ?_
    first | refine ax_q (q_fadr_ptr rfl) ?_ | refine ax_q (q_fadr_rptr rfl) ?_ | refine ax_q (q_fadr_ip rfl) ?_
    first | refine ax_q (q_load1_ptr rfl rfl rfl) ?_ | refine ax_q (q_load1_ip rfl) ?_ | refine ax_q (q_load1_rptr rfl rfl rfl rfl) ?_ | refine ax_q (q_load1_rptr rfl rfl (by assumption) rfl) ?_ | refine ax_q (q_load1_rptr rfl rfl (mapAt (by first | assumption | omega)) rfl) ?_
    refine ax_q (q_ibin rfl rfl rfl) ?_
    exact ax_nil ⟨rfl, by repeat (first | exact trivial | refine ⟨rfl, ?_⟩ | refine ⟨?_, ?_⟩)⟩
   exact ax_nil ⟨rfl, by repeat (first | exact trivial | refine ⟨rfl, ?_⟩ | refine ⟨?_, ?_⟩)⟩
  refine ax_nil ?_
  refine cx_keep rfl rfl ?_
  refine cx_cond rfl (fun h1 => ?_) (fun h1 => ?_)
  ·
   have h1 := (fun h => (or_T h).imp bT (fun h => And.intro (dT (and_T h).1) (dT (and_T h).2))) h1
   exfalso
   rcases h1 with h | ⟨h, h2⟩
   ·
    rw [hro] at h; cases h
   ·
    have := hg.up (k - 1) (by omega)
    rw [getD_row (show k - 1 < xs.length by omega)] at h2
    simp only [show k - 1 + 1 = k from by omega] at this
    omega
  ·
   have h1 := (fun h => And.intro (bF (or_F h).1) ((fun h => (and_F h).imp dF dF) (or_F h).2)) h1
   refine cx_skip ?_
   refine cx_keep rfl rfl ?_
   refine cx_ops ?_
   refine ax_q (q_mov rfl) ?_
   refine ax_qe (r' := int ((k + 1 : Nat) : Int)) (q_ibin rfl rfl rfl) (by rw [wi (by omega) (by omega)]; rfl) ?_
   refine ax_q (q_mov rfl) ?_
   refine ax_nil ?_
   exact ⟨_, k + 1, by omega, ⟨by omega, rfl⟩, by repeat (first | exact trivial | refine ⟨rfl, ?_⟩ | refine ⟨?_, ?_⟩)⟩
 ·
  have h0 := dF h0
  refine cx_exit rfl ?_
  refine cx_keep rfl rfl ?_
  refine cx_seq ?_
  refine cx_ops ?_
  refine ax_q (q_mov rfl) ?_
  refine ax_nil ?_
  refine cx_keep rfl rfl ?_
  refine cx_ret (ret0 rfl rfl ?_)
  exact ⟨rfl, rfl⟩


/- loop.example/g00332/spec.l01Bit -/
def k_c_l01Bit : XCode :=
 .seq (.ops [.op (some 2) (.mov (.k (.int .i64 0)))])
 (.keep [0] (.seq (.seq (.ops [.op (some 3) (.mov (.t 0))])
  (.keep [3] (.cond (.t 3)
  (.seq (.ops [.op (some 2) (.mov (.k (.int .i64 1)))])
   (.keep [2] (.ret)))
  (.skip))))
 (.keep [] (.seq (.ops [.op (some 2) (.mov (.k (.int .i64 0)))])
 (.keep [2] (.ret))))))
theorem k_c_l01Bit_fits : fitsF Try.prog 87 ⟨4, k_c_l01Bit, [.t 2]⟩ = true := by kernel_rfl
theorem c_l01Bit {b : Bool} : Con Try.prog noMv 87 [bool b] [] (fun r h => r = int (bitI b) ∧ h = []) := by
 refine con_of2 k_c_l01Bit_fits rfl fun C hP hmv => ?_
 unfold k_c_l01Bit
 refine cx_seq ?_
 refine cx_ops ?_
 refine ax_q (q_mov rfl) ?_
 refine ax_nil ?_
 refine cx_keep rfl rfl ?_
 refine cx_seq ?_
 refine cx_seq ?_
 refine cx_ops ?_
 refine ax_q (q_mov rfl) ?_
 refine ax_nil ?_
 refine cx_keep rfl rfl ?_
 refine cx_cond rfl (fun h0 => ?_) (fun h0 => ?_)
 ·
  skip
  refine cx_seq ?_
  refine cx_ops ?_
  refine ax_q (q_mov rfl) ?_
  refine ax_nil ?_
  refine cx_keep rfl rfl ?_
  refine cx_ret (ret0 rfl rfl ?_)
  exact ⟨by rw [h0]; rfl, rfl⟩
 ·
  skip
  refine cx_skip ?_
  refine cx_keep rfl rfl ?_
  refine cx_seq ?_
  refine cx_ops ?_
  refine ax_q (q_mov rfl) ?_
  refine ax_nil ?_
  refine cx_keep rfl rfl ?_
  refine cx_ret (ret0 rfl rfl ?_)
  exact ⟨by rw [h0]; rfl, rfl⟩


/- loop.example/g00332/spec.l01Compare -/
def k_c_l01Compare : XCode :=
 .seq (.ops [.op (some 2) (.box (.t 0)),
   .op (some 3) (.box (.t 1)),
   .op (some 4) (.mov (.k (.int .i64 0)))])
 (.keep [2, 3] (.seq (.block 0 (.seq (.ops [.op (some 6) (.fadr (.t 2) 0),
    .op (some 7) (.load1 (.t 6)),
    .op (some 8) (.fadr (.t 3) 0),
    .op (some 9) (.load1 (.t 8)),
    .op (some 10) (.bin .neq (.t 7) (.t 9)),
    .op (some 5) (.mov (.t 10))])
  (.keep [2, 3, 5] (.cond (.t 5)
   (.seq (.ops [.op (some 11) (.fadr (.t 2) 0),
     .op (some 12) (.load1 (.t 11)),
     .op (some 13) (.fadr (.t 3) 0),
     .op (some 14) (.load1 (.t 13)),
     .op (some 15) (.bin .gtr (.t 12) (.t 14)),
     .call (some 16) 87 [.t 15],
     .op (some 17) (.bin .mul (.k (.int .i64 2)) (.t 16)),
     .op (some 18) (.bin .sub (.t 17) (.k (.int .i64 1))),
     .op (some 4) (.mov (.t 18))])
   (.keep [4] (.ret)))
   (.seq (.ops [.op (some 20) (.fadr (.t 2) 1),
     .op (some 21) (.load1 (.t 20)),
     .op (some 22) (.fadr (.t 3) 1),
     .op (some 23) (.load1 (.t 22)),
     .op (some 24) (.bin .neq (.t 21) (.t 23)),
     .op (some 19) (.mov (.t 24))])
   (.keep [2, 3, 19] (.cond (.t 19)
    (.seq (.ops [.op (some 25) (.fadr (.t 2) 1),
      .op (some 26) (.load1 (.t 25)),
      .op (some 27) (.fadr (.t 3) 1),
      .op (some 28) (.load1 (.t 27)),
      .op (some 29) (.bin .gtr (.t 26) (.t 28)),
      .call (some 30) 87 [.t 29],
      .op (some 31) (.bin .mul (.k (.int .i64 2)) (.t 30)),
      .op (some 32) (.bin .sub (.t 31) (.k (.int .i64 1))),
      .op (some 4) (.mov (.t 32))])
    (.keep [4] (.ret)))
    (.seq (.ops [.op (some 34) (.fadr (.t 2) 2),
      .op (some 35) (.load1 (.t 34)),
      .op (some 36) (.fadr (.t 3) 2),
      .op (some 37) (.load1 (.t 36)),
      .op (some 38) (.bin .neq (.t 35) (.t 37)),
      .op (some 33) (.mov (.t 38))])
    (.keep [2, 3, 33] (.cond (.t 33)
     (.seq (.ops [.op (some 39) (.fadr (.t 2) 2),
       .op (some 40) (.load1 (.t 39)),
       .op (some 41) (.fadr (.t 3) 2),
       .op (some 42) (.load1 (.t 41)),
       .op (some 43) (.bin .gtr (.t 40) (.t 42)),
       .call (some 44) 87 [.t 43],
       .op (some 45) (.bin .mul (.k (.int .i64 2)) (.t 44)),
       .op (some 46) (.bin .sub (.t 45) (.k (.int .i64 1))),
       .op (some 4) (.mov (.t 46))])
     (.keep [4] (.ret)))
     (.skip)))))))))))
 (.keep [] (.seq (.ops [.op (some 4) (.mov (.k (.int .i64 0)))])
 (.keep [4] (.ret))))))
theorem k_c_l01Compare_fits : fitsF Try.prog 66 ⟨47, k_c_l01Compare, [.t 4]⟩ = true := by kernel_rfl
theorem c_l01Compare {a b : GValue} : Con Try.prog noMv 66 [a.av, b.av] [] (fun r h => r = int (cmpV a b) ∧ h = []) := by
 refine con_of2 k_c_l01Compare_fits rfl fun C hP hmv => ?_
 unfold k_c_l01Compare
 refine cx_seq ?_
 refine cx_ops ?_
 refine ax_e (e_box rfl rfl (by decide) rfl rfl rfl) ?_
 refine ax_e (e_box rfl rfl (by decide) rfl rfl rfl) ?_
 refine ax_q (q_mov rfl) ?_
 refine ax_nil ?_
 refine cx_keep rfl rfl ?_
 refine cx_seq ?_
 refine cx_block ?_
 refine cx_seq ?_
 refine cx_ops ?_
 refine ax_q (q_fadr_ptr rfl) ?_
 refine ax_q (q_load1_ptr rfl rfl rfl) ?_
 refine ax_q (q_fadr_ptr rfl) ?_
 refine ax_q (q_load1_ptr rfl rfl rfl) ?_
 refine ax_q (q_ibin rfl rfl rfl) ?_
 refine ax_q (q_mov rfl) ?_
 refine ax_nil ?_
 refine cx_keep rfl rfl ?_
 refine cx_cond rfl (fun h0 => ?_) (fun h0 => ?_)
 ·
  have h0 := nT h0
  refine cx_seq ?_
  refine cx_ops ?_
  refine ax_q (q_fadr_ptr rfl) ?_
  refine ax_q (q_load1_ptr rfl rfl rfl) ?_
  refine ax_q (q_fadr_ptr rfl) ?_
  refine ax_q (q_load1_ptr rfl rfl rfl) ?_
  refine ax_q (q_ibin rfl rfl rfl) ?_
  first | refine ax_call rfl (vc_pure0 (c_l01Bit  ) hP rfl rfl ?_) | refine ax_call rfl (vc_lend0 (c_l01Bit  ) hP (by repeat (first | exact lal_id _ rfl | exact LAL.nil | refine LAL.cons ?_ ?_ | exact la_id _ rfl | exact LA.lend (lend_whole rfl (by first | (simp; done) | (rw [List.length_map]; rfl))) | refine LA.agg ?_ | refine LA.fn ?_ | refine LA.lend ?_ | exact Lend.d _ | exact Lend.zs _ | exact lend_whole rfl (by first | (simp; done) | (rw [List.length_map]; rfl)) | refine Lend.ptr rfl ?_ | refine Lend.fn ?_ | exact LendL.nil | refine LendL.cons ?_ ?_)) rfl rfl ?_)
  have hbb := @bitI_b (decide (b.Kind < a.Kind))
  refine ax_q (q_mul rfl rfl (by omega)) ?_
  refine ax_q (q_sub rfl rfl (by omega)) ?_
  refine ax_q (q_mov rfl) ?_
  refine ax_nil ?_
  refine cx_keep rfl rfl ?_
  refine cx_ret (ret0 rfl rfl ?_)
  exact ⟨by rw [show cmpV a b = cmpI a.Kind b.Kind from by unfold cmpV; rw [if_pos h0], cmpI_ne h0]; rfl, rfl⟩
 ·
  have h0 := nF h0
  refine cx_seq ?_
  refine cx_ops ?_
  refine ax_q (q_fadr_ptr rfl) ?_
  refine ax_q (q_load1_ptr rfl rfl rfl) ?_
  refine ax_q (q_fadr_ptr rfl) ?_
  refine ax_q (q_load1_ptr rfl rfl rfl) ?_
  refine ax_q (q_ibin rfl rfl rfl) ?_
  refine ax_q (q_mov rfl) ?_
  refine ax_nil ?_
  refine cx_keep rfl rfl ?_
  refine cx_cond rfl (fun h1 => ?_) (fun h1 => ?_)
  ·
   have h1 := nT h1
   refine cx_seq ?_
   refine cx_ops ?_
   refine ax_q (q_fadr_ptr rfl) ?_
   refine ax_q (q_load1_ptr rfl rfl rfl) ?_
   refine ax_q (q_fadr_ptr rfl) ?_
   refine ax_q (q_load1_ptr rfl rfl rfl) ?_
   refine ax_q (q_ibin rfl rfl rfl) ?_
   first | refine ax_call rfl (vc_pure0 (c_l01Bit  ) hP rfl rfl ?_) | refine ax_call rfl (vc_lend0 (c_l01Bit  ) hP (by repeat (first | exact lal_id _ rfl | exact LAL.nil | refine LAL.cons ?_ ?_ | exact la_id _ rfl | exact LA.lend (lend_whole rfl (by first | (simp; done) | (rw [List.length_map]; rfl))) | refine LA.agg ?_ | refine LA.fn ?_ | refine LA.lend ?_ | exact Lend.d _ | exact Lend.zs _ | exact lend_whole rfl (by first | (simp; done) | (rw [List.length_map]; rfl)) | refine Lend.ptr rfl ?_ | refine Lend.fn ?_ | exact LendL.nil | refine LendL.cons ?_ ?_)) rfl rfl ?_)
   have hbb := @bitI_b (decide (b.N < a.N))
   refine ax_q (q_mul rfl rfl (by omega)) ?_
   refine ax_q (q_sub rfl rfl (by omega)) ?_
   refine ax_q (q_mov rfl) ?_
   refine ax_nil ?_
   refine cx_keep rfl rfl ?_
   refine cx_ret (ret0 rfl rfl ?_)
   exact ⟨by rw [show cmpV a b = cmpI a.N b.N from by unfold cmpV; rw [if_neg (by omega), if_pos h1], cmpI_ne h1]; rfl, rfl⟩
  ·
   have h1 := nF h1
   refine cx_seq ?_
   refine cx_ops ?_
   refine ax_q (q_fadr_ptr rfl) ?_
   refine ax_q (q_load1_ptr rfl rfl rfl) ?_
   refine ax_q (q_fadr_ptr rfl) ?_
   refine ax_q (q_load1_ptr rfl rfl rfl) ?_
   refine ax_q (q_sbin rfl rfl rfl) ?_
   refine ax_q (q_mov rfl) ?_
   refine ax_nil ?_
   refine cx_keep rfl rfl ?_
   refine cx_cond rfl (fun h2 => ?_) (fun h2 => ?_)
   ·
    have h2 := nT h2
    refine cx_seq ?_
    refine cx_ops ?_
    refine ax_q (q_fadr_ptr rfl) ?_
    refine ax_q (q_load1_ptr rfl rfl rfl) ?_
    refine ax_q (q_fadr_ptr rfl) ?_
    refine ax_q (q_load1_ptr rfl rfl rfl) ?_
    refine ax_q (q_sbin rfl rfl rfl) ?_
    first | refine ax_call rfl (vc_pure0 (c_l01Bit  ) hP rfl rfl ?_) | refine ax_call rfl (vc_lend0 (c_l01Bit  ) hP (by repeat (first | exact lal_id _ rfl | exact LAL.nil | refine LAL.cons ?_ ?_ | exact la_id _ rfl | exact LA.lend (lend_whole rfl (by first | (simp; done) | (rw [List.length_map]; rfl))) | refine LA.agg ?_ | refine LA.fn ?_ | refine LA.lend ?_ | exact Lend.d _ | exact Lend.zs _ | exact lend_whole rfl (by first | (simp; done) | (rw [List.length_map]; rfl)) | refine Lend.ptr rfl ?_ | refine Lend.fn ?_ | exact LendL.nil | refine LendL.cons ?_ ?_)) rfl rfl ?_)
    have hbb := @bitI_b (!(Op.bytesLess a.T b.T || decide (a.T = b.T)))
    refine ax_q (q_mul rfl rfl (by omega)) ?_
    refine ax_q (q_sub rfl rfl (by omega)) ?_
    refine ax_q (q_mov rfl) ?_
    refine ax_nil ?_
    refine cx_keep rfl rfl ?_
    refine cx_ret (ret0 rfl rfl ?_)
    exact ⟨by rw [show cmpV a b = cmpS a.T b.T from by unfold cmpV; rw [if_neg (by omega), if_neg (by omega)], cmpS_ne h2]; rfl, rfl⟩
   ·
    have h2 := nF h2
    refine cx_skip ?_
    refine cx_keep rfl rfl ?_
    refine cx_seq ?_
    refine cx_ops ?_
    refine ax_q (q_mov rfl) ?_
    refine ax_nil ?_
    refine cx_keep rfl rfl ?_
    refine cx_ret (ret0 rfl rfl ?_)
    exact ⟨by rw [show cmpV a b = cmpS a.T b.T from by unfold cmpV; rw [if_neg (by omega), if_neg (by omega)], show cmpS a.T b.T = 0 from by unfold cmpS; rw [if_pos h2]]; rfl, rfl⟩


/- loop.example/g00332/spec.l10Int -/
def k_c_sInt : XCode :=
 .seq (.ops [.op (some 2) (.alloc [.int .i64 0, .int .i64 0, .str []])])
 (.keep [0, 2] (.seq (.ops [.op (some 3) (.mov (.t 0)),
   .op (some 4) (.build [.int .i64 0, .int .i64 0, .str []] [(0, 1, .k (.int .i64 1)), (1, 1, .t 3)]),
   .op none (.store 3 (.t 2) (.t 4))])
 (.keep [2] (.ret))))
theorem k_c_sInt_fits : fitsF Try.prog 68 ⟨5, k_c_sInt, [.cN 2 3]⟩ = true := by kernel_rfl
theorem c_sInt {n : Int} : Con Try.prog noMv 68 [int n] [] (fun r h => r = (vI n).av ∧ h = []) := by
 refine con_of2 k_c_sInt_fits rfl fun C hP hmv => ?_
 unfold k_c_sInt
 refine cx_seq ?_
 refine cx_ops ?_
 refine ax_e (e_alloc (by decide) rfl rfl) ?_
 refine ax_nil ?_
 refine cx_keep rfl rfl ?_
 refine cx_seq ?_
 refine cx_ops ?_
 refine ax_q (q_mov rfl) ?_
 refine ax_q (q_build rfl) ?_
 refine ax_e (e_st rfl rfl rfl rfl rfl rfl rfl) ?_
 refine ax_nil ?_
 refine cx_keep rfl rfl ?_
 refine cx_ret (ret0 rfl rfl ?_)
 exact ⟨rfl, rfl⟩


/- loop.example/g00332/spec.l10Column -/
def k_c_sColumn : XCode :=
 .seq (.ops [.op (some 2) (.box (.t 0)),
   .op (some 4) (.alloc [.int .i64 0, .int .i64 0, .str []])])
 (.keep [1, 2, 4] (.seq (.seq (.ops [.op (some 5) (.mov (.t 1))])
  (.keep [2, 4, 5] (.block 0 (.seq (.ops [.op (some 7) (.bin .eql (.t 5) (.k (.int .i64 0))),
    .op (some 6) (.mov (.t 7))])
  (.keep [2, 4, 5, 6] (.cond (.t 6)
   (.seq (.ops [.op (some 8) (.fadr (.t 2) 0),
     .op (some 9) (.load1 (.t 8)),
     .call (some 10) 68 [.t 9],
     .op none (.store 3 (.t 4) (.t 10))])
   (.keep [4] (.ret)))
   (.seq (.ops [.op (some 12) (.bin .eql (.t 5) (.k (.int .i64 1))),
     .op (some 11) (.mov (.t 12))])
   (.keep [2, 4, 11] (.cond (.t 11)
    (.seq (.ops [.op (some 13) (.fadr (.t 2) 1),
      .op (some 14) (.loadN 3 (.t 13)),
      .op none (.store 3 (.t 4) (.t 14))])
    (.keep [4] (.ret)))
    (.skip))))))))))
 (.keep [2, 4] (.seq (.ops [.op (some 15) (.fadr (.t 2) 4),
   .op (some 16) (.loadN 3 (.t 15)),
   .op none (.store 3 (.t 4) (.t 16))])
 (.keep [4] (.ret))))))
theorem k_c_sColumn_fits : fitsF Try.prog 67 ⟨17, k_c_sColumn, [.cN 4 3]⟩ = true := by kernel_rfl
theorem c_sColumn {w : GRow} {k : Int} : Con Try.prog noMv 67 [w.av, int k] [] (fun r h => r = (colF w k).av ∧ h = []) := by
 refine con_of2 k_c_sColumn_fits rfl fun C hP hmv => ?_
 unfold k_c_sColumn
 refine cx_seq ?_
 refine cx_ops ?_
 refine ax_e (e_box rfl rfl (by decide) rfl rfl rfl) ?_
 refine ax_e (e_alloc (by decide) rfl rfl) ?_
 refine ax_nil ?_
 refine cx_keep rfl rfl ?_
 refine cx_seq ?_
 refine cx_seq ?_
 refine cx_ops ?_
 refine ax_q (q_mov rfl) ?_
 refine ax_nil ?_
 refine cx_keep rfl rfl ?_
 refine cx_block ?_
 refine cx_seq ?_
 refine cx_ops ?_
 refine ax_q (q_ibin rfl rfl rfl) ?_
 refine ax_q (q_mov rfl) ?_
 refine ax_nil ?_
 refine cx_keep rfl rfl ?_
 refine cx_cond rfl (fun h0 => ?_) (fun h0 => ?_)
 ·
  have h0 := dT h0
  refine cx_seq ?_
  refine cx_ops ?_
  refine ax_q (q_fadr_ptr rfl) ?_
  refine ax_q (q_load1_ptr rfl rfl rfl) ?_
  first | refine ax_call rfl (vc_pure0 (c_sInt  ) hP rfl rfl ?_) | refine ax_call rfl (vc_lend0 (c_sInt  ) hP (by repeat (first | exact lal_id _ rfl | exact LAL.nil | refine LAL.cons ?_ ?_ | exact la_id _ rfl | exact LA.lend (lend_whole rfl (by first | (simp; done) | (rw [List.length_map]; rfl))) | refine LA.agg ?_ | refine LA.fn ?_ | refine LA.lend ?_ | exact Lend.d _ | exact Lend.zs _ | exact lend_whole rfl (by first | (simp; done) | (rw [List.length_map]; rfl)) | refine Lend.ptr rfl ?_ | refine Lend.fn ?_ | exact LendL.nil | refine LendL.cons ?_ ?_)) rfl rfl ?_)
  refine ax_e (e_st rfl rfl rfl rfl rfl rfl rfl) ?_
  refine ax_nil ?_
  refine cx_keep rfl rfl ?_
  refine cx_ret (ret0 rfl rfl ?_)
  exact ⟨by unfold colF; rw [if_pos h0]; rfl, rfl⟩
 ·
  have h0 := dF h0
  refine cx_seq ?_
  refine cx_ops ?_
  refine ax_q (q_ibin rfl rfl rfl) ?_
  refine ax_q (q_mov rfl) ?_
  refine ax_nil ?_
  refine cx_keep rfl rfl ?_
  refine cx_cond rfl (fun h1 => ?_) (fun h1 => ?_)
  ·
   have h1 := dT h1
   refine cx_seq ?_
   refine cx_ops ?_
   refine ax_q (q_fadr_ptr rfl) ?_
   refine ax_q (q_ldN rfl rfl rfl) ?_
   refine ax_e (e_st rfl rfl rfl rfl rfl rfl rfl) ?_
   refine ax_nil ?_
   refine cx_keep rfl rfl ?_
   refine cx_ret (ret0 rfl rfl ?_)
   exact ⟨by unfold colF; rw [if_neg h0, if_pos h1]; rfl, rfl⟩
  ·
   have h1 := dF h1
   refine cx_skip ?_
   refine cx_keep rfl rfl ?_
   refine cx_seq ?_
   refine cx_ops ?_
   refine ax_q (q_fadr_ptr rfl) ?_
   refine ax_q (q_ldN rfl rfl rfl) ?_
   refine ax_e (e_st rfl rfl rfl rfl rfl rfl rfl) ?_
   refine ax_nil ?_
   refine cx_keep rfl rfl ?_
   refine cx_ret (ret0 rfl rfl ?_)
   exact ⟨by unfold colF; rw [if_neg h0, if_neg h1]; rfl, rfl⟩


/- loop.example/g00332/spec.l12Sort -/
def k_c_l12Sort : XCode :=
 .seq (.ops [.op (some 6) (.mov (.k (.nils 7)))])
 (.keep [0, 1, 2] (.seq (.ops [.op (some 11) (.bslice 7 []),
   .op (some 7) (.mov (.t 11))])
 (.keep [0, 1, 2, 7] (.seq (.seq (.ops [.op (some 8) (.mov (.k (.int .i64 0)))])
  (.keep [0, 1, 2, 7, 8] (.block 0 (.loop (.seq (.seq (.ops [.op (some 12) (.mov (.t 8)),
     .op (some 13) (.mov (.t 0)),
     .op (some 14) (.lenS (.t 13)),
     .op (some 15) (.bin .lss (.t 12) (.t 14))])
   (.keep [0, 1, 2, 7, 8, 15] (.cond (.t 15)
    (.skip)
    (.exit 0))))
   (.keep [0, 1, 2, 7, 8] (.seq (.block 1 (.seq (.ops [.op (some 18) (.mov (.t 7)),
     .op (some 19) (.lenS (.t 18)),
     .op (some 9) (.mov (.t 19))])
    (.keep [0, 1, 2, 7, 8, 9] (.seq (.block 2 (.loop (.seq (.seq (.ops [.op (some 20) (.mov (.t 9)),
       .op (some 21) (.bin .gtr (.t 20) (.k (.int .i64 0)))])
      (.keep [0, 1, 2, 7, 8, 9, 21] (.cond (.t 21)
      (.skip)
      (.exit 2))))
     (.keep [0, 1, 2, 7, 8, 9] (.block 3 (.seq (.drawE [[], [], [1], [0, 1, 2], [0, 1, 2, 3], [], [0, 1, 2, 3, 4, 5], [], [], [7, 8], [7, 8, 9], [], [0, 1, 2, 3, 4, 5, 6, 7, 8, 9, 10, 11], [0, 1, 2, 3, 4, 5, 6, 7, 8, 9, 10, 11, 12], [0, 1, 2, 3, 4, 5, 6, 7, 8, 9, 10, 11, 12, 13]] [.op (some 22) (.mov (.t 7)),
       .op (some 23) (.mov (.t 9)),
       .op (some 24) (.bin .sub (.t 23) (.k (.int .i64 1))),
       .op (some 25) (.iadr 7 (.t 22) (.t 24)),
       .op (some 26) (.loadN 7 (.t 25)),
       .op (some 27) (.mov (.t 1)),
       .call (some 28) 67 [.t 26, .t 27],
       .op (some 29) (.mov (.t 0)),
       .op (some 30) (.mov (.t 8)),
       .op (some 31) (.iadr 7 (.t 29) (.t 30)),
       .op (some 32) (.loadN 7 (.t 31)),
       .op (some 33) (.mov (.t 1))]
       [.call (some 34) 67 [.t 32, .t 33],
       .call (some 35) 66 [.t 28, .t 34],
       .op (some 10) (.mov (.t 35))])
      (.keep [0, 1, 2, 7, 8, 9, 10] (.seq (.seq (.ops [.op (some 36) (.mov (.t 10)),
        .op (some 37) (.bin .eql (.t 36) (.k (.int .i64 0)))])
      (.keep [0, 1, 2, 7, 8, 9, 10, 37] (.cond (.t 37)
       (.drawE [[], [], [1], [0, 1, 2], [0, 1, 2, 3], [0, 1, 2, 3, 4], [0, 1, 2, 3, 4, 5], [], [], [7, 8], [7, 8, 9], [7, 8, 9, 10], [0, 1, 2, 3, 4, 5, 6, 7, 8, 9, 10, 11], [0, 1, 2, 3, 4, 5, 6, 7, 8, 9, 10, 11, 12], [0, 1, 2, 3, 4, 5, 6, 7, 8, 9, 10, 11, 12, 13]] [.op (some 38) (.mov (.t 7)),
        .op (some 39) (.mov (.t 9)),
        .op (some 40) (.bin .sub (.t 39) (.k (.int .i64 1))),
        .op (some 41) (.iadr 7 (.t 38) (.t 40)),
        .op (some 42) (.fadr (.t 41) 0),
        .op (some 43) (.load1 (.t 42)),
        .call (some 44) 68 [.t 43],
        .op (some 45) (.mov (.t 0)),
        .op (some 46) (.mov (.t 8)),
        .op (some 47) (.iadr 7 (.t 45) (.t 46)),
        .op (some 48) (.fadr (.t 47) 0),
        .op (some 49) (.load1 (.t 48))]
        [.call (some 50) 68 [.t 49],
        .call (some 51) 66 [.t 44, .t 50],
        .op (some 10) (.mov (.t 51))])
       (.skip))))
      (.keep [0, 1, 2, 7, 8, 9, 10] (.seq (.seq (.ops [.op (some 52) (.mov (.t 2))])
      (.keep [0, 1, 2, 7, 8, 9, 10, 52] (.cond (.t 52)
       (.ops [.op (some 53) (.mov (.t 10)),
        .op (some 54) (.neg (.t 53)),
        .op (some 10) (.mov (.t 54))])
       (.skip))))
      (.keep [0, 1, 2, 7, 8, 9, 10] (.seq (.seq (.ops [.op (some 55) (.mov (.t 10)),
        .op (some 56) (.bin .leq (.t 55) (.k (.int .i64 0)))])
      (.keep [0, 1, 2, 7, 8, 9, 56] (.cond (.t 56)
       (.exit 2)
       (.skip))))
      (.keep [0, 1, 2, 7, 8, 9] (.ops [.op (some 57) (.mov (.t 9)),
       .op (some 58) (.bin .sub (.t 57) (.k (.int .i64 1))),
       .op (some 9) (.mov (.t 58))]))))))))))))))
    (.keep [0, 1, 2, 7, 8, 9] (.drawE [[], [], [], [1, 2], [0, 1, 2, 3], [], [], [5, 6], [5, 6, 7], [5, 6, 7, 8], [0, 1, 2, 3, 4, 5, 6, 7, 8, 9], [], [], [11, 12], [0, 1, 2, 3, 4, 5, 6, 7, 8, 9, 10, 11, 12, 13], [0, 1, 2, 3, 4, 5, 6, 7, 8, 9, 10, 11, 12, 13, 14]] [.op (some 59) (.bslice 7 []),
     .op (some 60) (.mov (.t 7)),
     .op (some 61) (.mov (.t 9)),
     .op (some 62) (.slc 7 (.t 60) none (some (.t 61)) none),
     .op (some 63) (.app 7 72 [.int .i64 0, .int .i64 0, .int .i64 0, .str [], .int .i64 0, .int .i64 0, .str []] (.t 59) (.t 62)),
     .op (some 64) (.mov (.t 0)),
     .op (some 65) (.mov (.t 8)),
     .op (some 66) (.iadr 7 (.t 64) (.t 65)),
     .op (some 67) (.loadN 7 (.t 66)),
     .op (some 68) (.bslice 7 [.t 67]),
     .op (some 69) (.app 7 72 [.int .i64 0, .int .i64 0, .int .i64 0, .str [], .int .i64 0, .int .i64 0, .str []] (.t 63) (.t 68)),
     .op (some 70) (.mov (.t 7)),
     .op (some 71) (.mov (.t 9)),
     .op (some 72) (.slc 7 (.t 70) (some (.t 71)) none none)]
    [.op (some 73) (.app 7 72 [.int .i64 0, .int .i64 0, .int .i64 0, .str [], .int .i64 0, .int .i64 0, .str []] (.t 69) (.t 72)),
     .op (some 7) (.mov (.t 73))]))))))
   (.keep [0, 1, 2, 7, 8] (.ops [.op (some 16) (.mov (.t 8)),
    .op (some 17) (.bin .add (.t 16) (.k (.int .i64 1))),
    .op (some 8) (.mov (.t 17))])))))))))
 (.keep [7] (.seq (.ops [.op (some 74) (.mov (.t 7)),
   .op (some 6) (.mov (.t 74))])
 (.keep [6] (.ret))))))))
theorem k_c_l12Sort_fits : fitsF Try.prog 44 ⟨75, k_c_l12Sort, [.t 6]⟩ = true := by kernel_rfl
set_option maxHeartbeats 2000000 in
theorem c_l12Sort {xs : List GRow} {k : Int} (hl : xs.length ≤ 12) (hk : 0 ≤ k ∧ k ≤ 2) : Con Try.prog noMv 44 [.d (.sl 7 (xs.map GRow.row)), int k, bool false] [] (fun r h => r = .osl 0 7 0 ((sortS (ltR k) xs)).length ∧ h = [(0, .rows 7 (((sortS (ltR k) xs)).map GRow.row))]) := by
 refine con_of2 k_c_l12Sort_fits rfl fun C hP hmv => ?_
 unfold k_c_l12Sort
 refine cx_seq ?_
 refine cx_ops ?_
 refine ax_q (q_mov rfl) ?_
 refine ax_nil ?_
 refine cx_keep rfl rfl ?_
 refine cx_seq ?_
 refine cx_ops ?_
 refine ax_e (e_bslice rfl (by decide) rfl rfl) ?_
 refine ax_q (q_mov rfl) ?_
 refine ax_nil ?_
 refine cx_keep rfl rfl ?_
 refine cx_seq ?_
 refine cx_seq ?_
 refine cx_ops ?_
 refine ax_q (q_mov rfl) ?_
 refine ax_nil ?_
 refine cx_keep rfl rfl ?_
 refine cx_block ?_
 refine cx_loopU (fun n i => i ≤ xs.length ∧ n = xs.length - i) (fun i : Nat => [(7, .osl 11 7 0 (sortS (ltR k) (xs.take i)).length), (8, int i)]) (fun i => [(11, .rows 7 ((sortS (ltR k) (xs.take i)).map GRow.row))]) ⟨_, 0, ⟨Nat.zero_le _, rfl⟩, by repeat (first | exact trivial | refine ⟨rfl, ?_⟩ | refine ⟨?_, ?_⟩)⟩ ?_
 rintro n i ⟨hi, rfl⟩
 have hS : (sortS (ltR k) (xs.take i)).length = i := by rw [sortS_len, List.length_take]; omega
 refine cx_seq ?_
 refine cx_seq ?_
 refine cx_ops ?_
 refine ax_q (q_mov rfl) ?_
 refine ax_q (q_mov rfl) ?_
 first | refine ax_q (q_lenS_map rfl) ?_ | refine ax_q (q_lenS_osl rfl) ?_ | refine ax_q (q_lenS_zs rfl) ?_ | refine ax_q (q_lenS rfl) ?_
 refine ax_q (q_ibin rfl rfl rfl) ?_
 refine ax_nil ?_
 refine cx_keep rfl rfl ?_
 refine cx_cond rfl (fun h0 => ?_) (fun h0 => ?_)
 ·
  have h0 := dT h0
  have h0x : i < xs.length := by omega
  refine cx_skip ?_
  refine cx_keep rfl rfl ?_
  refine cx_seq ?_
  refine cx_block ?_
  refine cx_seq ?_
  refine cx_ops ?_
  refine ax_q (q_mov rfl) ?_
  first | refine ax_q (q_lenS_map rfl) ?_ | refine ax_q (q_lenS_osl rfl) ?_ | refine ax_q (q_lenS_zs rfl) ?_ | refine ax_q (q_lenS rfl) ?_
  refine ax_q (q_mov rfl) ?_
  refine ax_nil ?_
  refine cx_keep rfl rfl ?_
  refine cx_seq ?_
  refine cx_block ?_
  refine cx_loopU (fun n j => j ≤ i ∧ j = n ∧ posI (ltR k) xs[i] (sortS (ltR k) (xs.take i)) i = posI (ltR k) xs[i] (sortS (ltR k) (xs.take i)) j) (fun j : Nat => [(9, int j)]) (fun _ => [(11, .rows 7 ((sortS (ltR k) (xs.take i)).map GRow.row))]) ⟨_, i, ⟨Nat.le_refl _, rfl, rfl⟩, by rw [hS]; exact (by repeat (first | exact trivial | refine ⟨rfl, ?_⟩ | refine ⟨?_, ?_⟩))⟩ ?_
  rintro n j ⟨hj, rfl, hp⟩
  refine cx_seq ?_
  refine cx_seq ?_
  refine cx_ops ?_
  refine ax_q (q_mov rfl) ?_
  refine ax_q (q_ibin rfl rfl rfl) ?_
  refine ax_nil ?_
  refine cx_keep rfl rfl ?_
  refine cx_cond rfl (fun h1 => ?_) (fun h1 => ?_)
  ·
   have h1 := dT h1
   obtain ⟨j, rfl⟩ : ∃ j2, j = j2 + 1 := ⟨j - 1, by omega⟩
   refine cx_skip ?_
   refine cx_keep rfl rfl ?_
   refine cx_block ?_
   refine cx_seq ?_
   refine cx_drawL 0 22 (fun _ => false) (fun _ => true) [] ([]) [[7], [9], [23], [22, 24], [25], [1], [26, 27], [0], [8], [29, 30], [31], [1]] [[], [], [], [], [], [], [], [], [], [], [], []] rfl ?_
   first | refine ⟨⟨22, _, []⟩, .inl ⟨rfl, rfl, rfl, locl_of (loc_q (q_mov rfl))⟩, ?_⟩
   first | refine ⟨_, .inr ⟨rfl, _, rfl, .inr ⟨rfl, rfl, .inr rfl, rfl, rfl⟩, loc_q (q_mov rfl)⟩, ?_⟩
   first | refine ⟨_, .inr ⟨rfl, _, rfl, .inr ⟨rfl, rfl, .inr rfl, rfl, rfl⟩, loc_qe (r' := int (j : Nat)) (q_ibin rfl rfl rfl) (by rw [wi (by omega) (by omega)]; exact congrArg AM.int (by omega))⟩, ?_⟩
   first | refine ⟨_, .inr ⟨rfl, _, rfl, .inr ⟨rfl, rfl, .inl rfl, rfl, rfl⟩, loc_q (q_ixo rfl rfl (by omega))⟩, ?_⟩
   first | refine ⟨_, .inr ⟨rfl, _, rfl, .inr ⟨rfl, rfl, .inl rfl, rfl, rfl⟩, loc_q (q_loadN_rptr (r := GRow.row ((sortS (ltR k) (xs.take i))[j]'(by omega))) rfl rfl (mapAt (by omega)) (by decide))⟩, ?_⟩
   first | refine ⟨_, .inr ⟨rfl, _, rfl, .inr ⟨rfl, rfl, .inr rfl, rfl, rfl⟩, loc_q (q_mov rfl)⟩, ?_⟩
   first | refine ⟨_, .inr ⟨rfl, _, rfl, .inr ⟨rfl, rfl, .inl rfl, rfl, rfl⟩, loc_call (fun i => 28 + 200 * i) false rfl (c_sColumn (w := (sortS (ltR k) (xs.take i))[j]'(by omega)) (k := k) ) hP (.inr ⟨rfl, rfl, rfl⟩) rfl rfl (fun h => by cases h)⟩, ?_⟩ | refine ⟨_, .inr ⟨rfl, _, rfl, .inr ⟨rfl, rfl, .inl rfl, rfl, rfl⟩, loc_call (fun i => 28 + 200 * i) true rfl (c_sColumn (w := (sortS (ltR k) (xs.take i))[j]'(by omega)) (k := k) ) hP (.inl ⟨rfl, (by repeat (first | exact lal_id _ rfl | exact LAL.nil | refine LAL.cons ?_ ?_ | exact la_id _ rfl | exact LA.lend (lend_whole rfl (by first | (simp; done) | (rw [List.length_map]; rfl))) | refine LA.agg ?_ | refine LA.fn ?_ | refine LA.lend ?_ | exact Lend.d _ | exact Lend.zs _ | exact lend_whole rfl (by first | (simp; done) | (rw [List.length_map]; rfl)) | refine Lend.ptr rfl ?_ | refine Lend.fn ?_ | exact LendL.nil | refine LendL.cons ?_ ?_))⟩) rfl rfl (fun _ => ⟨rfl, noisl_of (by repeat (first | exact trivial | refine ⟨noisl_map (fun _ => rfl), ?_⟩ | refine ⟨?_, ?_⟩))⟩)⟩, ?_⟩
   first | refine ⟨_, .inr ⟨rfl, _, rfl, .inr ⟨rfl, rfl, .inr rfl, rfl, rfl⟩, loc_q (q_mov rfl)⟩, ?_⟩
   first | refine ⟨_, .inr ⟨rfl, _, rfl, .inr ⟨rfl, rfl, .inr rfl, rfl, rfl⟩, loc_q (q_mov rfl)⟩, ?_⟩
   first | refine ⟨_, .inr ⟨rfl, _, rfl, .inr ⟨rfl, rfl, .inr rfl, rfl, rfl⟩, loc_q (q_ix rfl rfl (mapAt h0x))⟩, ?_⟩
   first | refine ⟨_, .inr ⟨rfl, _, rfl, .inr ⟨rfl, rfl, .inr rfl, rfl, rfl⟩, loc_q (q_ldN rfl rfl rfl)⟩, ?_⟩ | refine ⟨_, .inr ⟨rfl, _, rfl, .inr ⟨rfl, rfl, .inr rfl, rfl, rfl⟩, loc_q (q_loadN_ip rfl (Nat.le_refl _))⟩, ?_⟩ | refine ⟨_, .inr ⟨rfl, _, rfl, .inr ⟨rfl, rfl, .inr rfl, rfl, rfl⟩, loc_q (q_loadN_ip rfl (by decide))⟩, ?_⟩ | refine ⟨_, .inr ⟨rfl, _, rfl, .inr ⟨rfl, rfl, .inr rfl, rfl, rfl⟩, loc_q (q_loadN_rptr rfl rfl (by assumption) (by decide))⟩, ?_⟩ | refine ⟨_, .inr ⟨rfl, _, rfl, .inr ⟨rfl, rfl, .inr rfl, rfl, rfl⟩, loc_q (q_loadN_rptr rfl rfl (mapAt (by first | assumption | omega)) (by decide))⟩, ?_⟩
   first | refine ⟨_, .inr ⟨rfl, _, rfl, .inr ⟨rfl, rfl, .inr rfl, rfl, rfl⟩, loc_q (q_mov rfl)⟩, ?_⟩
   refine ⟨rfl, ?_⟩
   first | refine ax_call rfl (vc_pure0 (c_sColumn (w := xs[i]) (k := k) ) hP rfl rfl ?_) | refine ax_call rfl (vc_lend0 (c_sColumn (w := xs[i]) (k := k) ) hP (by repeat (first | exact lal_id _ rfl | exact LAL.nil | refine LAL.cons ?_ ?_ | exact la_id _ rfl | exact LA.lend (lend_whole rfl (by first | (simp; done) | (rw [List.length_map]; rfl))) | refine LA.agg ?_ | refine LA.fn ?_ | refine LA.lend ?_ | exact Lend.d _ | exact Lend.zs _ | exact lend_whole rfl (by first | (simp; done) | (rw [List.length_map]; rfl)) | refine Lend.ptr rfl ?_ | refine Lend.fn ?_ | exact LendL.nil | refine LendL.cons ?_ ?_)) rfl rfl ?_)
   first | refine ax_call rfl (vc_pure0 (c_l01Compare (a := colF ((sortS (ltR k) (xs.take i))[j]'(by omega)) k) (b := colF xs[i] k) ) hP rfl rfl ?_) | refine ax_call rfl (vc_lend0 (c_l01Compare (a := colF ((sortS (ltR k) (xs.take i))[j]'(by omega)) k) (b := colF xs[i] k) ) hP (by repeat (first | exact lal_id _ rfl | exact LAL.nil | refine LAL.cons ?_ ?_ | exact la_id _ rfl | exact LA.lend (lend_whole rfl (by first | (simp; done) | (rw [List.length_map]; rfl))) | refine LA.agg ?_ | refine LA.fn ?_ | refine LA.lend ?_ | exact Lend.d _ | exact Lend.zs _ | exact lend_whole rfl (by first | (simp; done) | (rw [List.length_map]; rfl)) | refine Lend.ptr rfl ?_ | refine Lend.fn ?_ | exact LendL.nil | refine LendL.cons ?_ ?_)) rfl rfl ?_)
   refine ax_q (q_mov rfl) ?_
   refine ax_nil ?_
   refine cx_keep rfl rfl ?_
   refine cx_seq ?_
   refine cx_seq ?_
   refine cx_ops ?_
   refine ax_q (q_mov rfl) ?_
   refine ax_q (q_ibin rfl rfl rfl) ?_
   refine ax_nil ?_
   refine cx_keep rfl rfl ?_
   refine cx_cond rfl (fun h2 => ?_) (fun h2 => ?_)
   ·
    have h2 := dT h2
    skip
    refine cx_drawL 0 38 (fun _ => false) (fun _ => true) [] ([]) [[7], [9], [39], [38, 40], [41], [42], [43], [0], [8], [45, 46], [47], [48]] [[], [], [], [], [], [], [], [], [], [], [], []] rfl ?_
    first | refine ⟨⟨38, _, []⟩, .inl ⟨rfl, rfl, rfl, locl_of (loc_q (q_mov rfl))⟩, ?_⟩
    first | refine ⟨_, .inr ⟨rfl, _, rfl, .inr ⟨rfl, rfl, .inr rfl, rfl, rfl⟩, loc_q (q_mov rfl)⟩, ?_⟩
    first | refine ⟨_, .inr ⟨rfl, _, rfl, .inr ⟨rfl, rfl, .inr rfl, rfl, rfl⟩, loc_qe (r' := int (j : Nat)) (q_ibin rfl rfl rfl) (by rw [wi (by omega) (by omega)]; exact congrArg AM.int (by omega))⟩, ?_⟩
    first | refine ⟨_, .inr ⟨rfl, _, rfl, .inr ⟨rfl, rfl, .inl rfl, rfl, rfl⟩, loc_q (q_ixo rfl rfl (by omega))⟩, ?_⟩
    first | refine ⟨_, .inr ⟨rfl, _, rfl, .inr ⟨rfl, rfl, .inl rfl, rfl, rfl⟩, loc_q (q_fadr_ptr rfl)⟩, ?_⟩ | refine ⟨_, .inr ⟨rfl, _, rfl, .inr ⟨rfl, rfl, .inl rfl, rfl, rfl⟩, loc_q (q_fadr_rptr rfl)⟩, ?_⟩ | refine ⟨_, .inr ⟨rfl, _, rfl, .inr ⟨rfl, rfl, .inl rfl, rfl, rfl⟩, loc_q (q_fadr_ip rfl)⟩, ?_⟩
    first | refine ⟨_, .inr ⟨rfl, _, rfl, .inr ⟨rfl, rfl, .inl rfl, rfl, rfl⟩, loc_q (q_load1_rptr rfl rfl (mapAt (by omega)) rfl)⟩, ?_⟩
    first | refine ⟨_, .inr ⟨rfl, _, rfl, .inr ⟨rfl, rfl, .inl rfl, rfl, rfl⟩, loc_call (fun i => 44 + 200 * i) false rfl (c_sInt (n := ((sortS (ltR k) (xs.take i))[j]'(by omega)).Id) ) hP (.inr ⟨rfl, rfl, rfl⟩) rfl rfl (fun h => by cases h)⟩, ?_⟩ | refine ⟨_, .inr ⟨rfl, _, rfl, .inr ⟨rfl, rfl, .inl rfl, rfl, rfl⟩, loc_call (fun i => 44 + 200 * i) true rfl (c_sInt (n := ((sortS (ltR k) (xs.take i))[j]'(by omega)).Id) ) hP (.inl ⟨rfl, (by repeat (first | exact lal_id _ rfl | exact LAL.nil | refine LAL.cons ?_ ?_ | exact la_id _ rfl | exact LA.lend (lend_whole rfl (by first | (simp; done) | (rw [List.length_map]; rfl))) | refine LA.agg ?_ | refine LA.fn ?_ | refine LA.lend ?_ | exact Lend.d _ | exact Lend.zs _ | exact lend_whole rfl (by first | (simp; done) | (rw [List.length_map]; rfl)) | refine Lend.ptr rfl ?_ | refine Lend.fn ?_ | exact LendL.nil | refine LendL.cons ?_ ?_))⟩) rfl rfl (fun _ => ⟨rfl, noisl_of (by repeat (first | exact trivial | refine ⟨noisl_map (fun _ => rfl), ?_⟩ | refine ⟨?_, ?_⟩))⟩)⟩, ?_⟩
    first | refine ⟨_, .inr ⟨rfl, _, rfl, .inr ⟨rfl, rfl, .inr rfl, rfl, rfl⟩, loc_q (q_mov rfl)⟩, ?_⟩
    first | refine ⟨_, .inr ⟨rfl, _, rfl, .inr ⟨rfl, rfl, .inr rfl, rfl, rfl⟩, loc_q (q_mov rfl)⟩, ?_⟩
    first | refine ⟨_, .inr ⟨rfl, _, rfl, .inr ⟨rfl, rfl, .inr rfl, rfl, rfl⟩, loc_q (q_ix rfl rfl (mapAt h0x))⟩, ?_⟩
    first | refine ⟨_, .inr ⟨rfl, _, rfl, .inr ⟨rfl, rfl, .inr rfl, rfl, rfl⟩, loc_q (q_fadr_ptr rfl)⟩, ?_⟩ | refine ⟨_, .inr ⟨rfl, _, rfl, .inr ⟨rfl, rfl, .inr rfl, rfl, rfl⟩, loc_q (q_fadr_rptr rfl)⟩, ?_⟩ | refine ⟨_, .inr ⟨rfl, _, rfl, .inr ⟨rfl, rfl, .inr rfl, rfl, rfl⟩, loc_q (q_fadr_ip rfl)⟩, ?_⟩
    first | refine ⟨_, .inr ⟨rfl, _, rfl, .inr ⟨rfl, rfl, .inr rfl, rfl, rfl⟩, loc_q (q_load1_ptr rfl rfl rfl)⟩, ?_⟩ | refine ⟨_, .inr ⟨rfl, _, rfl, .inr ⟨rfl, rfl, .inr rfl, rfl, rfl⟩, loc_q (q_load1_ip rfl)⟩, ?_⟩ | refine ⟨_, .inr ⟨rfl, _, rfl, .inr ⟨rfl, rfl, .inr rfl, rfl, rfl⟩, loc_q (q_load1_rptr rfl rfl rfl rfl)⟩, ?_⟩ | refine ⟨_, .inr ⟨rfl, _, rfl, .inr ⟨rfl, rfl, .inr rfl, rfl, rfl⟩, loc_q (q_load1_rptr rfl rfl (by assumption) rfl)⟩, ?_⟩ | refine ⟨_, .inr ⟨rfl, _, rfl, .inr ⟨rfl, rfl, .inr rfl, rfl, rfl⟩, loc_q (q_load1_rptr rfl rfl (mapAt (by first | assumption | omega)) rfl)⟩, ?_⟩
    refine ⟨rfl, ?_⟩
    first | refine ax_call rfl (vc_pure0 (c_sInt (n := xs[i].Id) ) hP rfl rfl ?_) | refine ax_call rfl (vc_lend0 (c_sInt (n := xs[i].Id) ) hP (by repeat (first | exact lal_id _ rfl | exact LAL.nil | refine LAL.cons ?_ ?_ | exact la_id _ rfl | exact LA.lend (lend_whole rfl (by first | (simp; done) | (rw [List.length_map]; rfl))) | refine LA.agg ?_ | refine LA.fn ?_ | refine LA.lend ?_ | exact Lend.d _ | exact Lend.zs _ | exact lend_whole rfl (by first | (simp; done) | (rw [List.length_map]; rfl)) | refine Lend.ptr rfl ?_ | refine Lend.fn ?_ | exact LendL.nil | refine LendL.cons ?_ ?_)) rfl rfl ?_)
    first | refine ax_call rfl (vc_pure0 (c_l01Compare (a := vI ((sortS (ltR k) (xs.take i))[j]'(by omega)).Id) (b := vI xs[i].Id) ) hP rfl rfl ?_) | refine ax_call rfl (vc_lend0 (c_l01Compare (a := vI ((sortS (ltR k) (xs.take i))[j]'(by omega)).Id) (b := vI xs[i].Id) ) hP (by repeat (first | exact lal_id _ rfl | exact LAL.nil | refine LAL.cons ?_ ?_ | exact la_id _ rfl | exact LA.lend (lend_whole rfl (by first | (simp; done) | (rw [List.length_map]; rfl))) | refine LA.agg ?_ | refine LA.fn ?_ | refine LA.lend ?_ | exact Lend.d _ | exact Lend.zs _ | exact lend_whole rfl (by first | (simp; done) | (rw [List.length_map]; rfl)) | refine Lend.ptr rfl ?_ | refine Lend.fn ?_ | exact LendL.nil | refine LendL.cons ?_ ?_)) rfl rfl ?_)
    refine ax_q (q_mov rfl) ?_
    refine ax_nil ?_
    refine cx_keep rfl rfl ?_
    refine cx_seq ?_
    refine cx_seq ?_
    refine cx_ops ?_
    refine ax_q (q_mov rfl) ?_
    refine ax_nil ?_
    refine cx_keep rfl rfl ?_
    refine cx_cond rfl (fun h3 => ?_) (fun h3 => ?_)
    ·
     skip
     exact absurd h3 Bool.false_ne_true
    ·
     skip
     refine cx_skip ?_
     refine cx_keep rfl rfl ?_
     refine cx_seq ?_
     refine cx_seq ?_
     refine cx_ops ?_
     refine ax_q (q_mov rfl) ?_
     refine ax_q (q_ibin rfl rfl rfl) ?_
     refine ax_nil ?_
     refine cx_keep rfl rfl ?_
     refine cx_cond rfl (fun h4 => ?_) (fun h4 => ?_)
     ·
      have h4 := dT h4
      have ej : posI (ltR k) xs[i] (sortS (ltR k) (xs.take i)) i = j + 1 := by rw [hp]; exact posI_f (by omega) (by rw [ltR_of0 h2]; exact decide_eq_false (by omega))
      generalize hpj : j + 1 = p at ej ⊢
      have hpl : p ≤ i := by rw [← ej]; exact posI_le
      have hso : sortS (ltR k) (xs.take (i + 1)) = insA (sortS (ltR k) (xs.take i)) p xs[i] := by rw [sortS_take h0x]; unfold insS insA; rw [hS, ej]
      refine cx_exit rfl ?_
      refine cx_keep rfl rfl ?_
      refine cx_drawL 10 69 (Nat.beq 63) (nrA 63) [] ([(63, .rows 7 (((sortS (ltR k) (xs.take i)).take p ++ [xs[i]]).map GRow.row))]) [[], [7], [9], [60, 61], [59, 62], [0], [8], [64, 65], [66], [67], [63, 68], [7], [9], [70, 71]] [[], [], [], [], [], [], [], [], [], [], [63], [63], [63], [63]] rfl ?_
      first | refine ⟨_, .inr ⟨rfl, _, rfl, .inl rfl, loc_bsliceZ⟩, ?_⟩
      first | refine ⟨_, .inr ⟨rfl, _, rfl, .inl rfl, loc_q (q_mov rfl)⟩, ?_⟩
      first | refine ⟨_, .inr ⟨rfl, _, rfl, .inl rfl, loc_q (q_mov rfl)⟩, ?_⟩
      first | refine ⟨_, .inr ⟨rfl, _, rfl, .inl rfl, loc_qe (r' := .osl 11 7 0 p) (q_slc_osl rfl rfl rfl (by omega) (by omega) (by omega)) (oslE0 (by omega) (by omega))⟩, ?_⟩
      first | refine ⟨_, .inr ⟨rfl, _, rfl, .inl rfl, loc_appZ (n := p) (rs := ((sortS (ltR k) (xs.take i)).take p).map GRow.row) rfl rfl (fun _ _ h => src_osl (h _ _ rfl) (by simp; omega)) (bnd0 (by simp; omega) (by decide)) (by simp; omega) (by simp [List.map_take])⟩, ?_⟩
      first | refine ⟨_, .inr ⟨rfl, _, rfl, .inl rfl, loc_q (q_mov rfl)⟩, ?_⟩
      first | refine ⟨_, .inr ⟨rfl, _, rfl, .inl rfl, loc_q (q_mov rfl)⟩, ?_⟩
      first | refine ⟨_, .inr ⟨rfl, _, rfl, .inl rfl, loc_q (q_ix rfl rfl (mapAt h0x))⟩, ?_⟩
      first | refine ⟨_, .inr ⟨rfl, _, rfl, .inl rfl, loc_q (q_ldN rfl rfl rfl)⟩, ?_⟩ | refine ⟨_, .inr ⟨rfl, _, rfl, .inl rfl, loc_q (q_loadN_ip rfl (Nat.le_refl _))⟩, ?_⟩ | refine ⟨_, .inr ⟨rfl, _, rfl, .inl rfl, loc_q (q_loadN_ip rfl (by decide))⟩, ?_⟩ | refine ⟨_, .inr ⟨rfl, _, rfl, .inl rfl, loc_q (q_loadN_rptr rfl rfl (by assumption) (by decide))⟩, ?_⟩ | refine ⟨_, .inr ⟨rfl, _, rfl, .inl rfl, loc_q (q_loadN_rptr rfl rfl (mapAt (by first | assumption | omega)) (by decide))⟩, ?_⟩
      first | refine ⟨_, .inr ⟨rfl, _, rfl, .inl rfl, loc_bslice rfl⟩, ?_⟩
      refine ⟨⟨69, _, []⟩, .inl ⟨rfl, rfl, rfl, locl_app (n' := p + 1) (rs' := ((sortS (ltR k) (xs.take i)).take p ++ [xs[i]]).map GRow.row) rfl rfl (by simp; omega) rfl (fun _ _ h => src_osl (h _ _ rfl) (by simp)) (.inl (by decide)) (hbnd (by omega) (by simp) (by decide)) (by simp) (app1p (by simp; omega))⟩, ?_⟩
      first | refine ⟨_, .inr ⟨rfl, _, rfl, .inr ⟨rfl, rfl, .inr rfl, rfl, rfl⟩, loc_q (q_mov rfl)⟩, ?_⟩
      first | refine ⟨_, .inr ⟨rfl, _, rfl, .inr ⟨rfl, rfl, .inr rfl, rfl, rfl⟩, loc_q (q_mov rfl)⟩, ?_⟩
      first | refine ⟨_, .inr ⟨rfl, _, rfl, .inr ⟨rfl, rfl, .inr rfl, rfl, rfl⟩, loc_qe (r' := .osl 11 7 p (i - p)) (q_slc_osl rfl rfl rfl (by omega) (by omega) (by omega)) (oslE (by omega) (by omega))⟩, ?_⟩
      refine ⟨rfl, ?_⟩
      refine ax_e (e_appn (n' := (insA (sortS (ltR k) (xs.take i)) p xs[i]).length) (rs' := (insA (sortS (ltR k) (xs.take i)) p xs[i]).map GRow.row) rfl rfl (by simp; omega) rfl (src_osl rfl (by simp; omega)) (.inl (by decide)) (hbnd (by omega) (by simp; omega) (by decide)) (by rw [insA_len (by omega)]; simp; omega) (insA_app (by omega))) ?_
      refine ax_q (q_mov rfl) ?_
      refine ax_nil ?_
      refine cx_keep rfl rfl ?_
      refine cx_ops ?_
      refine ax_q (q_mov rfl) ?_
      refine ax_wk (wk_swap 63 11 rfl rfl) ?_
      refine ax_qe (r' := int ((i + 1 : Nat) : Int)) (q_ibin rfl rfl rfl) (by rw [wi (by omega) (by omega)]; rfl) ?_
      refine ax_q (q_mov rfl) ?_
      refine ax_nil ?_
      exact ⟨_, i + 1, by omega, ⟨by omega, rfl⟩, by rw [hso]; exact (by repeat (first | exact trivial | refine ⟨rfl, ?_⟩ | refine ⟨?_, ?_⟩))⟩
     ·
      have h4 := dF h4
      refine cx_skip ?_
      refine cx_keep rfl rfl ?_
      refine cx_ops ?_
      refine ax_q (q_mov rfl) ?_
      refine ax_qe (r' := int (j : Nat)) (q_ibin rfl rfl rfl) (by rw [wi (by omega) (by omega)]; exact congrArg AM.int (by omega)) ?_
      refine ax_q (q_mov rfl) ?_
      refine ax_nil ?_
      exact ⟨_, j, by omega, ⟨by omega, rfl, by rw [hp]; exact posI_t (by omega) (by rw [ltR_of0 h2]; exact decide_eq_true (by omega))⟩, by repeat (first | exact trivial | refine ⟨rfl, ?_⟩ | refine ⟨?_, ?_⟩)⟩
   ·
    have h2 := dF h2
    refine cx_skip ?_
    refine cx_keep rfl rfl ?_
    refine cx_seq ?_
    refine cx_seq ?_
    refine cx_ops ?_
    refine ax_q (q_mov rfl) ?_
    refine ax_nil ?_
    refine cx_keep rfl rfl ?_
    refine cx_cond rfl (fun h3 => ?_) (fun h3 => ?_)
    ·
     skip
     exact absurd h3 Bool.false_ne_true
    ·
     skip
     refine cx_skip ?_
     refine cx_keep rfl rfl ?_
     refine cx_seq ?_
     refine cx_seq ?_
     refine cx_ops ?_
     refine ax_q (q_mov rfl) ?_
     refine ax_q (q_ibin rfl rfl rfl) ?_
     refine ax_nil ?_
     refine cx_keep rfl rfl ?_
     refine cx_cond rfl (fun h4 => ?_) (fun h4 => ?_)
     ·
      have h4 := dT h4
      have ej : posI (ltR k) xs[i] (sortS (ltR k) (xs.take i)) i = j + 1 := by rw [hp]; exact posI_f (by omega) (by rw [ltR_of h2]; exact decide_eq_false (by omega))
      generalize hpj : j + 1 = p at ej ⊢
      have hpl : p ≤ i := by rw [← ej]; exact posI_le
      have hso : sortS (ltR k) (xs.take (i + 1)) = insA (sortS (ltR k) (xs.take i)) p xs[i] := by rw [sortS_take h0x]; unfold insS insA; rw [hS, ej]
      refine cx_exit rfl ?_
      refine cx_keep rfl rfl ?_
      refine cx_drawL 10 69 (Nat.beq 63) (nrA 63) [] ([(63, .rows 7 (((sortS (ltR k) (xs.take i)).take p ++ [xs[i]]).map GRow.row))]) [[], [7], [9], [60, 61], [59, 62], [0], [8], [64, 65], [66], [67], [63, 68], [7], [9], [70, 71]] [[], [], [], [], [], [], [], [], [], [], [63], [63], [63], [63]] rfl ?_
      first | refine ⟨_, .inr ⟨rfl, _, rfl, .inl rfl, loc_bsliceZ⟩, ?_⟩
      first | refine ⟨_, .inr ⟨rfl, _, rfl, .inl rfl, loc_q (q_mov rfl)⟩, ?_⟩
      first | refine ⟨_, .inr ⟨rfl, _, rfl, .inl rfl, loc_q (q_mov rfl)⟩, ?_⟩
      first | refine ⟨_, .inr ⟨rfl, _, rfl, .inl rfl, loc_qe (r' := .osl 11 7 0 p) (q_slc_osl rfl rfl rfl (by omega) (by omega) (by omega)) (oslE0 (by omega) (by omega))⟩, ?_⟩
      first | refine ⟨_, .inr ⟨rfl, _, rfl, .inl rfl, loc_appZ (n := p) (rs := ((sortS (ltR k) (xs.take i)).take p).map GRow.row) rfl rfl (fun _ _ h => src_osl (h _ _ rfl) (by simp; omega)) (bnd0 (by simp; omega) (by decide)) (by simp; omega) (by simp [List.map_take])⟩, ?_⟩
      first | refine ⟨_, .inr ⟨rfl, _, rfl, .inl rfl, loc_q (q_mov rfl)⟩, ?_⟩
      first | refine ⟨_, .inr ⟨rfl, _, rfl, .inl rfl, loc_q (q_mov rfl)⟩, ?_⟩
      first | refine ⟨_, .inr ⟨rfl, _, rfl, .inl rfl, loc_q (q_ix rfl rfl (mapAt h0x))⟩, ?_⟩
      first | refine ⟨_, .inr ⟨rfl, _, rfl, .inl rfl, loc_q (q_ldN rfl rfl rfl)⟩, ?_⟩ | refine ⟨_, .inr ⟨rfl, _, rfl, .inl rfl, loc_q (q_loadN_ip rfl (Nat.le_refl _))⟩, ?_⟩ | refine ⟨_, .inr ⟨rfl, _, rfl, .inl rfl, loc_q (q_loadN_ip rfl (by decide))⟩, ?_⟩ | refine ⟨_, .inr ⟨rfl, _, rfl, .inl rfl, loc_q (q_loadN_rptr rfl rfl (by assumption) (by decide))⟩, ?_⟩ | refine ⟨_, .inr ⟨rfl, _, rfl, .inl rfl, loc_q (q_loadN_rptr rfl rfl (mapAt (by first | assumption | omega)) (by decide))⟩, ?_⟩
      first | refine ⟨_, .inr ⟨rfl, _, rfl, .inl rfl, loc_bslice rfl⟩, ?_⟩
      refine ⟨⟨69, _, []⟩, .inl ⟨rfl, rfl, rfl, locl_app (n' := p + 1) (rs' := ((sortS (ltR k) (xs.take i)).take p ++ [xs[i]]).map GRow.row) rfl rfl (by simp; omega) rfl (fun _ _ h => src_osl (h _ _ rfl) (by simp)) (.inl (by decide)) (hbnd (by omega) (by simp) (by decide)) (by simp) (app1p (by simp; omega))⟩, ?_⟩
      first | refine ⟨_, .inr ⟨rfl, _, rfl, .inr ⟨rfl, rfl, .inr rfl, rfl, rfl⟩, loc_q (q_mov rfl)⟩, ?_⟩
      first | refine ⟨_, .inr ⟨rfl, _, rfl, .inr ⟨rfl, rfl, .inr rfl, rfl, rfl⟩, loc_q (q_mov rfl)⟩, ?_⟩
      first | refine ⟨_, .inr ⟨rfl, _, rfl, .inr ⟨rfl, rfl, .inr rfl, rfl, rfl⟩, loc_qe (r' := .osl 11 7 p (i - p)) (q_slc_osl rfl rfl rfl (by omega) (by omega) (by omega)) (oslE (by omega) (by omega))⟩, ?_⟩
      refine ⟨rfl, ?_⟩
      refine ax_e (e_appn (n' := (insA (sortS (ltR k) (xs.take i)) p xs[i]).length) (rs' := (insA (sortS (ltR k) (xs.take i)) p xs[i]).map GRow.row) rfl rfl (by simp; omega) rfl (src_osl rfl (by simp; omega)) (.inl (by decide)) (hbnd (by omega) (by simp; omega) (by decide)) (by rw [insA_len (by omega)]; simp; omega) (insA_app (by omega))) ?_
      refine ax_q (q_mov rfl) ?_
      refine ax_nil ?_
      refine cx_keep rfl rfl ?_
      refine cx_ops ?_
      refine ax_q (q_mov rfl) ?_
      refine ax_wk (wk_swap 63 11 rfl rfl) ?_
      refine ax_qe (r' := int ((i + 1 : Nat) : Int)) (q_ibin rfl rfl rfl) (by rw [wi (by omega) (by omega)]; rfl) ?_
      refine ax_q (q_mov rfl) ?_
      refine ax_nil ?_
      exact ⟨_, i + 1, by omega, ⟨by omega, rfl⟩, by rw [hso]; exact (by repeat (first | exact trivial | refine ⟨rfl, ?_⟩ | refine ⟨?_, ?_⟩))⟩
     ·
      have h4 := dF h4
      refine cx_skip ?_
      refine cx_keep rfl rfl ?_
      refine cx_ops ?_
      refine ax_q (q_mov rfl) ?_
      refine ax_qe (r' := int (j : Nat)) (q_ibin rfl rfl rfl) (by rw [wi (by omega) (by omega)]; exact congrArg AM.int (by omega)) ?_
      refine ax_q (q_mov rfl) ?_
      refine ax_nil ?_
      exact ⟨_, j, by omega, ⟨by omega, rfl, by rw [hp]; exact posI_t (by omega) (by rw [ltR_of h2]; exact decide_eq_true (by omega))⟩, by repeat (first | exact trivial | refine ⟨rfl, ?_⟩ | refine ⟨?_, ?_⟩)⟩
  ·
   have h1 := dF h1
   have ej : posI (ltR k) xs[i] (sortS (ltR k) (xs.take i)) i = j := by rw [hp, show j = 0 from by omega]; rfl
   obtain ⟨p, rfl⟩ : ∃ p, p = j := ⟨_, rfl⟩
   have hpl : p ≤ i := by rw [← ej]; exact posI_le
   have hso : sortS (ltR k) (xs.take (i + 1)) = insA (sortS (ltR k) (xs.take i)) p xs[i] := by rw [sortS_take h0x]; unfold insS insA; rw [hS, ej]
   refine cx_exit rfl ?_
   refine cx_keep rfl rfl ?_
   refine cx_drawL 10 69 (Nat.beq 63) (nrA 63) [] ([(63, .rows 7 (((sortS (ltR k) (xs.take i)).take p ++ [xs[i]]).map GRow.row))]) [[], [7], [9], [60, 61], [59, 62], [0], [8], [64, 65], [66], [67], [63, 68], [7], [9], [70, 71]] [[], [], [], [], [], [], [], [], [], [], [63], [63], [63], [63]] rfl ?_
   first | refine ⟨_, .inr ⟨rfl, _, rfl, .inl rfl, loc_bsliceZ⟩, ?_⟩
   first | refine ⟨_, .inr ⟨rfl, _, rfl, .inl rfl, loc_q (q_mov rfl)⟩, ?_⟩
   first | refine ⟨_, .inr ⟨rfl, _, rfl, .inl rfl, loc_q (q_mov rfl)⟩, ?_⟩
   first | refine ⟨_, .inr ⟨rfl, _, rfl, .inl rfl, loc_qe (r' := .osl 11 7 0 p) (q_slc_osl rfl rfl rfl (by omega) (by omega) (by omega)) (oslE0 (by omega) (by omega))⟩, ?_⟩
   first | refine ⟨_, .inr ⟨rfl, _, rfl, .inl rfl, loc_appZ (n := p) (rs := ((sortS (ltR k) (xs.take i)).take p).map GRow.row) rfl rfl (fun _ _ h => src_osl (h _ _ rfl) (by simp; omega)) (bnd0 (by simp; omega) (by decide)) (by simp; omega) (by simp [List.map_take])⟩, ?_⟩
   first | refine ⟨_, .inr ⟨rfl, _, rfl, .inl rfl, loc_q (q_mov rfl)⟩, ?_⟩
   first | refine ⟨_, .inr ⟨rfl, _, rfl, .inl rfl, loc_q (q_mov rfl)⟩, ?_⟩
   first | refine ⟨_, .inr ⟨rfl, _, rfl, .inl rfl, loc_q (q_ix rfl rfl (mapAt h0x))⟩, ?_⟩
   first | refine ⟨_, .inr ⟨rfl, _, rfl, .inl rfl, loc_q (q_ldN rfl rfl rfl)⟩, ?_⟩ | refine ⟨_, .inr ⟨rfl, _, rfl, .inl rfl, loc_q (q_loadN_ip rfl (Nat.le_refl _))⟩, ?_⟩ | refine ⟨_, .inr ⟨rfl, _, rfl, .inl rfl, loc_q (q_loadN_ip rfl (by decide))⟩, ?_⟩ | refine ⟨_, .inr ⟨rfl, _, rfl, .inl rfl, loc_q (q_loadN_rptr rfl rfl (by assumption) (by decide))⟩, ?_⟩ | refine ⟨_, .inr ⟨rfl, _, rfl, .inl rfl, loc_q (q_loadN_rptr rfl rfl (mapAt (by first | assumption | omega)) (by decide))⟩, ?_⟩
   first | refine ⟨_, .inr ⟨rfl, _, rfl, .inl rfl, loc_bslice rfl⟩, ?_⟩
   refine ⟨⟨69, _, []⟩, .inl ⟨rfl, rfl, rfl, locl_app (n' := p + 1) (rs' := ((sortS (ltR k) (xs.take i)).take p ++ [xs[i]]).map GRow.row) rfl rfl (by simp; omega) rfl (fun _ _ h => src_osl (h _ _ rfl) (by simp)) (.inl (by decide)) (hbnd (by omega) (by simp) (by decide)) (by simp) (app1p (by simp; omega))⟩, ?_⟩
   first | refine ⟨_, .inr ⟨rfl, _, rfl, .inr ⟨rfl, rfl, .inr rfl, rfl, rfl⟩, loc_q (q_mov rfl)⟩, ?_⟩
   first | refine ⟨_, .inr ⟨rfl, _, rfl, .inr ⟨rfl, rfl, .inr rfl, rfl, rfl⟩, loc_q (q_mov rfl)⟩, ?_⟩
   first | refine ⟨_, .inr ⟨rfl, _, rfl, .inr ⟨rfl, rfl, .inr rfl, rfl, rfl⟩, loc_qe (r' := .osl 11 7 p (i - p)) (q_slc_osl rfl rfl rfl (by omega) (by omega) (by omega)) (oslE (by omega) (by omega))⟩, ?_⟩
   refine ⟨rfl, ?_⟩
   refine ax_e (e_appn (n' := (insA (sortS (ltR k) (xs.take i)) p xs[i]).length) (rs' := (insA (sortS (ltR k) (xs.take i)) p xs[i]).map GRow.row) rfl rfl (by simp; omega) rfl (src_osl rfl (by simp; omega)) (.inl (by decide)) (hbnd (by omega) (by simp; omega) (by decide)) (by rw [insA_len (by omega)]; simp; omega) (insA_app (by omega))) ?_
   refine ax_q (q_mov rfl) ?_
   refine ax_nil ?_
   refine cx_keep rfl rfl ?_
   refine cx_ops ?_
   refine ax_q (q_mov rfl) ?_
   refine ax_wk (wk_swap 63 11 rfl rfl) ?_
   refine ax_qe (r' := int ((i + 1 : Nat) : Int)) (q_ibin rfl rfl rfl) (by rw [wi (by omega) (by omega)]; rfl) ?_
   refine ax_q (q_mov rfl) ?_
   refine ax_nil ?_
   exact ⟨_, i + 1, by omega, ⟨by omega, rfl⟩, by rw [hso]; exact (by repeat (first | exact trivial | refine ⟨rfl, ?_⟩ | refine ⟨?_, ?_⟩))⟩
 ·
  have h0 := dF h0
  obtain rfl : i = xs.length := by omega
  rw [List.take_length]
  refine cx_exit rfl ?_
  refine cx_keep rfl rfl ?_
  refine cx_seq ?_
  refine cx_ops ?_
  refine ax_q (q_mov rfl) ?_
  refine ax_q (q_mov rfl) ?_
  refine ax_nil ?_
  refine cx_keep rfl rfl ?_
  refine cx_ret (retN (fun _ => 0) [11] rfl rfl rfl rfl rfl ?_)
  exact ⟨rfl, rfl⟩

end Go.Proofs.Ytkingadnnilgiaa
