/- The walks: what each function computes, as a contract without a world (part 1). -/
import Derived.Test.YtljbgclkdfeegaaProg
import Derived.Test.YtljbgclkdfeegaaW0
namespace Go.Proofs.Ytljbgclkdfeegaa
open Go Go.AM
set_option maxRecDepth 10000
set_option linter.unusedVariables false
/- (loop.example/g00332/impl.Locks).clone -/
def k_c_cloneL : XCode :=
  .seq (.ops [.op (some 1) (.box (.t 0)),
     .op (some 2) (.alloc [.nils 4, .nils 2])])
  (.keep [1, 2] (.seq (.drawE [[], [0], [0, 1], [], [3], [0, 1, 2, 3, 4], [0, 1, 2, 3, 4, 5], [0, 1, 2, 3, 4, 5, 6]] [.op (some 3) (.fadr (.t 1) 0),
     .op (some 4) (.load1 (.t 3)),
     .call (some 5) 36 [.t 4],
     .op (some 6) (.fadr (.t 1) 1),
     .op (some 7) (.load1 (.t 6))]
    [.call (some 8) 66 [.t 7],
     .op (some 9) (.build [.nils 4, .nils 2] [(0, 1, .t 5), (1, 1, .t 8)]),
     .op none (.store 2 (.t 2) (.t 9))])
  (.keep [2] (.ret))))
theorem k_c_cloneL_fits : fitsF Try.prog 30 ⟨10, k_c_cloneL, [.cN 2 2]⟩ = true := by kernel_rfl
theorem c_cloneL {l : GLocks} (hw0 : l.Held.length ≤ 1048576) (hw1 : l.Waits.length ≤ 1048576) : Con Try.prog noMv 30 [l.av] [] (fun r h => r = l.avO 0 1 ∧ h = l.hO 0 1) := by
  refine con_of2 k_c_cloneL_fits rfl fun C hP hmv => ?_
  unfold k_c_cloneL
  refine cx_seq ?_
  refine cx_ops ?_
  refine ax_e (e_box rfl rfl (by decide) rfl rfl rfl) ?_
  refine ax_e (e_alloc (by decide) rfl rfl) ?_
  refine ax_nil ?_
  refine cx_keep rfl rfl ?_
  refine cx_seq ?_
  refine cx_drawL 0 3 (fun _ => false) (fun _ => true) [] ([]) [[1], [3], [4], [1], [6]] [[], [], [], [], []] rfl ?_
  first | refine ⟨⟨3, _, []⟩, .inl ⟨rfl, rfl, rfl, locl_of (loc_q (q_fadr_ptr rfl))⟩, ?_⟩ | refine ⟨⟨3, _, []⟩, .inl ⟨rfl, rfl, rfl, locl_of (loc_q (q_fadr_rptr rfl))⟩, ?_⟩ | refine ⟨⟨3, _, []⟩, .inl ⟨rfl, rfl, rfl, locl_of (loc_q (q_fadr_ip rfl))⟩, ?_⟩
  first | refine ⟨_, .inr ⟨rfl, _, rfl, .inr ⟨rfl, rfl, .inl rfl, rfl, rfl⟩, loc_q (q_load1_ptr rfl rfl rfl)⟩, ?_⟩ | refine ⟨_, .inr ⟨rfl, _, rfl, .inr ⟨rfl, rfl, .inl rfl, rfl, rfl⟩, loc_q (q_load1_ip rfl)⟩, ?_⟩ | refine ⟨_, .inr ⟨rfl, _, rfl, .inr ⟨rfl, rfl, .inl rfl, rfl, rfl⟩, loc_q (q_load1_rptr rfl rfl rfl rfl)⟩, ?_⟩ | refine ⟨_, .inr ⟨rfl, _, rfl, .inr ⟨rfl, rfl, .inl rfl, rfl, rfl⟩, loc_q (q_load1_rptr rfl rfl (by assumption) rfl)⟩, ?_⟩ | refine ⟨_, .inr ⟨rfl, _, rfl, .inr ⟨rfl, rfl, .inl rfl, rfl, rfl⟩, loc_q (q_load1_rptr rfl rfl (mapAt (by first | assumption | omega)) rfl)⟩, ?_⟩
  first | refine ⟨_, .inr ⟨rfl, _, rfl, .inr ⟨rfl, rfl, .inl rfl, rfl, rfl⟩, loc_call (fun i => 5 + 200 * i) false rfl (c_Clone_Lock  (by first | assumption | omega | (simp; done) | (simp; omega))) hP (.inr ⟨rfl, rfl, rfl⟩) rfl rfl (fun h => by cases h)⟩, ?_⟩ | refine ⟨_, .inr ⟨rfl, _, rfl, .inr ⟨rfl, rfl, .inl rfl, rfl, rfl⟩, loc_call (fun i => 5 + 200 * i) true rfl (c_Clone_Lock  (by first | assumption | omega | (simp; done) | (simp; omega))) hP (.inl ⟨rfl, (by repeat (first | exact lal_id _ rfl | exact LAL.nil | refine LAL.cons ?_ ?_ | exact la_id _ rfl | exact LA.lend (lend_whole rfl (by first | (simp; done) | (rw [List.length_map]; rfl))) | refine LA.agg ?_ | refine LA.fn ?_ | refine LA.lend ?_ | exact Lend.d _ | exact Lend.zs _ | exact lend_whole rfl (by first | (simp; done) | (rw [List.length_map]; rfl)) | refine Lend.ptr rfl ?_ | refine Lend.fn ?_ | exact LendL.nil | refine LendL.cons ?_ ?_))⟩) rfl rfl (fun _ => ⟨rfl, noisl_of (by repeat (first | exact trivial | refine ⟨noisl_map (fun _ => rfl), ?_⟩ | refine ⟨?_, ?_⟩))⟩)⟩, ?_⟩
  first | refine ⟨_, .inr ⟨rfl, _, rfl, .inr ⟨rfl, rfl, .inr rfl, rfl, rfl⟩, loc_q (q_fadr_ptr rfl)⟩, ?_⟩ | refine ⟨_, .inr ⟨rfl, _, rfl, .inr ⟨rfl, rfl, .inr rfl, rfl, rfl⟩, loc_q (q_fadr_rptr rfl)⟩, ?_⟩ | refine ⟨_, .inr ⟨rfl, _, rfl, .inr ⟨rfl, rfl, .inr rfl, rfl, rfl⟩, loc_q (q_fadr_ip rfl)⟩, ?_⟩
  first | refine ⟨_, .inr ⟨rfl, _, rfl, .inr ⟨rfl, rfl, .inr rfl, rfl, rfl⟩, loc_q (q_load1_ptr rfl rfl rfl)⟩, ?_⟩ | refine ⟨_, .inr ⟨rfl, _, rfl, .inr ⟨rfl, rfl, .inr rfl, rfl, rfl⟩, loc_q (q_load1_ip rfl)⟩, ?_⟩ | refine ⟨_, .inr ⟨rfl, _, rfl, .inr ⟨rfl, rfl, .inr rfl, rfl, rfl⟩, loc_q (q_load1_rptr rfl rfl rfl rfl)⟩, ?_⟩ | refine ⟨_, .inr ⟨rfl, _, rfl, .inr ⟨rfl, rfl, .inr rfl, rfl, rfl⟩, loc_q (q_load1_rptr rfl rfl (by assumption) rfl)⟩, ?_⟩ | refine ⟨_, .inr ⟨rfl, _, rfl, .inr ⟨rfl, rfl, .inr rfl, rfl, rfl⟩, loc_q (q_load1_rptr rfl rfl (mapAt (by first | assumption | omega)) rfl)⟩, ?_⟩
  refine ⟨rfl, ?_⟩
  first | refine ax_call rfl (vc_pure (c_Clone_Wait  ?_) hP rfl ?_) | refine ax_call rfl (vc_lend (c_Clone_Wait  ?_) hP (by repeat (first | exact lal_id _ rfl | exact LAL.nil | refine LAL.cons ?_ ?_ | exact la_id _ rfl | exact LA.lend (lend_whole rfl (by first | (simp; done) | (rw [List.length_map]; rfl))) | refine LA.agg ?_ | refine LA.fn ?_ | refine LA.lend ?_ | exact Lend.d _ | exact Lend.zs _ | exact lend_whole rfl (by first | (simp; done) | (rw [List.length_map]; rfl)) | refine Lend.ptr rfl ?_ | refine Lend.fn ?_ | exact LendL.nil | refine LendL.cons ?_ ?_)) ?_)
  · first | assumption | omega | (simp; done) | (simp; omega)
  rintro r h ⟨rfl, rfl⟩
  refine ⟨fun i => 8 + 200 * i, [0], ⟨rfl, rfl, rfl, rfl, rfl, (by first | exact (fun h => absurd h Bool.false_ne_true) | exact (fun _ => ⟨rfl, (noisl_of (by repeat (first | exact trivial | refine ⟨noisl_map (fun _ => rfl), ?_⟩ | refine ⟨?_, ?_⟩)))⟩))⟩, ?_⟩
  skip
  refine ax_q (q_build rfl) ?_
  refine ax_e (e_st rfl rfl rfl rfl rfl rfl rfl) ?_
  refine ax_nil ?_
  refine cx_keep rfl rfl ?_
  refine cx_ret (retN (fun e => bif Nat.beq e 8 then 1 else 0) [5, 8] rfl rfl rfl rfl rfl ?_)
  exact ⟨rfl, rfl⟩


/- slices.Index[[]int,int] -/
def k_c_Index_Int : XCode :=
  .seq (.ops [.op (some 4) (.mov (.k (.int .i64 0)))])
  (.keep [0, 1] (.seq (.seq (.ops [.op (some 6) (.mov (.t 0)),
      .op (some 7) (.lenS (.t 6)),
      .op (some 8) (.mov (.k (.int .i64 0)))])
   (.keep [0, 1, 7, 8] (.block 0 (.loop (.seq (.ops [.op (some 9) (.bin .lss (.t 8) (.t 7))])
     (.keep [0, 1, 7, 8, 9] (.seq (.cond (.t 9)
       (.skip)
       (.exit 0))
     (.keep [0, 1, 7, 8] (.seq (.block 1 (.seq (.ops [.op (some 10) (.mov (.t 8)),
          .op (some 5) (.mov (.t 10))])
       (.keep [0, 1, 5, 7, 8] (.seq (.ops [.op (some 11) (.mov (.t 1)),
          .op (some 12) (.mov (.t 0)),
          .op (some 13) (.mov (.t 5)),
          .op (some 14) (.iadr 1 (.t 12) (.t 13)),
          .op (some 15) (.load1 (.t 14)),
          .op (some 16) (.bin .eql (.t 11) (.t 15))])
       (.keep [0, 1, 5, 7, 8, 16] (.cond (.t 16)
        (.seq (.ops [.op (some 17) (.mov (.t 5)),
            .op (some 4) (.mov (.t 17))])
         (.keep [4] (.ret)))
        (.skip)))))))
     (.keep [0, 1, 7, 8] (.ops [.op (some 18) (.bin .add (.t 8) (.k (.int .i64 1))),
       .op (some 8) (.mov (.t 18))])))))))))))
  (.keep [] (.seq (.ops [.op (some 4) (.mov (.k (.int .i64 (-1))))])
  (.keep [4] (.ret))))))
theorem k_c_Index_Int_fits : fitsF Try.prog 90 ⟨19, k_c_Index_Int, [.t 4]⟩ = true := by kernel_rfl
theorem c_Index_Int {xs : List Int} {v : Int} (hw : xs.length ≤ 9223372036854775807) : Con Try.prog noMv 90 [.d (.sl 1 (xs.map intRow)), int v] [] (fun r h => r = int (idxOf (fun s => eqb v s) xs 0) ∧ h = []) := by
  refine con_of2 k_c_Index_Int_fits rfl fun C hP hmv => ?_
  unfold k_c_Index_Int
  refine cx_seq ?_
  refine cx_ops ?_
  refine ax_q (q_mov rfl) ?_
  refine ax_nil ?_
  refine cx_keep rfl rfl ?_
  refine cx_seq ?_
  refine cx_seq ?_
  refine cx_ops ?_
  refine ax_q (q_mov rfl) ?_
  first | refine ax_q (q_lenS_map rfl) ?_ | refine ax_q (q_lenS_osl rfl) ?_ | refine ax_q (q_lenS_zs rfl) ?_ | refine ax_q (q_lenS rfl) ?_
  refine ax_q (q_mov rfl) ?_
  refine ax_nil ?_
  refine cx_keep rfl rfl ?_
  refine cx_block ?_
  refine cx_loopU (fun n k => k ≤ xs.length ∧ n = xs.length - k ∧ ∀ i, i < k → ∀ x, xs[i]? = some x → (fun s => eqb v s) x = false) (fun k : Nat => [(8, int k)]) (fun _ => []) ⟨_, 0, ⟨by omega, rfl, fun i hi => by omega⟩, by repeat (first | exact trivial | refine ⟨rfl, ?_⟩ | refine ⟨?_, ?_⟩)⟩ ?_
  rintro n k ⟨hk, rfl, ht⟩
  refine cx_seq ?_
  refine cx_ops ?_
  refine ax_q (q_ibin rfl rfl rfl) ?_
  refine ax_nil ?_
  refine cx_keep rfl rfl ?_
  refine cx_seq ?_
  refine cx_cond rfl (fun h0 => ?_) (fun h0 => ?_)
  · have h0 := dT h0
    have h0x : k < xs.length := by omega
    refine cx_skip ?_
    refine cx_keep rfl rfl ?_
    refine cx_seq ?_
    refine cx_block ?_
    refine cx_seq ?_
    refine cx_ops ?_
    refine ax_q (q_mov rfl) ?_
    refine ax_q (q_mov rfl) ?_
    refine ax_nil ?_
    refine cx_keep rfl rfl ?_
    refine cx_seq ?_
    refine cx_ops ?_
    refine ax_q (q_mov rfl) ?_
    refine ax_q (q_mov rfl) ?_
    refine ax_q (q_mov rfl) ?_
    refine ax_q (q_ix rfl rfl (mapAt h0x)) ?_
    first | refine ax_q (q_load1_ptr rfl rfl rfl) ?_ | refine ax_q (q_load1_ip rfl) ?_ | refine ax_q (q_load1_rptr rfl rfl rfl rfl) ?_ | refine ax_q (q_load1_rptr rfl rfl (by assumption) rfl) ?_ | refine ax_q (q_load1_rptr rfl rfl (mapAt (by first | assumption | omega)) rfl) ?_
    refine ax_q (q_ibin rfl rfl rfl) ?_
    refine ax_nil ?_
    refine cx_keep rfl rfl ?_
    refine cx_cond rfl (fun h1 => ?_) (fun h1 => ?_)
    · have h1 : eqb v xs[k] = true := eqb_t (dT h1)
      refine cx_seq ?_
      refine cx_ops ?_
      refine ax_q (q_mov rfl) ?_
      refine ax_q (q_mov rfl) ?_
      refine ax_nil ?_
      refine cx_keep rfl rfl ?_
      refine cx_ret (ret0 rfl rfl ?_)
      exact ⟨by rw [idxOf_hit h0x ht h1]; rfl, rfl⟩
    · have h1 : eqb v xs[k] = false := eqb_f (dF h1)
      refine cx_skip ?_
      refine cx_keep rfl rfl ?_
      refine cx_ops ?_
      refine ax_qe (r' := int ((k + 1 : Nat) : Int)) (q_ibin rfl rfl rfl) (by rw [wi (by omega) (by omega)]; rfl) ?_
      refine ax_q (q_mov rfl) ?_
      refine ax_nil ?_
      exact ⟨_, k + 1, by omega, ⟨by omega, rfl, before_step h0x ht h1⟩, by repeat (first | exact trivial | refine ⟨rfl, ?_⟩ | refine ⟨?_, ?_⟩)⟩
  · have h0 := dF h0
    have h0x : k = xs.length := by omega
    refine cx_exit rfl ?_
    refine cx_keep rfl rfl ?_
    refine cx_seq ?_
    refine cx_ops ?_
    refine ax_q (q_mov rfl) ?_
    refine ax_nil ?_
    refine cx_keep rfl rfl ?_
    refine cx_ret (ret0 rfl rfl ?_)
    exact ⟨by rw [idxOf_none (fun i hi => ht i (by omega))]; rfl, rfl⟩


/- slices.Contains[[]int,int] -/
def k_c_Contains_Int : XCode :=
  .seq (.ops [.op (some 4) (.mov (.k (.bool false)))])
  (.keep [0, 1] (.seq (.ops [.op (some 5) (.mov (.t 0)),
     .op (some 6) (.mov (.t 1)),
     .call (some 7) 90 [.t 5, .t 6],
     .op (some 8) (.bin .geq (.t 7) (.k (.int .i64 0))),
     .op (some 4) (.mov (.t 8))])
  (.keep [4] (.ret))))
theorem k_c_Contains_Int_fits : fitsF Try.prog 82 ⟨9, k_c_Contains_Int, [.t 4]⟩ = true := by kernel_rfl
theorem c_Contains_Int {xs : List Int} {v : Int} (hw : xs.length ≤ 9223372036854775807) : Con Try.prog noMv 82 [.d (.sl 1 (xs.map intRow)), int v] [] (fun r h => r = bool (xs.any (fun s => eqb v s)) ∧ h = []) := by
  refine con_of2 k_c_Contains_Int_fits rfl fun C hP hmv => ?_
  unfold k_c_Contains_Int
  refine cx_seq ?_
  refine cx_ops ?_
  refine ax_q (q_mov rfl) ?_
  refine ax_nil ?_
  refine cx_keep rfl rfl ?_
  refine cx_seq ?_
  refine cx_ops ?_
  refine ax_q (q_mov rfl) ?_
  refine ax_q (q_mov rfl) ?_
  first | refine ax_call rfl (vc_pure0 (c_Index_Int (v := v) ?_) hP rfl rfl ?_) | refine ax_call rfl (vc_lend0 (c_Index_Int (v := v) ?_) hP (by repeat (first | exact lal_id _ rfl | exact LAL.nil | refine LAL.cons ?_ ?_ | exact la_id _ rfl | exact LA.lend (lend_whole rfl (by first | (simp; done) | (rw [List.length_map]; rfl))) | refine LA.agg ?_ | refine LA.fn ?_ | refine LA.lend ?_ | exact Lend.d _ | exact Lend.zs _ | exact lend_whole rfl (by first | (simp; done) | (rw [List.length_map]; rfl)) | refine Lend.ptr rfl ?_ | refine Lend.fn ?_ | exact LendL.nil | refine LendL.cons ?_ ?_)) rfl rfl ?_)
  · first | assumption | omega | (simp; done) | (simp; omega)
  refine ax_qe (r' := bool (xs.any (fun s => eqb v s))) (q_ibin rfl rfl rfl) (congrArg AM.bool any_idxOf) ?_
  refine ax_q (q_mov rfl) ?_
  refine ax_nil ?_
  refine cx_keep rfl rfl ?_
  refine cx_ret (ret0 rfl rfl ?_)
  exact ⟨rfl, rfl⟩


/- (loop.example/g00332/impl.Locks).leads -/
def k_c_leads : XCode :=
  .seq (.ops [.op (some 3) (.box (.t 0)),
     .op (some 6) (.mov (.k (.bool false)))])
  (.keep [1, 2, 3] (.seq (.ops [.op (some 12) (.bslice 1 []),
     .op (some 13) (.mov (.t 1)),
     .op (some 14) (.bslice 1 [.t 13]),
     .op (some 7) (.mov (.t 12)),
     .op (some 8) (.mov (.t 14))])
  (.keep [2, 3, 7, 8] (.seq (.block 0 (.loop (.seq (.seq (.ops [.op (some 15) (.mov (.t 8)),
         .op (some 16) (.lenS (.t 15)),
         .op (some 17) (.bin .gtr (.t 16) (.k (.int .i64 0)))])
      (.keep [2, 3, 7, 8, 17] (.cond (.t 17)
       (.skip)
       (.exit 0))))
     (.keep [2, 3, 7, 8] (.block 1 (.seq (.ops [.op (some 18) (.mov (.t 8)),
         .op (some 19) (.iadr 1 (.t 18) (.k (.int .i64 0))),
         .op (some 20) (.load1 (.t 19)),
         .op (some 9) (.mov (.t 20))])
      (.keep [2, 3, 7, 8, 9] (.seq (.ops [.op (some 21) (.mov (.t 8)),
         .op (some 22) (.slc 1 (.t 21) (some (.k (.int .i64 1))) none none),
         .op (some 8) (.mov (.t 22))])
      (.keep [2, 3, 7, 8, 9] (.seq (.ops [.op (some 23) (.fadr (.t 3) 1),
         .op (some 24) (.load1 (.t 23)),
         .op (some 25) (.lenS (.t 24)),
         .op (some 26) (.mov (.k (.int .i64 0)))])
      (.keep [2, 3, 7, 8, 9, 24, 25, 26] (.block 2 (.loop (.seq (.ops [.op (some 27) (.bin .lss (.t 26) (.t 25))])
        (.keep [2, 3, 7, 8, 9, 24, 25, 26, 27] (.seq (.cond (.t 27)
          (.skip)
          (.exit 2))
        (.keep [2, 3, 7, 8, 9, 24, 25, 26] (.seq (.block 3 (.seq (.ops [.op (some 28) (.iadr 2 (.t 24) (.t 26)),
             .op (some 29) (.loadN 2 (.t 28)),
             .op (some 11) (.alloc [.int .i64 0, .int .i64 0]),
             .op none (.store 2 (.t 11) (.t 29))])
          (.keep [2, 3, 7, 8, 9, 11, 24, 25, 26] (.seq (.seq (.ops [.op (some 30) (.fadr (.t 11) 0),
              .op (some 31) (.load1 (.t 30)),
              .op (some 32) (.mov (.t 9)),
              .op (some 33) (.bin .neq (.t 31) (.t 32)),
              .op (some 34) (.mov (.t 33)),
              .andor 39 false 4 34 [.op (some 35) (.mov (.t 7)), .op (some 36) (.fadr (.t 11) 1), .op (some 37) (.load1 (.t 36)), .call (some 38) 82 [.t 35, .t 37]] (.t 38)])
           (.keep [2, 3, 7, 8, 9, 11, 24, 25, 26, 39] (.cond (.t 39)
            (.exit 3)
            (.skip))))
          (.keep [2, 3, 7, 8, 9, 11, 24, 25, 26] (.seq (.seq (.ops [.op (some 40) (.fadr (.t 11) 1),
              .op (some 41) (.load1 (.t 40)),
              .op (some 42) (.mov (.t 2)),
              .op (some 43) (.bin .eql (.t 41) (.t 42))])
           (.keep [2, 3, 7, 8, 9, 11, 24, 25, 26, 43] (.cond (.t 43)
            (.seq (.ops [.op (some 6) (.mov (.k (.bool true)))])
             (.keep [6] (.ret)))
            (.skip))))
          (.keep [2, 3, 7, 8, 9, 11, 24, 25, 26] (.drawE [[], [], [1], [1, 2], [0, 1, 2, 3], [], [], [6], [6, 7], [0, 1, 2, 3, 4, 5, 6, 7, 8], [0, 1, 2, 3, 4, 5, 6, 7, 8, 9], [0, 1, 2, 3, 4, 5, 6, 7, 8, 9, 10]] [.op (some 44) (.mov (.t 7)),
            .op (some 45) (.fadr (.t 11) 1),
            .op (some 46) (.load1 (.t 45)),
            .op (some 47) (.bslice 1 [.t 46]),
            .op (some 48) (.app 1 8 [.int .i64 0] (.t 44) (.t 47)),
            .op (some 49) (.mov (.t 8)),
            .op (some 50) (.fadr (.t 11) 1),
            .op (some 51) (.load1 (.t 50)),
            .op (some 52) (.bslice 1 [.t 51])]
           [.op (some 53) (.app 1 8 [.int .i64 0] (.t 49) (.t 52)),
            .op (some 7) (.mov (.t 48)),
            .op (some 8) (.mov (.t 53))]))))))))
        (.keep [2, 3, 7, 8, 9, 24, 25, 26] (.ops [.op (some 54) (.bin .add (.t 26) (.k (.int .i64 1))),
          .op (some 26) (.mov (.t 54))]))))))))))))))))))))
  (.keep [] (.seq (.ops [.op (some 6) (.mov (.k (.bool false)))])
  (.keep [6] (.ret))))))))
theorem k_c_leads_fits : fitsF Try.prog 52 ⟨55, k_c_leads, [.t 6]⟩ = true := by kernel_rfl
theorem c_leads {l : GLocks} {tx : Int} (hw0 : l.Held.length ≤ 1048576) (hw1 : l.Waits.length ≤ 1048576) : Con Try.prog noMv 52 [l.av, int tx, int tx] [] (fun r h => r = bool (roundB l.Waits tx) ∧ h = []) := by
  refine con_of2 k_c_leads_fits rfl fun C hP hmv => ?_
  unfold k_c_leads
  refine cx_seq ?_
  refine cx_ops ?_
  refine ax_e (e_box rfl rfl (by decide) rfl rfl rfl) ?_
  refine ax_q (q_mov rfl) ?_
  refine ax_nil ?_
  refine cx_keep rfl rfl ?_
  refine cx_seq ?_
  refine cx_ops ?_
  refine ax_e (e_bslice rfl (by decide) rfl rfl) ?_
  refine ax_q (q_mov rfl) ?_
  refine ax_e (e_bslice rfl (by decide) rfl rfl) ?_
  refine ax_q (q_mov rfl) ?_
  refine ax_q (q_mov rfl) ?_
  refine ax_nil ?_
  refine cx_keep rfl rfl ?_
  refine cx_seq ?_
  refine cx_block ?_
  refine cx_loopU (fun n (p : Nat × List Int × Nat × List (List D)) => n = l.Waits.length + 2 - p.1 ∧ RInv tx l.Waits (tx :: p.2.1) ∧ p.1 ≤ p.2.1.length + 1 ∧ roundF tx l.Waits (l.Waits.length + 2 - p.1) p.1 (tx :: p.2.1) = roundB l.Waits tx ∧ p.2.2.1 + (p.2.1.length + 1 - p.1) ≤ p.2.2.2.length ∧ (p.2.2.2.drop p.2.2.1).take (p.2.1.length + 1 - p.1) = ((tx :: p.2.1).drop p.1).map intRow)
    (fun p => [(7, .osl 12 1 0 p.2.1.length), (8, .osl 14 1 p.2.2.1 (p.2.1.length + 1 - p.1))]) (fun p => [(3, .box [.d (.sl 4 (l.Held.map GLock.row)), .d (.sl 2 (l.Waits.map GWait.row))]), (12, .rows 1 (p.2.1.map intRow)), (14, .rows 1 p.2.2.2)]) ⟨_, (0, [], 0, [[.int .i64 tx]]), ⟨rfl, RInv.start _ _, Nat.zero_le _, rfl, by simp, rfl⟩, by repeat (first | exact trivial | refine ⟨rfl, ?_⟩ | refine ⟨?_, ?_⟩)⟩ ?_
  rintro n ⟨i, t, s, rs⟩ ⟨rfl, hr, hi, hd, hq, hq2⟩
  simp only at hr hi hd hq hq2 ⊢
  have hrl : t.length + 1 ≤ l.Waits.length + 1 := hr.len
  refine cx_seq ?_
  refine cx_seq ?_
  refine cx_ops ?_
  refine ax_q (q_mov rfl) ?_
  first | refine ax_q (q_lenS_map rfl) ?_ | refine ax_q (q_lenS_osl rfl) ?_ | refine ax_q (q_lenS_zs rfl) ?_ | refine ax_q (q_lenS rfl) ?_
  refine ax_q (q_ibin rfl rfl rfl) ?_
  refine ax_nil ?_
  refine cx_keep rfl rfl ?_
  refine cx_cond rfl (fun h0 => ?_) (fun h0 => ?_)
  · have h0 := dT h0
    have h0x : i < (tx :: t).length := by rw [List.length_cons]; omega
    have hh := drop_take_zero (r := tx :: t) h0x hq2
    have hn := drop_take_next (r := tx :: t) hq2
    rw [List.length_cons] at hn
    refine cx_skip ?_
    refine cx_keep rfl rfl ?_
    refine cx_block ?_
    refine cx_seq ?_
    refine cx_ops ?_
    refine ax_q (q_mov rfl) ?_
    refine ax_q (q_iadr_osl rfl rfl (by omega) (by omega)) ?_
    refine ax_q (q_load1_rptr rfl rfl hh rfl) ?_
    refine ax_q (q_mov rfl) ?_
    refine ax_nil ?_
    refine cx_keep rfl rfl ?_
    refine cx_seq ?_
    refine cx_ops ?_
    refine ax_q (q_mov rfl) ?_
    refine ax_qe (r' := .osl 14 1 (s + 1) (t.length + 1 - (i + 1))) (q_slc_osl rfl rfl rfl (by omega) (by omega) (by omega)) (oslE (by omega) (by omega)) ?_
    refine ax_q (q_mov rfl) ?_
    refine ax_nil ?_
    refine cx_keep rfl rfl ?_
    refine cx_seq ?_
    refine cx_ops ?_
    first | refine ax_q (q_fadr_ptr rfl) ?_ | refine ax_q (q_fadr_rptr rfl) ?_ | refine ax_q (q_fadr_ip rfl) ?_
    first | refine ax_q (q_load1_ptr rfl rfl rfl) ?_ | refine ax_q (q_load1_ip rfl) ?_ | refine ax_q (q_load1_rptr rfl rfl rfl rfl) ?_ | refine ax_q (q_load1_rptr rfl rfl (by assumption) rfl) ?_ | refine ax_q (q_load1_rptr rfl rfl (mapAt (by first | assumption | omega)) rfl) ?_
    first | refine ax_q (q_lenS_map rfl) ?_ | refine ax_q (q_lenS_osl rfl) ?_ | refine ax_q (q_lenS_zs rfl) ?_ | refine ax_q (q_lenS rfl) ?_
    refine ax_q (q_mov rfl) ?_
    refine ax_nil ?_
    refine cx_keep rfl rfl ?_
    refine cx_block ?_
    refine cx_loopU (fun n (p : Nat × List Int × Nat × List (List D)) => p.1 ≤ l.Waits.length ∧ n = l.Waits.length - p.1 ∧ RInv tx l.Waits (tx :: p.2.1) ∧ t.length ≤ p.2.1.length ∧ scanW tx (tx :: t)[i] (l.Waits.take p.1) (tx :: t) = some (tx :: p.2.1) ∧ p.2.2.1 + (p.2.1.length + 1 - (i + 1)) ≤ p.2.2.2.length ∧ (p.2.2.2.drop p.2.2.1).take (p.2.1.length + 1 - (i + 1)) = ((tx :: p.2.1).drop (i + 1)).map intRow)
      (fun p => [(7, .osl 12 1 0 p.2.1.length), (8, .osl 14 1 p.2.2.1 (p.2.1.length + 1 - (i + 1))), (26, int p.1)]) (fun p => [(3, .box [.d (.sl 4 (l.Held.map GLock.row)), .d (.sl 2 (l.Waits.map GWait.row))]), (12, .rows 1 (p.2.1.map intRow)), (14, .rows 1 p.2.2.2)]) ⟨_, (0, t, s + 1, rs), ⟨Nat.zero_le _, rfl, hr, Nat.le_refl _, rfl, by simp only; omega, hn⟩, by repeat (first | exact trivial | refine ⟨rfl, ?_⟩ | refine ⟨?_, ?_⟩)⟩ ?_
    rintro n ⟨k, t', s', rs'⟩ ⟨hk, rfl, hr', htl, hs, hz, hz2⟩
    simp only at hk hr' htl hs hz hz2 ⊢
    have hrl' : t'.length + 1 ≤ l.Waits.length + 1 := hr'.len
    refine cx_seq ?_
    refine cx_ops ?_
    refine ax_q (q_ibin rfl rfl rfl) ?_
    refine ax_nil ?_
    refine cx_keep rfl rfl ?_
    refine cx_seq ?_
    refine cx_cond rfl (fun h1 => ?_) (fun h1 => ?_)
    · have h1 := dT h1
      have h1x : k < l.Waits.length := by omega
      refine cx_skip ?_
      refine cx_keep rfl rfl ?_
      refine cx_seq ?_
      refine cx_block ?_
      refine cx_seq ?_
      refine cx_ops ?_
      refine ax_q (q_ix rfl rfl (mapAt h1x)) ?_
      first | refine ax_q (q_ldN rfl rfl rfl) ?_ | refine ax_q (q_loadN_ip rfl (Nat.le_refl _)) ?_ | refine ax_q (q_loadN_ip rfl (by decide)) ?_ | refine ax_q (q_loadN_rptr rfl rfl (by assumption) (by decide)) ?_ | refine ax_q (q_loadN_rptr rfl rfl (mapAt (by first | assumption | omega)) (by decide)) ?_
      refine ax_e (e_alloc (by decide) rfl rfl) ?_
      refine ax_e (e_st rfl rfl rfl rfl rfl rfl rfl) ?_
      refine ax_nil ?_
      refine cx_keep rfl rfl ?_
      refine cx_seq ?_
      refine cx_seq ?_
      refine cx_ops ?_
      first | refine ax_q (q_fadr_ptr rfl) ?_ | refine ax_q (q_fadr_rptr rfl) ?_ | refine ax_q (q_fadr_ip rfl) ?_
      first | refine ax_q (q_load1_ptr rfl rfl rfl) ?_ | refine ax_q (q_load1_ip rfl) ?_ | refine ax_q (q_load1_rptr rfl rfl rfl rfl) ?_ | refine ax_q (q_load1_rptr rfl rfl (by assumption) rfl) ?_ | refine ax_q (q_load1_rptr rfl rfl (mapAt (by first | assumption | omega)) rfl) ?_
      refine ax_q (q_mov rfl) ?_
      refine ax_q (q_ibin rfl rfl rfl) ?_
      refine ax_q (q_mov rfl) ?_
      apply ax_or rfl rfl
      · intro g
        have g := nF g
        refine ax_q (q_mov rfl) ?_
        first | refine ax_q (q_fadr_ptr rfl) ?_ | refine ax_q (q_fadr_rptr rfl) ?_ | refine ax_q (q_fadr_ip rfl) ?_
        first | refine ax_q (q_load1_ptr rfl rfl rfl) ?_ | refine ax_q (q_load1_ip rfl) ?_ | refine ax_q (q_load1_rptr rfl rfl rfl rfl) ?_ | refine ax_q (q_load1_rptr rfl rfl (by assumption) rfl) ?_ | refine ax_q (q_load1_rptr rfl rfl (mapAt (by first | assumption | omega)) rfl) ?_
        first | refine ax_call rfl (vc_lend0 (c_Contains_Int (xs := t') (v := l.Waits[k].For) (by omega)) hP (by repeat (first | exact lal_id _ rfl | exact LAL.nil | refine LAL.cons ?_ ?_ | exact la_id _ rfl | exact LA.lend (lend_whole rfl (by first | (simp; done) | (rw [List.length_map]; rfl))) | refine LA.agg ?_ | refine LA.fn ?_ | refine LA.lend ?_ | exact Lend.d _ | exact Lend.zs _ | exact lend_whole rfl (by first | (simp; done) | (rw [List.length_map]; rfl)) | refine Lend.ptr rfl ?_ | refine Lend.fn ?_ | exact LendL.nil | refine LendL.cons ?_ ?_)) rfl rfl ?_) | refine ax_callq rfl (c_Contains_Int (xs := t') (v := l.Waits[k].For) (by omega)) hP (by repeat (first | exact lal_id _ rfl | exact LAL.nil | refine LAL.cons ?_ ?_ | exact la_id _ rfl | exact LA.lend (lend_whole rfl (by first | (simp; done) | (rw [List.length_map]; rfl))) | refine LA.agg ?_ | refine LA.fn ?_ | refine LA.lend ?_ | exact Lend.d _ | exact Lend.zs _ | exact lend_whole rfl (by first | (simp; done) | (rw [List.length_map]; rfl)) | refine Lend.ptr rfl ?_ | refine Lend.fn ?_ | exact LendL.nil | refine LendL.cons ?_ ?_)) rfl ?_
        exact ax_nil ⟨rfl, by repeat (first | exact trivial | refine ⟨rfl, ?_⟩ | refine ⟨?_, ?_⟩)⟩
      refine ax_nil ?_
      refine cx_keep rfl rfl ?_
      refine cx_cond rfl (fun h2 => ?_) (fun h2 => ?_)
      · have h2 := (fun h => (or_T h).imp nT id) h2
        have e1 : scan1 tx (tx :: t)[i] (tx :: t') l.Waits[k] = some (tx :: t') := by
          by_cases h9 : l.Waits[k].Tx = (tx :: t)[i]
          · have h10 : t'.any (fun s => eqb l.Waits[k].For s) = true := h2.resolve_left (fun h => h h9)
            have h11 : ¬ l.Waits[k].For = tx := fun he => by rw [he, not_tail hr'] at h10; cases h10
            exact scan1_old h9 h11 (by rw [tail_any h11]; exact h10)
          · exact scan1_skip h9
        refine cx_exit rfl ?_
        refine cx_keep rfl rfl ?_
        refine cx_ops ?_
        refine ax_qe (r' := int ((k + 1 : Nat) : Int)) (q_ibin rfl rfl rfl) (by rw [wi (by omega) (by omega)]; rfl) ?_
        refine ax_q (q_mov rfl) ?_
        refine ax_nil ?_
        first | exact ⟨_, (k + 1, t' ++ [l.Waits[k].For], s2, rs2), by simp only; omega, ⟨by simp only; omega, rfl, (hr'.step h1x e1).1, by simp only [List.length_append]; omega, by simp only [scanW_succ h1x, hs]; exact e1, hz3, hz4⟩, by repeat (first | exact trivial | refine ⟨rfl, ?_⟩ | refine ⟨?_, ?_⟩)⟩ | exact ⟨_, (k + 1, t', s', rs'), by simp only; omega, ⟨by simp only; omega, rfl, hr', htl, by simp only [scanW_succ h1x, hs]; exact e1, hz, hz2⟩, by repeat (first | exact trivial | refine ⟨rfl, ?_⟩ | refine ⟨?_, ?_⟩)⟩
      · have h2 := (fun h => And.intro (nF (or_F h).1) (id (or_F h).2)) h2
        obtain ⟨h2a, h2b⟩ := h2
        have h2a : l.Waits[k].Tx = (tx :: t)[i] := by simpa using h2a
        refine cx_skip ?_
        refine cx_keep rfl rfl ?_
        refine cx_seq ?_
        refine cx_seq ?_
        refine cx_ops ?_
        first | refine ax_q (q_fadr_ptr rfl) ?_ | refine ax_q (q_fadr_rptr rfl) ?_ | refine ax_q (q_fadr_ip rfl) ?_
        first | refine ax_q (q_load1_ptr rfl rfl rfl) ?_ | refine ax_q (q_load1_ip rfl) ?_ | refine ax_q (q_load1_rptr rfl rfl rfl rfl) ?_ | refine ax_q (q_load1_rptr rfl rfl (by assumption) rfl) ?_ | refine ax_q (q_load1_rptr rfl rfl (mapAt (by first | assumption | omega)) rfl) ?_
        refine ax_q (q_mov rfl) ?_
        refine ax_q (q_ibin rfl rfl rfl) ?_
        refine ax_nil ?_
        refine cx_keep rfl rfl ?_
        refine cx_cond rfl (fun h3 => ?_) (fun h3 => ?_)
        · have h3 := dT h3
          refine cx_seq ?_
          refine cx_ops ?_
          refine ax_q (q_mov rfl) ?_
          refine ax_nil ?_
          refine cx_keep rfl rfl ?_
          refine cx_ret (ret0 rfl rfl ?_)
          exact ⟨by rw [← hd, show l.Waits.length + 2 - i = (l.Waits.length + 1 - i) + 1 from by omega, roundF_hit h0x (scanW_none (k := k) (by rw [scanW_succ h1x, hs]; exact scan1_hit h2a h3))]; rfl, rfl⟩
        · have h3 := dF h3
          have h3 : ¬ l.Waits[k].For = tx := h3
          have e1 : scan1 tx (tx :: t)[i] (tx :: t') l.Waits[k] = some (tx :: (t' ++ [l.Waits[k].For])) := scan1_new h2a h3 (by rw [tail_any h3]; exact h2b)
          refine cx_skip ?_
          refine cx_keep rfl rfl ?_
          refine cx_drawL 4 48 (Nat.beq 12) (nrA 12) [] ([(12, .rows 1 ((t' ++ [l.Waits[k].For]).map intRow))]) [[7], [11], [45], [46], [44, 47], [8], [11], [50], [51]] [[], [], [], [], [12], [12], [12], [12], [12]] rfl ?_
          first | refine ⟨_, .inr ⟨rfl, _, rfl, .inl rfl, loc_q (q_mov rfl)⟩, ?_⟩
          first | refine ⟨_, .inr ⟨rfl, _, rfl, .inl rfl, loc_q (q_fadr_ptr rfl)⟩, ?_⟩ | refine ⟨_, .inr ⟨rfl, _, rfl, .inl rfl, loc_q (q_fadr_rptr rfl)⟩, ?_⟩ | refine ⟨_, .inr ⟨rfl, _, rfl, .inl rfl, loc_q (q_fadr_ip rfl)⟩, ?_⟩
          first | refine ⟨_, .inr ⟨rfl, _, rfl, .inl rfl, loc_q (q_load1_ptr rfl rfl rfl)⟩, ?_⟩ | refine ⟨_, .inr ⟨rfl, _, rfl, .inl rfl, loc_q (q_load1_ip rfl)⟩, ?_⟩ | refine ⟨_, .inr ⟨rfl, _, rfl, .inl rfl, loc_q (q_load1_rptr rfl rfl rfl rfl)⟩, ?_⟩ | refine ⟨_, .inr ⟨rfl, _, rfl, .inl rfl, loc_q (q_load1_rptr rfl rfl (by assumption) rfl)⟩, ?_⟩ | refine ⟨_, .inr ⟨rfl, _, rfl, .inl rfl, loc_q (q_load1_rptr rfl rfl (mapAt (by first | assumption | omega)) rfl)⟩, ?_⟩
          first | refine ⟨_, .inr ⟨rfl, _, rfl, .inl rfl, loc_bslice rfl⟩, ?_⟩
          refine ⟨⟨48, _, []⟩, .inl ⟨rfl, rfl, rfl, locl_app rfl rfl (by simp) rfl (fun _ _ h => src_osl (h _ _ rfl) (by simp)) (.inl (by decide)) (hbnd (by omega) (by simp) (by decide)) (n' := (t' ++ [l.Waits[k].For]).length) (by simp) (app1 rfl)⟩, ?_⟩
          first | refine ⟨_, .inr ⟨rfl, _, rfl, .inr ⟨rfl, rfl, .inr rfl, rfl, rfl⟩, loc_q (q_mov rfl)⟩, ?_⟩
          first | refine ⟨_, .inr ⟨rfl, _, rfl, .inr ⟨rfl, rfl, .inr rfl, rfl, rfl⟩, loc_q (q_fadr_ptr rfl)⟩, ?_⟩ | refine ⟨_, .inr ⟨rfl, _, rfl, .inr ⟨rfl, rfl, .inr rfl, rfl, rfl⟩, loc_q (q_fadr_rptr rfl)⟩, ?_⟩ | refine ⟨_, .inr ⟨rfl, _, rfl, .inr ⟨rfl, rfl, .inr rfl, rfl, rfl⟩, loc_q (q_fadr_ip rfl)⟩, ?_⟩
          first | refine ⟨_, .inr ⟨rfl, _, rfl, .inr ⟨rfl, rfl, .inr rfl, rfl, rfl⟩, loc_q (q_load1_ptr rfl rfl rfl)⟩, ?_⟩ | refine ⟨_, .inr ⟨rfl, _, rfl, .inr ⟨rfl, rfl, .inr rfl, rfl, rfl⟩, loc_q (q_load1_ip rfl)⟩, ?_⟩ | refine ⟨_, .inr ⟨rfl, _, rfl, .inr ⟨rfl, rfl, .inr rfl, rfl, rfl⟩, loc_q (q_load1_rptr rfl rfl rfl rfl)⟩, ?_⟩ | refine ⟨_, .inr ⟨rfl, _, rfl, .inr ⟨rfl, rfl, .inr rfl, rfl, rfl⟩, loc_q (q_load1_rptr rfl rfl (by assumption) rfl)⟩, ?_⟩ | refine ⟨_, .inr ⟨rfl, _, rfl, .inr ⟨rfl, rfl, .inr rfl, rfl, rfl⟩, loc_q (q_load1_rptr rfl rfl (mapAt (by first | assumption | omega)) rfl)⟩, ?_⟩
          first | refine ⟨_, .inr ⟨rfl, _, rfl, .inr ⟨rfl, rfl, .inr rfl, rfl, rfl⟩, loc_bslice rfl⟩, ?_⟩
          refine ⟨rfl, ?_⟩
          refine ax_app_off (n' := (t' ++ [l.Waits[k].For]).length + 1 - (i + 1)) (more := ((tx :: (t' ++ [l.Waits[k].For])).drop (i + 1)).map intRow) rfl rfl hz rfl (src_osl rfl (by simp)) (.inl (by decide)) (hbnd (by omega) (by simp) (by decide)) (by simp; omega) (by rw [hz2]; exact drop_app (r := tx :: t') (by rw [List.length_cons]; omega)) ?_
          intro s2 rs2 hz3 hz4
          refine ax_q (q_mov rfl) ?_
          refine ax_q (q_mov rfl) ?_
          refine ax_nil ?_
          refine cx_keep rfl rfl ?_
          refine cx_ops ?_
          refine ax_qe (r' := int ((k + 1 : Nat) : Int)) (q_ibin rfl rfl rfl) (by rw [wi (by omega) (by omega)]; rfl) ?_
          refine ax_q (q_mov rfl) ?_
          refine ax_nil ?_
          first | exact ⟨_, (k + 1, t' ++ [l.Waits[k].For], s2, rs2), by simp only; omega, ⟨by simp only; omega, rfl, (hr'.step h1x e1).1, by simp only [List.length_append]; omega, by simp only [scanW_succ h1x, hs]; exact e1, hz3, hz4⟩, by repeat (first | exact trivial | refine ⟨rfl, ?_⟩ | refine ⟨?_, ?_⟩)⟩ | exact ⟨_, (k + 1, t', s', rs'), by simp only; omega, ⟨by simp only; omega, rfl, hr', htl, by simp only [scanW_succ h1x, hs]; exact e1, hz, hz2⟩, by repeat (first | exact trivial | refine ⟨rfl, ?_⟩ | refine ⟨?_, ?_⟩)⟩
    · have h1 := dF h1
      have h1x : k = l.Waits.length := by omega
      subst h1x
      rw [List.take_length] at hs
      refine cx_exit rfl ?_
      have h9 := roundF_step (f := l.Waits.length + 2 - (i + 1)) (r := tx :: t) h0x hs
      rw [show l.Waits.length + 2 - (i + 1) + 1 = l.Waits.length + 2 - i from by omega, hd] at h9
      exact ⟨_, (i + 1, t', s', rs'), by simp only; omega, ⟨rfl, hr', by simp only; omega, h9.symm, hz, hz2⟩, by repeat (first | exact trivial | refine ⟨rfl, ?_⟩ | refine ⟨?_, ?_⟩)⟩
  · have h0 := dF h0
    refine cx_exit rfl ?_
    refine cx_keep rfl rfl ?_
    refine cx_seq ?_
    refine cx_ops ?_
    refine ax_q (q_mov rfl) ?_
    refine ax_nil ?_
    refine cx_keep rfl rfl ?_
    refine cx_ret (ret0 rfl rfl ?_)
    exact ⟨by rw [← hd, roundF_end (by rw [List.length_cons]; omega)]; rfl, rfl⟩


/- (loop.example/g00332/impl.Locks).has$1 -/
def k_c_has1 : XCode :=
  .seq (.ops [.op (some 2) (.box (.t 0)),
     .op (some 3) (.mov (.k (.bool false)))])
  (.keep [1, 2] (.seq (.ops [.op (some 4) (.fadr (.t 2) 0),
     .op (some 5) (.load1 (.t 4)),
     .op (some 6) (.fadr (.t 1) 0),
     .op (some 7) (.load1 (.t 6)),
     .op (some 8) (.bin .eql (.t 5) (.t 7)),
     .op (some 9) (.mov (.t 8)),
     .andor 13 true 5 9 [.op (some 10) (.loadN 4 (.t 2)), .op (some 11) (.loadN 4 (.t 1)), .call (some 12) 84 [.t 10, .t 11]] (.t 12),
     .op (some 14) (.mov (.t 13)),
     .andor 30 true 10 14 [.op (some 15) (.fadr (.t 2) 3), .op (some 16) (.load1 (.t 15)), .op (some 17) (.bin .eql (.t 16) (.k (.int .i64 4))), .op (some 18) (.mov (.t 17)), .andor 22 false 14 18 [.op (some 19) (.fadr (.t 1) 3), .op (some 20) (.load1 (.t 19)), .op (some 21) (.bin .eql (.t 20) (.k (.int .i64 1)))] (.t 21), .op (some 23) (.mov (.t 22)), .andor 29 false 19 23 [.op (some 24) (.fadr (.t 2) 3), .op (some 25) (.load1 (.t 24)), .op (some 26) (.fadr (.t 1) 3), .op (some 27) (.load1 (.t 26)), .op (some 28) (.bin .eql (.t 25) (.t 27))] (.t 28)] (.t 29),
     .op (some 3) (.mov (.t 30))])
  (.keep [3] (.ret))))
theorem k_c_has1_fits : fitsF Try.prog 83 ⟨31, k_c_has1, [.t 3]⟩ = true := by kernel_rfl
theorem c_has1 {a x : GLock} : Con Try.prog noMv 83 [a.av, .d (.ip x.row)] [] (fun r h => r = bool (hasL a x) ∧ h = []) := by
  refine con_of2 k_c_has1_fits rfl fun C hP hmv => ?_
  unfold k_c_has1
  refine cx_seq ?_
  refine cx_ops ?_
  refine ax_e (e_box rfl rfl (by decide) rfl rfl rfl) ?_
  refine ax_q (q_mov rfl) ?_
  refine ax_nil ?_
  refine cx_keep rfl rfl ?_
  refine cx_seq ?_
  refine cx_ops ?_
  first | refine ax_q (q_fadr_ptr rfl) ?_ | refine ax_q (q_fadr_rptr rfl) ?_ | refine ax_q (q_fadr_ip rfl) ?_
  first | refine ax_q (q_load1_ptr rfl rfl rfl) ?_ | refine ax_q (q_load1_ip rfl) ?_ | refine ax_q (q_load1_rptr rfl rfl rfl rfl) ?_ | refine ax_q (q_load1_rptr rfl rfl (by assumption) rfl) ?_ | refine ax_q (q_load1_rptr rfl rfl (mapAt (by first | assumption | omega)) rfl) ?_
  first | refine ax_q (q_fadr_ptr rfl) ?_ | refine ax_q (q_fadr_rptr rfl) ?_ | refine ax_q (q_fadr_ip rfl) ?_
  first | refine ax_q (q_load1_ptr rfl rfl rfl) ?_ | refine ax_q (q_load1_ip rfl) ?_ | refine ax_q (q_load1_rptr rfl rfl rfl rfl) ?_ | refine ax_q (q_load1_rptr rfl rfl (by assumption) rfl) ?_ | refine ax_q (q_load1_rptr rfl rfl (mapAt (by first | assumption | omega)) rfl) ?_
  refine ax_q (q_ibin rfl rfl rfl) ?_
  refine ax_q (q_mov rfl) ?_
  apply ax_and rfl rfl
  · intro g
    have g := dT g
    first | refine ax_q (q_ldN rfl rfl rfl) ?_ | refine ax_q (q_loadN_ip rfl (Nat.le_refl _)) ?_ | refine ax_q (q_loadN_ip rfl (by decide)) ?_ | refine ax_q (q_loadN_rptr rfl rfl (by assumption) (by decide)) ?_ | refine ax_q (q_loadN_rptr rfl rfl (mapAt (by first | assumption | omega)) (by decide)) ?_
    first | refine ax_q (q_ldN rfl rfl rfl) ?_ | refine ax_q (q_loadN_ip rfl (Nat.le_refl _)) ?_ | refine ax_q (q_loadN_ip rfl (by decide)) ?_ | refine ax_q (q_loadN_rptr rfl rfl (by assumption) (by decide)) ?_ | refine ax_q (q_loadN_rptr rfl rfl (mapAt (by first | assumption | omega)) (by decide)) ?_
    first | refine ax_call rfl (vc_pure0 (c_isOne  ) hP rfl rfl ?_) | refine ax_call rfl (vc_lend0 (c_isOne  ) hP (by repeat (first | exact lal_id _ rfl | exact LAL.nil | refine LAL.cons ?_ ?_ | exact la_id _ rfl | exact LA.lend (lend_whole rfl (by first | (simp; done) | (rw [List.length_map]; rfl))) | refine LA.agg ?_ | refine LA.fn ?_ | refine LA.lend ?_ | exact Lend.d _ | exact Lend.zs _ | exact lend_whole rfl (by first | (simp; done) | (rw [List.length_map]; rfl)) | refine Lend.ptr rfl ?_ | refine Lend.fn ?_ | exact LendL.nil | refine LendL.cons ?_ ?_)) rfl rfl ?_)
    exact ax_nil ⟨rfl, by repeat (first | exact trivial | refine ⟨rfl, ?_⟩ | refine ⟨?_, ?_⟩)⟩
  refine ax_q (q_mov rfl) ?_
  apply ax_and rfl rfl
  · intro g
    have g := (fun h => And.intro (dT (and_T h).1) (id (and_T h).2)) g
    first | refine ax_q (q_fadr_ptr rfl) ?_ | refine ax_q (q_fadr_rptr rfl) ?_ | refine ax_q (q_fadr_ip rfl) ?_
    first | refine ax_q (q_load1_ptr rfl rfl rfl) ?_ | refine ax_q (q_load1_ip rfl) ?_ | refine ax_q (q_load1_rptr rfl rfl rfl rfl) ?_ | refine ax_q (q_load1_rptr rfl rfl (by assumption) rfl) ?_ | refine ax_q (q_load1_rptr rfl rfl (mapAt (by first | assumption | omega)) rfl) ?_
    refine ax_q (q_ibin rfl rfl rfl) ?_
    refine ax_q (q_mov rfl) ?_
    apply ax_or rfl rfl
    · intro g
      have g := dF g
      first | refine ax_q (q_fadr_ptr rfl) ?_ | refine ax_q (q_fadr_rptr rfl) ?_ | refine ax_q (q_fadr_ip rfl) ?_
      first | refine ax_q (q_load1_ptr rfl rfl rfl) ?_ | refine ax_q (q_load1_ip rfl) ?_ | refine ax_q (q_load1_rptr rfl rfl rfl rfl) ?_ | refine ax_q (q_load1_rptr rfl rfl (by assumption) rfl) ?_ | refine ax_q (q_load1_rptr rfl rfl (mapAt (by first | assumption | omega)) rfl) ?_
      refine ax_q (q_ibin rfl rfl rfl) ?_
      exact ax_nil ⟨rfl, by repeat (first | exact trivial | refine ⟨rfl, ?_⟩ | refine ⟨?_, ?_⟩)⟩
    refine ax_q (q_mov rfl) ?_
    apply ax_or rfl rfl
    · intro g
      have g := (fun h => And.intro (dF (or_F h).1) (dF (or_F h).2)) g
      first | refine ax_q (q_fadr_ptr rfl) ?_ | refine ax_q (q_fadr_rptr rfl) ?_ | refine ax_q (q_fadr_ip rfl) ?_
      first | refine ax_q (q_load1_ptr rfl rfl rfl) ?_ | refine ax_q (q_load1_ip rfl) ?_ | refine ax_q (q_load1_rptr rfl rfl rfl rfl) ?_ | refine ax_q (q_load1_rptr rfl rfl (by assumption) rfl) ?_ | refine ax_q (q_load1_rptr rfl rfl (mapAt (by first | assumption | omega)) rfl) ?_
      first | refine ax_q (q_fadr_ptr rfl) ?_ | refine ax_q (q_fadr_rptr rfl) ?_ | refine ax_q (q_fadr_ip rfl) ?_
      first | refine ax_q (q_load1_ptr rfl rfl rfl) ?_ | refine ax_q (q_load1_ip rfl) ?_ | refine ax_q (q_load1_rptr rfl rfl rfl rfl) ?_ | refine ax_q (q_load1_rptr rfl rfl (by assumption) rfl) ?_ | refine ax_q (q_load1_rptr rfl rfl (mapAt (by first | assumption | omega)) rfl) ?_
      refine ax_q (q_ibin rfl rfl rfl) ?_
      exact ax_nil ⟨rfl, by repeat (first | exact trivial | refine ⟨rfl, ?_⟩ | refine ⟨?_, ?_⟩)⟩
    exact ax_nil ⟨rfl, by repeat (first | exact trivial | refine ⟨rfl, ?_⟩ | refine ⟨?_, ?_⟩)⟩
  refine ax_q (q_mov rfl) ?_
  refine ax_nil ?_
  refine cx_keep rfl rfl ?_
  refine cx_ret (ret0 rfl rfl ?_)
  exact ⟨rfl, rfl⟩


/- (loop.example/g00332/impl.Locks).has -/
def k_c_has : XCode :=
  .seq (.ops [.op (some 2) (.box (.t 0)),
     .op (some 3) (.box (.t 1)),
     .op (some 4) (.mov (.k (.bool false)))])
  (.keep [2, 3] (.seq (.ops [.op (some 5) (.fadr (.t 2) 0),
     .op (some 6) (.load1 (.t 5)),
     .op (some 7) (.mkfn 83 [.t 3]),
     .call (some 8) 55 [.t 6, .t 7],
     .op (some 4) (.mov (.t 8))])
  (.keep [4] (.ret))))
theorem k_c_has_fits : fitsF Try.prog 53 ⟨9, k_c_has, [.t 4]⟩ = true := by kernel_rfl
theorem c_has {l : GLocks} {x : GLock} (hw0 : l.Held.length ≤ 1048576) (hw1 : l.Waits.length ≤ 1048576) : Con Try.prog noMv 53 [l.av, x.av] [] (fun r h => r = bool (holdsL l x) ∧ h = []) := by
  refine con_of2 k_c_has_fits rfl fun C hP hmv => ?_
  unfold k_c_has
  refine cx_seq ?_
  refine cx_ops ?_
  refine ax_e (e_box rfl rfl (by decide) rfl rfl rfl) ?_
  refine ax_e (e_box rfl rfl (by decide) rfl rfl rfl) ?_
  refine ax_q (q_mov rfl) ?_
  refine ax_nil ?_
  refine cx_keep rfl rfl ?_
  refine cx_seq ?_
  refine cx_ops ?_
  first | refine ax_q (q_fadr_ptr rfl) ?_ | refine ax_q (q_fadr_rptr rfl) ?_ | refine ax_q (q_fadr_ip rfl) ?_
  first | refine ax_q (q_load1_ptr rfl rfl rfl) ?_ | refine ax_q (q_load1_ip rfl) ?_ | refine ax_q (q_load1_rptr rfl rfl rfl rfl) ?_ | refine ax_q (q_load1_rptr rfl rfl (by assumption) rfl) ?_ | refine ax_q (q_load1_rptr rfl rfl (mapAt (by first | assumption | omega)) rfl) ?_
  refine ax_q (q_mkfn rfl) ?_
  refine ax_call rfl (vc_lend0 (c_ContainsFunc_Lock (xs := l.Held) (ds := [.ip x.row]) (fun h => hasL h x) (by omega) (by kernel_rfl) (fun s _ => c_has1)) hP (by repeat (first | exact lal_id _ rfl | exact LAL.nil | refine LAL.cons ?_ ?_ | exact la_id _ rfl | exact LA.lend (lend_whole rfl (by first | (simp; done) | (rw [List.length_map]; rfl))) | refine LA.agg ?_ | refine LA.fn ?_ | refine LA.lend ?_ | exact Lend.d _ | exact Lend.zs _ | exact lend_whole rfl (by first | (simp; done) | (rw [List.length_map]; rfl)) | refine Lend.ptr rfl ?_ | refine Lend.fn ?_ | exact LendL.nil | refine LendL.cons ?_ ?_)) rfl rfl ?_)
  refine ax_q (q_mov rfl) ?_
  refine ax_nil ?_
  refine cx_keep rfl rfl ?_
  refine cx_ret (ret0 rfl rfl ?_)
  exact ⟨rfl, rfl⟩


/- slices.DeleteFunc[[]loop.example/g00332/impl.Wait,loop.example/g00332/impl.Wait] -/
def k_c_DeleteFunc_Wait : XCode :=
  .seq (.ops [.op (some 4) (.mov (.k (.nils 2)))])
  (.keep [0, 1] (.seq (.ops [.op (some 8) (.mov (.t 0)),
     .op (some 9) (.mov (.t 1)),
     .call (some 10) 85 [.t 8, .t 9],
     .op (some 5) (.mov (.t 10))])
  (.keep [0, 1, 5] (.seq (.seq (.ops [.op (some 11) (.mov (.t 5)),
      .op (some 12) (.bin .eql (.t 11) (.k (.int .i64 (-1))))])
   (.keep [0, 1, 5, 12] (.cond (.t 12)
    (.seq (.ops [.op (some 13) (.mov (.t 0)),
        .op (some 4) (.mov (.t 13))])
     (.keep [4] (.ret)))
    (.skip))))
  (.keep [0, 1, 5] (.seq (.seq (.ops [.op (some 14) (.mov (.t 5)),
      .op (some 15) (.bin .add (.t 14) (.k (.int .i64 1))),
      .op (some 6) (.mov (.t 15))])
   (.keep [0, 1, 5, 6] (.block 0 (.loop (.seq (.seq (.ops [.op (some 16) (.mov (.t 6)),
         .op (some 17) (.mov (.t 0)),
         .op (some 18) (.lenS (.t 17)),
         .op (some 19) (.bin .lss (.t 16) (.t 18))])
      (.keep [0, 1, 5, 6, 19] (.cond (.t 19)
       (.skip)
       (.exit 0))))
     (.keep [0, 1, 5, 6] (.seq (.block 1 (.seq (.ops [.op (some 22) (.mov (.t 0)),
          .op (some 23) (.mov (.t 6)),
          .op (some 24) (.iadr 2 (.t 22) (.t 23)),
          .op (some 25) (.loadN 2 (.t 24)),
          .op (some 7) (.alloc [.int .i64 0, .int .i64 0]),
          .op none (.store 2 (.t 7) (.t 25))])
       (.keep [0, 1, 5, 6, 7] (.seq (.ops [.op (some 26) (.mov (.t 1)),
          .op (some 27) (.loadN 2 (.t 7)),
          .callv (some 28) (.t 26) [.t 27],
          .op (some 29) (.not (.t 28))])
       (.keep [0, 1, 5, 6, 7, 29] (.cond (.t 29)
        (.seq (.ops [.op (some 30) (.mov (.t 0)),
            .op (some 31) (.mov (.t 5)),
            .op (some 32) (.loadN 2 (.t 7)),
            .op (some 33) (.iadr 2 (.t 30) (.t 31)),
            .op none (.store 2 (.t 33) (.t 32))])
         (.keep [0, 1, 5, 6] (.ops [.op (some 34) (.mov (.t 5)),
           .op (some 35) (.bin .add (.t 34) (.k (.int .i64 1))),
           .op (some 5) (.mov (.t 35))])))
        (.skip)))))))
     (.keep [0, 1, 5, 6] (.ops [.op (some 20) (.mov (.t 6)),
       .op (some 21) (.bin .add (.t 20) (.k (.int .i64 1))),
       .op (some 6) (.mov (.t 21))])))))))))
  (.keep [0, 5] (.seq (.ops [.op (some 36) (.mov (.t 0)),
     .op (some 37) (.mov (.t 5)),
     .op (some 38) (.slc 2 (.t 36) (some (.t 37)) none none),
     .op none (.clr 2 [.int .i64 0, .int .i64 0] (.t 38))])
  (.keep [0, 5] (.seq (.ops [.op (some 39) (.mov (.t 0)),
     .op (some 40) (.mov (.t 5)),
     .op (some 41) (.slc 2 (.t 39) none (some (.t 40)) none),
     .op (some 4) (.mov (.t 41))])
  (.keep [4] (.ret))))))))))))
theorem k_c_DeleteFunc_Wait_fits : fitsF Try.prog 68 ⟨42, k_c_DeleteFunc_Wait, [.t 4]⟩ = true := by kernel_rfl
theorem c_DeleteFunc_Wait {xs : List GWait} {f : Nat} {ds : List D} (p : GWait → Bool) (hw : xs.length ≤ 1048576) (hb : hasBody Try.prog f = true) (hf : ∀ s ∈ xs, Con Try.prog noMv f (s.av :: ds.map AV.d) [] (fun r h => r = bool (p s) ∧ h = [])) : Con Try.prog noMv 68 [.osl 1000 2 0 xs.length, .d (.fn (.func f) ds)] [(1000, .rows 2 (xs.map GWait.row))] (fun r h => r = .osl 1000 2 0 (xs.filter (fun x => !p x)).length ∧ h = [(1000, .rows 2 ((xs.filter (fun x => !p x)).map GWait.row))]) := by
  refine con_of2 k_c_DeleteFunc_Wait_fits rfl fun C hP hmv => ?_
  unfold k_c_DeleteFunc_Wait
  refine cx_seq ?_
  refine cx_ops ?_
  refine ax_q (q_mov rfl) ?_
  refine ax_nil ?_
  refine cx_keep rfl rfl ?_
  refine cx_seq ?_
  refine cx_ops ?_
  refine ax_q (q_mov rfl) ?_
  refine ax_q (q_mov rfl) ?_
  refine ax_call rfl (vc_lend0 (c_IndexFunc_Wait (xs := xs) p (by omega) hb hf) hP (.cons (.lend (lend_whole rfl (by simp))) (.cons (.d _) .nil)) rfl rfl ?_)
  refine ax_q (q_mov rfl) ?_
  refine ax_nil ?_
  refine cx_keep rfl rfl ?_
  refine cx_seq ?_
  refine cx_seq ?_
  refine cx_ops ?_
  refine ax_q (q_mov rfl) ?_
  refine ax_q (q_ibin rfl rfl rfl) ?_
  refine ax_nil ?_
  refine cx_keep rfl rfl ?_
  refine cx_cond rfl (fun h0 => ?_) (fun h0 => ?_)
  · have h0 := dT h0
    refine cx_seq ?_
    refine cx_ops ?_
    refine ax_q (q_mov rfl) ?_
    refine ax_q (q_mov rfl) ?_
    refine ax_nil ?_
    refine cx_keep rfl rfl ?_
    have e := filter_all (idxOf_neg h0)
    refine cx_ret (retN id [1000] rfl rfl rfl rfl rfl ?_)
    rw [e]
    exact ⟨rfl, rfl⟩
  · have h0 := dF h0
    obtain ⟨i, hi0, hi, hpi, hbi⟩ := idxOf_some h0
    obtain ⟨e1, e2⟩ := strk_first hi hpi hbi
    have e3 : ((xs.take (i + 1)).filter (fun x => !p x)).length = i := by rw [e2, List.length_take]; omega
    rw [hi0]
    refine cx_skip ?_
    refine cx_keep rfl rfl ?_
    refine cx_seq ?_
    refine cx_seq ?_
    refine cx_ops ?_
    refine ax_q (q_mov rfl) ?_
    refine ax_qe (r' := int ((i + 1 : Nat) : Int)) (q_ibin rfl rfl rfl) (by rw [wi (by omega) (by omega)]; rfl) ?_
    refine ax_q (q_mov rfl) ?_
    refine ax_nil ?_
    refine cx_keep rfl rfl ?_
    refine cx_block ?_
    refine cx_loopU (fun n (s : Nat × List GWait) => s.1 ≤ xs.length ∧ n = xs.length - s.1 ∧ ((xs.take s.1).filter (fun x => !p x)).length + s.2.length = s.1 ∧ 0 < s.2.length) (fun s => [(5, int ((xs.take s.1).filter (fun x => !p x)).length), (6, int s.1)]) (fun s => [(1000, .rows 2 ((strk p xs s.1 s.2).map GWait.row))])
      ⟨_, (i + 1, [xs[i]]), ⟨by simp only; omega, rfl, by simp only [e3, List.length_singleton], by simp⟩, by rw [e3, e1]; exact by repeat (first | exact trivial | refine ⟨rfl, ?_⟩ | refine ⟨?_, ?_⟩)⟩ ?_
    rintro n ⟨j, mid⟩ ⟨hj, rfl, hm, hm0⟩
    simp only at hj hm hm0 ⊢
    have hsl := strk_len hm hj
    refine cx_seq ?_
    refine cx_seq ?_
    refine cx_ops ?_
    refine ax_q (q_mov rfl) ?_
    refine ax_q (q_mov rfl) ?_
    first | refine ax_q (q_lenS_map rfl) ?_ | refine ax_q (q_lenS_osl rfl) ?_ | refine ax_q (q_lenS_zs rfl) ?_ | refine ax_q (q_lenS rfl) ?_
    refine ax_q (q_ibin rfl rfl rfl) ?_
    refine ax_nil ?_
    refine cx_keep rfl rfl ?_
    refine cx_cond rfl (fun h1 => ?_) (fun h1 => ?_)
    · have h1 := dT h1
      have h1x : j < xs.length := by omega
      refine cx_skip ?_
      refine cx_keep rfl rfl ?_
      refine cx_seq ?_
      refine cx_block ?_
      refine cx_seq ?_
      refine cx_ops ?_
      refine ax_q (q_mov rfl) ?_
      refine ax_q (q_mov rfl) ?_
      refine ax_q (q_ixo rfl rfl (by omega)) ?_
      refine ax_q (q_loadN_rptr rfl rfl (show ((strk p xs j mid).map GWait.row)[j]? = some (GWait.row xs[j]) from by rw [List.getElem?_map, strk_at hm h1x]; rfl) (by decide)) ?_
      refine ax_e (e_alloc (by decide) rfl rfl) ?_
      refine ax_e (e_st rfl rfl rfl rfl rfl rfl rfl) ?_
      refine ax_nil ?_
      refine cx_keep rfl rfl ?_
      refine cx_seq ?_
      refine cx_ops ?_
      refine ax_q (q_mov rfl) ?_
      first | refine ax_q (q_ldN rfl rfl rfl) ?_ | refine ax_q (q_loadN_ip rfl (Nat.le_refl _)) ?_ | refine ax_q (q_loadN_ip rfl (by decide)) ?_ | refine ax_q (q_loadN_rptr rfl rfl (by assumption) (by decide)) ?_ | refine ax_q (q_loadN_rptr rfl rfl (mapAt (by first | assumption | omega)) (by decide)) ?_
      refine ax_callvD rfl (by rw [hP]; exact hb) rfl (vc_pure0 (hf _ (List.getElem_mem h1x)) hP (refs_cons rfl ds) rfl ?_)
      refine ax_q (q_not rfl) ?_
      refine ax_nil ?_
      refine cx_keep rfl rfl ?_
      refine cx_cond rfl (fun h2 => ?_) (fun h2 => ?_)
      · have h2 := bT h2
        obtain ⟨m, mid, rfl⟩ : ∃ m r, mid = m :: r := ⟨mid.head (by intro h; rw [h] at hm0; simp at hm0), mid.tail, by simp⟩
        have e6 : ((xs.take (j + 1)).filter (fun x => !p x)).length = ((xs.take j).filter (fun x => !p x)).length + 1 := by rw [take_filter_keep h1x h2, List.length_append]; rfl
        have hml : (m :: mid).length = mid.length + 1 := rfl
        have hq : ((xs.take j).filter (fun x => !p x)).length < xs.length := by omega
        have e5 := strk_set (row := GWait.row) (m := m) (mid := mid) h1x h2 rfl
        refine cx_seq ?_
        refine cx_ops ?_
        refine ax_q (q_mov rfl) ?_
        refine ax_q (q_mov rfl) ?_
        first | refine ax_q (q_ldN rfl rfl rfl) ?_ | refine ax_q (q_loadN_ip rfl (Nat.le_refl _)) ?_ | refine ax_q (q_loadN_ip rfl (by decide)) ?_ | refine ax_q (q_loadN_rptr rfl rfl (by assumption) (by decide)) ?_ | refine ax_q (q_loadN_rptr rfl rfl (mapAt (by first | assumption | omega)) (by decide)) ?_
        refine ax_q (q_ixo rfl rfl hq) ?_
        refine ax_e (e_str (q := GWait.row xs[j]) (row := GWait.row (strk p xs j (m :: mid))[((xs.take j).filter (fun x => !p x)).length]) rfl rfl rfl rfl rfl rfl (mapAt (by rw [hsl]; exact hq)) rfl rfl e5) ?_
        refine ax_nil ?_
        refine cx_keep rfl rfl ?_
        refine cx_ops ?_
        refine ax_q (q_mov rfl) ?_
        refine ax_qe (r' := int ((((xs.take j).filter (fun x => !p x)).length + 1 : Nat) : Int)) (q_ibin rfl rfl rfl) (by rw [wi (by omega) (by omega)]; rfl) ?_
        refine ax_q (q_mov rfl) ?_
        refine ax_nil ?_
        refine cx_keep rfl rfl ?_
        refine cx_ops ?_
        refine ax_q (q_mov rfl) ?_
        refine ax_qe (r' := int ((j + 1 : Nat) : Int)) (q_ibin rfl rfl rfl) (by rw [wi (by omega) (by omega)]; rfl) ?_
        refine ax_q (q_mov rfl) ?_
        refine ax_nil ?_
        exact ⟨_, (j + 1, mid ++ [xs[j]]), by simp only; omega, ⟨by simp only; omega, rfl, by simp only [e6, List.length_append, List.length_singleton]; omega, by simp⟩, by simp only [e6]; exact by repeat (first | exact trivial | refine ⟨rfl, ?_⟩ | refine ⟨?_, ?_⟩)⟩
      · have h2 := bF h2
        have e6 : ((xs.take (j + 1)).filter (fun x => !p x)).length = ((xs.take j).filter (fun x => !p x)).length := by rw [take_filter_drop h1x h2]
        have e5 := strk_drop (mid := mid) h1x h2
        rw [e5]
        refine cx_skip ?_
        refine cx_keep rfl rfl ?_
        refine cx_ops ?_
        refine ax_q (q_mov rfl) ?_
        refine ax_qe (r' := int ((j + 1 : Nat) : Int)) (q_ibin rfl rfl rfl) (by rw [wi (by omega) (by omega)]; rfl) ?_
        refine ax_q (q_mov rfl) ?_
        refine ax_nil ?_
        exact ⟨_, (j + 1, mid ++ [xs[j]]), by simp only; omega, ⟨by simp only; omega, rfl, by simp only [e6, List.length_append, List.length_singleton]; omega, by simp⟩, by simp only [e6]; exact by repeat (first | exact trivial | refine ⟨rfl, ?_⟩ | refine ⟨?_, ?_⟩)⟩
    · have h1 := dF h1
      have h1x : j = xs.length := by omega
      subst h1x
      rw [List.take_length] at hm ⊢
      refine cx_exit rfl ?_
      refine cx_keep rfl rfl ?_
      refine cx_seq ?_
      refine cx_ops ?_
      refine ax_q (q_mov rfl) ?_
      refine ax_q (q_mov rfl) ?_
      refine ax_qe (r' := .osl 1000 2 (xs.filter (fun x => !p x)).length (xs.length - (xs.filter (fun x => !p x)).length)) (q_slc_osl rfl rfl rfl (by omega) (by omega) (by omega)) (oslE (by omega) (by omega)) ?_
      refine ax_ee (e_clr (row := [.int .i64 0, .int .i64 0]) rfl rfl (by rw [List.length_map, hsl]; omega) rfl) rfl ?_
      refine ax_nil ?_
      refine cx_keep rfl rfl ?_
      refine cx_seq ?_
      refine cx_ops ?_
      refine ax_q (q_mov rfl) ?_
      refine ax_q (q_mov rfl) ?_
      refine ax_qe (r' := .osl 1000 2 0 (xs.filter (fun x => !p x)).length) (q_slc_osl rfl rfl rfl (by omega) (by omega) (by omega)) (oslE (by omega) (by omega)) ?_
      refine ax_q (q_mov rfl) ?_
      refine ax_nil ?_
      refine cx_keep rfl rfl ?_
      refine cx_wk (wk_rows 1000 (rs' := (xs.filter (fun x => !p x)).map GWait.row) rfl strk_end) ?_
      refine cx_ret (retN id [1000] rfl rfl rfl rfl rfl ?_)
      exact ⟨rfl, rfl⟩


/- (ptr loop.example/g00332/impl.Locks).take$1 -/
def k_c_take1 : XCode :=
  .seq (.ops [.op (some 2) (.box (.t 0)),
     .op (some 3) (.mov (.k (.bool false)))])
  (.keep [1, 2] (.seq (.ops [.op (some 4) (.fadr (.t 2) 0),
     .op (some 5) (.load1 (.t 4)),
     .op (some 6) (.fadr (.t 1) 0),
     .op (some 7) (.load1 (.t 6)),
     .op (some 8) (.bin .eql (.t 5) (.t 7)),
     .op (some 3) (.mov (.t 8))])
  (.keep [3] (.ret))))
theorem k_c_take1_fits : fitsF Try.prog 76 ⟨9, k_c_take1, [.t 3]⟩ = true := by kernel_rfl
theorem c_take1 {a : GWait} {x : GLock} : Con Try.prog noMv 76 [a.av, .d (.ip x.row)] [] (fun r h => r = bool (decide (a.Tx = x.Tx)) ∧ h = []) := by
  refine con_of2 k_c_take1_fits rfl fun C hP hmv => ?_
  unfold k_c_take1
  refine cx_seq ?_
  refine cx_ops ?_
  refine ax_e (e_box rfl rfl (by decide) rfl rfl rfl) ?_
  refine ax_q (q_mov rfl) ?_
  refine ax_nil ?_
  refine cx_keep rfl rfl ?_
  refine cx_seq ?_
  refine cx_ops ?_
  first | refine ax_q (q_fadr_ptr rfl) ?_ | refine ax_q (q_fadr_rptr rfl) ?_ | refine ax_q (q_fadr_ip rfl) ?_
  first | refine ax_q (q_load1_ptr rfl rfl rfl) ?_ | refine ax_q (q_load1_ip rfl) ?_ | refine ax_q (q_load1_rptr rfl rfl rfl rfl) ?_ | refine ax_q (q_load1_rptr rfl rfl (by assumption) rfl) ?_ | refine ax_q (q_load1_rptr rfl rfl (mapAt (by first | assumption | omega)) rfl) ?_
  first | refine ax_q (q_fadr_ptr rfl) ?_ | refine ax_q (q_fadr_rptr rfl) ?_ | refine ax_q (q_fadr_ip rfl) ?_
  first | refine ax_q (q_load1_ptr rfl rfl rfl) ?_ | refine ax_q (q_load1_ip rfl) ?_ | refine ax_q (q_load1_rptr rfl rfl rfl rfl) ?_ | refine ax_q (q_load1_rptr rfl rfl (by assumption) rfl) ?_ | refine ax_q (q_load1_rptr rfl rfl (mapAt (by first | assumption | omega)) rfl) ?_
  refine ax_q (q_ibin rfl rfl rfl) ?_
  refine ax_q (q_mov rfl) ?_
  refine ax_nil ?_
  refine cx_keep rfl rfl ?_
  refine cx_ret (ret0 rfl rfl ?_)
  exact ⟨rfl, rfl⟩


/- slices.Index[[]loop.example/g00332/impl.Wait,loop.example/g00332/impl.Wait] -/
def k_c_Index_Wait : XCode :=
  .seq (.ops [.op (some 3) (.box (.t 1)),
     .op (some 4) (.mov (.k (.int .i64 0)))])
  (.keep [0, 3] (.seq (.seq (.ops [.op (some 6) (.mov (.t 0)),
      .op (some 7) (.lenS (.t 6)),
      .op (some 8) (.mov (.k (.int .i64 0)))])
   (.keep [0, 3, 7, 8] (.block 0 (.loop (.seq (.ops [.op (some 9) (.bin .lss (.t 8) (.t 7))])
     (.keep [0, 3, 7, 8, 9] (.seq (.cond (.t 9)
       (.skip)
       (.exit 0))
     (.keep [0, 3, 7, 8] (.seq (.block 1 (.seq (.ops [.op (some 10) (.mov (.t 8)),
          .op (some 5) (.mov (.t 10))])
       (.keep [0, 3, 5, 7, 8] (.seq (.draw [.op (some 11) (.loadN 2 (.t 3)),
          .op (some 12) (.mov (.t 0)),
          .op (some 13) (.mov (.t 5)),
          .op (some 14) (.iadr 2 (.t 12) (.t 13)),
          .op (some 15) (.loadN 2 (.t 14)),
          .op (some 16) (.eqs false [0, 0] (.t 11) (.t 15))])
       (.keep [0, 3, 5, 7, 8, 16] (.cond (.t 16)
        (.seq (.ops [.op (some 17) (.mov (.t 5)),
            .op (some 4) (.mov (.t 17))])
         (.keep [4] (.ret)))
        (.skip)))))))
     (.keep [0, 3, 7, 8] (.ops [.op (some 18) (.bin .add (.t 8) (.k (.int .i64 1))),
       .op (some 8) (.mov (.t 18))])))))))))))
  (.keep [] (.seq (.ops [.op (some 4) (.mov (.k (.int .i64 (-1))))])
  (.keep [4] (.ret))))))
theorem k_c_Index_Wait_fits : fitsF Try.prog 87 ⟨19, k_c_Index_Wait, [.t 4]⟩ = true := by kernel_rfl
theorem c_Index_Wait {xs : List GWait} {v : GWait} (hw : xs.length ≤ 9223372036854775807) : Con Try.prog noMv 87 [.d (.sl 2 (xs.map GWait.row)), v.av] [] (fun r h => r = int (idxOf (fun s => eqb v s) xs 0) ∧ h = []) := by
  refine con_of2 k_c_Index_Wait_fits rfl fun C hP hmv => ?_
  unfold k_c_Index_Wait
  refine cx_seq ?_
  refine cx_ops ?_
  refine ax_e (e_box rfl rfl (by decide) rfl rfl rfl) ?_
  refine ax_q (q_mov rfl) ?_
  refine ax_nil ?_
  refine cx_keep rfl rfl ?_
  refine cx_seq ?_
  refine cx_seq ?_
  refine cx_ops ?_
  refine ax_q (q_mov rfl) ?_
  first | refine ax_q (q_lenS_map rfl) ?_ | refine ax_q (q_lenS_osl rfl) ?_ | refine ax_q (q_lenS_zs rfl) ?_ | refine ax_q (q_lenS rfl) ?_
  refine ax_q (q_mov rfl) ?_
  refine ax_nil ?_
  refine cx_keep rfl rfl ?_
  refine cx_block ?_
  refine cx_loopU (fun n k => k ≤ xs.length ∧ n = xs.length - k ∧ ∀ i, i < k → ∀ x, xs[i]? = some x → (fun s => eqb v s) x = false) (fun k : Nat => [(8, int k)]) (fun _ => [(3, .box [.d (.int .i64 v.Tx), .d (.int .i64 v.For)])]) ⟨_, 0, ⟨by omega, rfl, fun i hi => by omega⟩, by repeat (first | exact trivial | refine ⟨rfl, ?_⟩ | refine ⟨?_, ?_⟩)⟩ ?_
  rintro n k ⟨hk, rfl, ht⟩
  refine cx_seq ?_
  refine cx_ops ?_
  refine ax_q (q_ibin rfl rfl rfl) ?_
  refine ax_nil ?_
  refine cx_keep rfl rfl ?_
  refine cx_seq ?_
  refine cx_cond rfl (fun h0 => ?_) (fun h0 => ?_)
  · have h0 := dT h0
    have h0x : k < xs.length := by omega
    refine cx_skip ?_
    refine cx_keep rfl rfl ?_
    refine cx_seq ?_
    refine cx_block ?_
    refine cx_seq ?_
    refine cx_ops ?_
    refine ax_q (q_mov rfl) ?_
    refine ax_q (q_mov rfl) ?_
    refine ax_nil ?_
    refine cx_keep rfl rfl ?_
    refine cx_seq ?_
    refine cx_draw ?_
    first | refine ax_q (q_ldN rfl rfl rfl) ?_ | refine ax_q (q_loadN_ip rfl (Nat.le_refl _)) ?_ | refine ax_q (q_loadN_ip rfl (by decide)) ?_ | refine ax_q (q_loadN_rptr rfl rfl (by assumption) (by decide)) ?_ | refine ax_q (q_loadN_rptr rfl rfl (mapAt (by first | assumption | omega)) (by decide)) ?_
    refine ax_q (q_mov rfl) ?_
    refine ax_q (q_mov rfl) ?_
    refine ax_q (q_ix rfl rfl (mapAt h0x)) ?_
    first | refine ax_q (q_ldN rfl rfl rfl) ?_ | refine ax_q (q_loadN_ip rfl (Nat.le_refl _)) ?_ | refine ax_q (q_loadN_ip rfl (by decide)) ?_ | refine ax_q (q_loadN_rptr rfl rfl (by assumption) (by decide)) ?_ | refine ax_q (q_loadN_rptr rfl rfl (mapAt (by first | assumption | omega)) (by decide)) ?_
    first | refine ax_q (GWait.q_eqs rfl rfl) ?_ | refine ax_q (q_eqs rfl rfl rfl) ?_
    refine ax_nil ?_
    refine cx_keep rfl rfl ?_
    refine cx_cond rfl (fun h1 => ?_) (fun h1 => ?_)
    · skip
      refine cx_seq ?_
      refine cx_ops ?_
      refine ax_q (q_mov rfl) ?_
      refine ax_q (q_mov rfl) ?_
      refine ax_nil ?_
      refine cx_keep rfl rfl ?_
      refine cx_ret (ret0 rfl rfl ?_)
      exact ⟨by rw [idxOf_hit h0x ht h1]; rfl, rfl⟩
    · skip
      refine cx_skip ?_
      refine cx_keep rfl rfl ?_
      refine cx_ops ?_
      refine ax_qe (r' := int ((k + 1 : Nat) : Int)) (q_ibin rfl rfl rfl) (by rw [wi (by omega) (by omega)]; rfl) ?_
      refine ax_q (q_mov rfl) ?_
      refine ax_nil ?_
      exact ⟨_, k + 1, by omega, ⟨by omega, rfl, before_step h0x ht h1⟩, by repeat (first | exact trivial | refine ⟨rfl, ?_⟩ | refine ⟨?_, ?_⟩)⟩
  · have h0 := dF h0
    have h0x : k = xs.length := by omega
    refine cx_exit rfl ?_
    refine cx_keep rfl rfl ?_
    refine cx_seq ?_
    refine cx_ops ?_
    refine ax_q (q_mov rfl) ?_
    refine ax_nil ?_
    refine cx_keep rfl rfl ?_
    refine cx_ret (ret0 rfl rfl ?_)
    exact ⟨by rw [idxOf_none (fun i hi => ht i (by omega))]; rfl, rfl⟩


/- slices.Contains[[]loop.example/g00332/impl.Wait,loop.example/g00332/impl.Wait] -/
def k_c_Contains_Wait : XCode :=
  .seq (.ops [.op (some 3) (.box (.t 1)),
     .op (some 4) (.mov (.k (.bool false)))])
  (.keep [0, 3] (.seq (.ops [.op (some 5) (.mov (.t 0)),
     .op (some 6) (.loadN 2 (.t 3)),
     .call (some 7) 87 [.t 5, .t 6],
     .op (some 8) (.bin .geq (.t 7) (.k (.int .i64 0))),
     .op (some 4) (.mov (.t 8))])
  (.keep [4] (.ret))))
theorem k_c_Contains_Wait_fits : fitsF Try.prog 77 ⟨9, k_c_Contains_Wait, [.t 4]⟩ = true := by kernel_rfl
theorem c_Contains_Wait {xs : List GWait} {v : GWait} (hw : xs.length ≤ 9223372036854775807) : Con Try.prog noMv 77 [.d (.sl 2 (xs.map GWait.row)), v.av] [] (fun r h => r = bool (xs.any (fun s => eqb v s)) ∧ h = []) := by
  refine con_of2 k_c_Contains_Wait_fits rfl fun C hP hmv => ?_
  unfold k_c_Contains_Wait
  refine cx_seq ?_
  refine cx_ops ?_
  refine ax_e (e_box rfl rfl (by decide) rfl rfl rfl) ?_
  refine ax_q (q_mov rfl) ?_
  refine ax_nil ?_
  refine cx_keep rfl rfl ?_
  refine cx_seq ?_
  refine cx_ops ?_
  refine ax_q (q_mov rfl) ?_
  first | refine ax_q (q_ldN rfl rfl rfl) ?_ | refine ax_q (q_loadN_ip rfl (Nat.le_refl _)) ?_ | refine ax_q (q_loadN_ip rfl (by decide)) ?_ | refine ax_q (q_loadN_rptr rfl rfl (by assumption) (by decide)) ?_ | refine ax_q (q_loadN_rptr rfl rfl (mapAt (by first | assumption | omega)) (by decide)) ?_
  first | refine ax_call rfl (vc_pure0 (c_Index_Wait (v := v) ?_) hP rfl rfl ?_) | refine ax_call rfl (vc_lend0 (c_Index_Wait (v := v) ?_) hP (by repeat (first | exact lal_id _ rfl | exact LAL.nil | refine LAL.cons ?_ ?_ | exact la_id _ rfl | exact LA.lend (lend_whole rfl (by first | (simp; done) | (rw [List.length_map]; rfl))) | refine LA.agg ?_ | refine LA.fn ?_ | refine LA.lend ?_ | exact Lend.d _ | exact Lend.zs _ | exact lend_whole rfl (by first | (simp; done) | (rw [List.length_map]; rfl)) | refine Lend.ptr rfl ?_ | refine Lend.fn ?_ | exact LendL.nil | refine LendL.cons ?_ ?_)) rfl rfl ?_)
  · first | assumption | omega | (simp; done) | (simp; omega)
  refine ax_qe (r' := bool (xs.any (fun s => eqb v s))) (q_ibin rfl rfl rfl) (congrArg AM.bool any_idxOf) ?_
  refine ax_q (q_mov rfl) ?_
  refine ax_nil ?_
  refine cx_keep rfl rfl ?_
  refine cx_ret (ret0 rfl rfl ?_)
  exact ⟨rfl, rfl⟩


/- slices.Grow[[]loop.example/g00332/impl.Wait,loop.example/g00332/impl.Wait] -/
def k_c_Grow_Wait : XCode :=
  .seq (.ops [.op (some 4) (.mov (.k (.nils 2)))])
  (.keep [0, 1] (.seq (.seq (.ops [.op (some 5) (.mov (.t 1)),
      .op (some 6) (.bin .lss (.t 5) (.k (.int .i64 0)))])
   (.keep [0, 1, 6] (.cond (.t 6)
    (.ops [.op (some 7) (.bad),
       .op none (.bad)])
    (.skip))))
  (.keep [0, 1] (.seq (.seq (.ops [.op (some 8) (.mov (.t 1)),
      .op (some 9) (.mov (.t 0)),
      .op (some 10) (.capS (.t 9)),
      .op (some 11) (.mov (.t 0)),
      .op (some 12) (.lenS (.t 11)),
      .op (some 13) (.bin .sub (.t 10) (.t 12)),
      .op (some 14) (.bin .sub (.t 8) (.t 13)),
      .op (some 1) (.mov (.t 14))])
   (.keep [0, 1] (.seq (.ops [.op (some 15) (.mov (.t 1)),
      .op (some 16) (.bin .gtr (.t 15) (.k (.int .i64 0)))])
   (.keep [0, 1, 16] (.cond (.t 16)
    (.ops [.op (some 17) (.mov (.t 0)),
       .op (some 18) (.mov (.t 0)),
       .op (some 19) (.capS (.t 18)),
       .op (some 20) (.slc 2 (.t 17) none (some (.t 19)) none),
       .op (some 21) (.mov (.t 1)),
       .op (some 22) (.appz 2 16 [.int .i64 0, .int .i64 0] (.t 20) (.t 21)),
       .op (some 23) (.mov (.t 0)),
       .op (some 24) (.lenS (.t 23)),
       .op (some 25) (.slc 2 (.t 22) none (some (.t 24)) none),
       .op (some 0) (.mov (.t 25))])
    (.skip))))))
  (.keep [0] (.seq (.ops [.op (some 26) (.mov (.t 0)),
     .op (some 4) (.mov (.t 26))])
  (.keep [4] (.ret))))))))
theorem k_c_Grow_Wait_fits : fitsF Try.prog 88 ⟨27, k_c_Grow_Wait, [.t 4]⟩ = true := by kernel_rfl
theorem c_Grow_Wait {n : Nat} (hn : n ≤ 1048576) : Con Try.prog noMv 88 [.zs 0, int (n : Int)] [] (fun r h => r = .osl 0 2 0 0 ∧ h = [(0, .rows 2 [])]) := by
  refine con_of2 k_c_Grow_Wait_fits rfl fun C hP hmv => ?_
  unfold k_c_Grow_Wait
  refine cx_seq ?_
  refine cx_ops ?_
  refine ax_q (q_mov rfl) ?_
  refine ax_nil ?_
  refine cx_keep rfl rfl ?_
  refine cx_seq ?_
  refine cx_seq ?_
  refine cx_ops ?_
  refine ax_q (q_mov rfl) ?_
  refine ax_q (q_ibin rfl rfl rfl) ?_
  refine ax_nil ?_
  refine cx_keep rfl rfl ?_
  refine cx_cond rfl (fun h0 => ?_) (fun h0 => ?_)
  · have h0 := dT h0
    exact absurd h0 (by omega)
  · have h0 := dF h0
    refine cx_skip ?_
    refine cx_keep rfl rfl ?_
    refine cx_seq ?_
    refine cx_seq ?_
    refine cx_ops ?_
    refine ax_q (q_mov rfl) ?_
    refine ax_q (q_mov rfl) ?_
    refine ax_q (q_capS_zs rfl) ?_
    refine ax_q (q_mov rfl) ?_
    first | refine ax_q (q_lenS_map rfl) ?_ | refine ax_q (q_lenS_osl rfl) ?_ | refine ax_q (q_lenS_zs rfl) ?_ | refine ax_q (q_lenS rfl) ?_
    refine ax_q (q_sub rfl rfl (by omega)) ?_
    refine ax_qe (r' := int (n : Int)) (q_ibin rfl rfl rfl) (by rw [wi (by omega) (by omega)]; exact congrArg AM.int (by omega)) ?_
    refine ax_q (q_mov rfl) ?_
    refine ax_nil ?_
    refine cx_keep rfl rfl ?_
    refine cx_seq ?_
    refine cx_ops ?_
    refine ax_q (q_mov rfl) ?_
    refine ax_q (q_ibin rfl rfl rfl) ?_
    refine ax_nil ?_
    refine cx_keep rfl rfl ?_
    refine cx_cond rfl (fun h1 => ?_) (fun h1 => ?_)
    · have h1 := dT h1
      refine cx_ops ?_
      refine ax_q (q_mov rfl) ?_
      refine ax_q (q_mov rfl) ?_
      refine ax_q (q_capS_zs rfl) ?_
      refine ax_q (q_slc_zs rfl rfl rfl (by omega) (by omega) (by omega)) ?_
      refine ax_q (q_mov rfl) ?_
      refine ax_e (e_appz (n := n) rfl rfl (by omega) (by decide) rfl rfl (Nat.le_trans (Nat.mul_le_mul_right _ hn) (by decide))) ?_
      refine ax_q (q_mov rfl) ?_
      first | refine ax_q (q_lenS_map rfl) ?_ | refine ax_q (q_lenS_osl rfl) ?_ | refine ax_q (q_lenS_zs rfl) ?_ | refine ax_q (q_lenS rfl) ?_
      refine ax_qe (r' := .osl 22 2 0 0) (q_slc_osl rfl rfl rfl (by omega) (by omega) (by omega)) (oslE (by omega) (by omega)) ?_
      refine ax_q (q_mov rfl) ?_
      refine ax_nil ?_
      refine cx_keep rfl rfl ?_
      refine cx_seq ?_
      refine cx_ops ?_
      refine ax_q (q_mov rfl) ?_
      refine ax_q (q_mov rfl) ?_
      refine ax_nil ?_
      refine cx_keep rfl rfl ?_
      first
      | refine cx_ret (retN (fun _ => 0) [22] rfl rfl rfl rfl rfl ?_)
        exact ⟨rfl, rfl⟩
      | refine cx_wk (wk_virt 900 2 rfl rfl rfl) ?_
        refine cx_wk (wk_zz 4 2 rfl) ?_
        refine cx_wk (wk_zs 4 900 [] rfl rfl) ?_
        refine cx_ret (retN (fun _ => 0) [900] rfl rfl rfl rfl rfl ?_)
        exact ⟨rfl, rfl⟩
    · have h1 := dF h1
      refine cx_skip ?_
      refine cx_keep rfl rfl ?_
      refine cx_seq ?_
      refine cx_ops ?_
      refine ax_q (q_mov rfl) ?_
      refine ax_q (q_mov rfl) ?_
      refine ax_nil ?_
      refine cx_keep rfl rfl ?_
      first
      | refine cx_ret (retN (fun _ => 0) [22] rfl rfl rfl rfl rfl ?_)
        exact ⟨rfl, rfl⟩
      | refine cx_wk (wk_virt 900 2 rfl rfl rfl) ?_
        refine cx_wk (wk_zz 4 2 rfl) ?_
        refine cx_wk (wk_zs 4 900 [] rfl rfl) ?_
        refine cx_ret (retN (fun _ => 0) [900] rfl rfl rfl rfl rfl ?_)
        exact ⟨rfl, rfl⟩


/- slices.Concat[[]loop.example/g00332/impl.Wait,loop.example/g00332/impl.Wait] -/
def k_c_Concat_Wait : XCode :=
  .seq (.ops [.op (some 2) (.mov (.k (.nils 2)))])
  (.keep [0] (.seq (.ops [.op (some 3) (.mov (.k (.int .i64 0)))])
  (.keep [0, 3] (.seq (.seq (.ops [.op (some 9) (.mov (.t 0)),
      .op (some 10) (.lenS (.t 9)),
      .op (some 11) (.mov (.k (.int .i64 0)))])
   (.keep [0, 3, 9, 10, 11] (.block 0 (.loop (.seq (.ops [.op (some 12) (.bin .lss (.t 11) (.t 10))])
     (.keep [0, 3, 9, 10, 11, 12] (.seq (.cond (.t 12)
       (.skip)
       (.exit 0))
     (.keep [0, 3, 9, 10, 11] (.seq (.block 1 (.seq (.ops [.op (some 13) (.iadr 1 (.t 9) (.t 11)),
          .op (some 14) (.load1 (.t 13)),
          .op (some 5) (.mov (.t 14))])
       (.keep [0, 3, 5, 9, 10, 11] (.seq (.ops [.op (some 15) (.mov (.t 3)),
          .op (some 16) (.mov (.t 5)),
          .op (some 17) (.lenS (.t 16)),
          .op (some 18) (.bin .add (.t 15) (.t 17)),
          .op (some 3) (.mov (.t 18))])
       (.keep [0, 3, 9, 10, 11] (.seq (.ops [.op (some 19) (.mov (.t 3)),
          .op (some 20) (.bin .lss (.t 19) (.k (.int .i64 0)))])
       (.keep [0, 3, 9, 10, 11, 20] (.cond (.t 20)
        (.ops [.op (some 21) (.bad),
           .op none (.bad)])
        (.skip)))))))))
     (.keep [0, 3, 9, 10, 11] (.ops [.op (some 22) (.bin .add (.t 11) (.k (.int .i64 1))),
       .op (some 11) (.mov (.t 22))])))))))))))
  (.keep [0, 3] (.seq (.ops [.op (some 23) (.mov (.t 3)),
     .call (some 24) 88 [.k (.nils 0), .t 23],
     .op (some 6) (.mov (.t 24))])
  (.keep [0, 6] (.seq (.seq (.ops [.op (some 25) (.mov (.t 0)),
      .op (some 26) (.lenS (.t 25)),
      .op (some 27) (.mov (.k (.int .i64 0)))])
   (.keep [6, 25, 26, 27] (.block 2 (.loop (.seq (.ops [.op (some 28) (.bin .lss (.t 27) (.t 26))])
     (.keep [6, 25, 26, 27, 28] (.seq (.cond (.t 28)
       (.skip)
       (.exit 2))
     (.keep [6, 25, 26, 27] (.seq (.block 3 (.seq (.ops [.op (some 29) (.iadr 1 (.t 25) (.t 27)),
          .op (some 30) (.load1 (.t 29)),
          .op (some 8) (.mov (.t 30))])
       (.keep [6, 8, 25, 26, 27] (.ops [.op (some 31) (.mov (.t 6)),
         .op (some 32) (.mov (.t 8)),
         .op (some 33) (.app 2 16 [.int .i64 0, .int .i64 0] (.t 31) (.t 32)),
         .op (some 6) (.mov (.t 33))]))))
     (.keep [6, 25, 26, 27] (.ops [.op (some 34) (.bin .add (.t 27) (.k (.int .i64 1))),
       .op (some 27) (.mov (.t 34))])))))))))))
  (.keep [6] (.seq (.ops [.op (some 35) (.mov (.t 6)),
     .op (some 2) (.mov (.t 35))])
  (.keep [2] (.ret))))))))))))
theorem k_c_Concat_Wait_fits : fitsF Try.prog 78 ⟨36, k_c_Concat_Wait, [.t 2]⟩ = true := by kernel_rfl
theorem c_Concat_Wait {zs : List (List GWait)} (hw : zs.length ≤ 1000) (hs : zs.flatten.length ≤ 1048576) : Con Try.prog noMv 78 [.d (.sl 1 (zs.map (fun xs => [D.sl 2 (xs.map GWait.row)])))] [] (fun r h => r = .osl 0 2 0 zs.flatten.length ∧ h = [(0, .rows 2 (zs.flatten.map GWait.row))]) := by
  refine con_of2 k_c_Concat_Wait_fits rfl fun C hP hmv => ?_
  unfold k_c_Concat_Wait
  refine cx_seq ?_
  refine cx_ops ?_
  refine ax_q (q_mov rfl) ?_
  refine ax_nil ?_
  refine cx_keep rfl rfl ?_
  refine cx_seq ?_
  refine cx_ops ?_
  refine ax_q (q_mov rfl) ?_
  refine ax_nil ?_
  refine cx_keep rfl rfl ?_
  refine cx_seq ?_
  refine cx_seq ?_
  refine cx_ops ?_
  refine ax_q (q_mov rfl) ?_
  first | refine ax_q (q_lenS_map rfl) ?_ | refine ax_q (q_lenS_osl rfl) ?_ | refine ax_q (q_lenS_zs rfl) ?_ | refine ax_q (q_lenS rfl) ?_
  refine ax_q (q_mov rfl) ?_
  refine ax_nil ?_
  refine cx_keep rfl rfl ?_
  refine cx_block ?_
  refine cx_loopU (fun n k => k ≤ zs.length ∧ n = zs.length - k) (fun k : Nat => [(3, int (zs.take k).flatten.length), (11, int k)]) (fun _ => []) ⟨_, 0, ⟨Nat.zero_le _, rfl⟩, by repeat (first | exact trivial | refine ⟨rfl, ?_⟩ | refine ⟨?_, ?_⟩)⟩ ?_
  rintro n k ⟨hk, rfl⟩
  refine cx_seq ?_
  refine cx_ops ?_
  refine ax_q (q_ibin rfl rfl rfl) ?_
  refine ax_nil ?_
  refine cx_keep rfl rfl ?_
  refine cx_seq ?_
  refine cx_cond rfl (fun h0 => ?_) (fun h0 => ?_)
  · have h0 := dT h0
    have h0x : k < zs.length := by omega
    have e1 := flat_succ h0x
    have e2 := @flat_le _ zs (k + 1)
    have e3 : (zs.take (k + 1)).flatten.length = (zs.take k).flatten.length + zs[k].length := by rw [e1, List.length_append]
    refine cx_skip ?_
    refine cx_keep rfl rfl ?_
    refine cx_seq ?_
    refine cx_block ?_
    refine cx_seq ?_
    refine cx_ops ?_
    refine ax_q (q_ix rfl rfl (mapAt h0x)) ?_
    first | refine ax_q (q_load1_ptr rfl rfl rfl) ?_ | refine ax_q (q_load1_ip rfl) ?_ | refine ax_q (q_load1_rptr rfl rfl rfl rfl) ?_ | refine ax_q (q_load1_rptr rfl rfl (by assumption) rfl) ?_ | refine ax_q (q_load1_rptr rfl rfl (mapAt (by first | assumption | omega)) rfl) ?_
    refine ax_q (q_mov rfl) ?_
    refine ax_nil ?_
    refine cx_keep rfl rfl ?_
    refine cx_seq ?_
    refine cx_ops ?_
    refine ax_q (q_mov rfl) ?_
    refine ax_q (q_mov rfl) ?_
    first | refine ax_q (q_lenS_map rfl) ?_ | refine ax_q (q_lenS_osl rfl) ?_ | refine ax_q (q_lenS_zs rfl) ?_ | refine ax_q (q_lenS rfl) ?_
    refine ax_qe (r' := int (zs.take (k + 1)).flatten.length) (q_ibin rfl rfl rfl) (by rw [wi (by omega) (by omega)]; congr 2; omega) ?_
    refine ax_q (q_mov rfl) ?_
    refine ax_nil ?_
    refine cx_keep rfl rfl ?_
    refine cx_seq ?_
    refine cx_ops ?_
    refine ax_q (q_mov rfl) ?_
    refine ax_q (q_ibin rfl rfl rfl) ?_
    refine ax_nil ?_
    refine cx_keep rfl rfl ?_
    refine cx_cond rfl (fun h1 => ?_) (fun h1 => ?_)
    · have h1 := dT h1
      exact absurd h1 (by omega)
    · have h1 := dF h1
      refine cx_skip ?_
      refine cx_keep rfl rfl ?_
      refine cx_ops ?_
      refine ax_qe (r' := int ((k + 1 : Nat) : Int)) (q_ibin rfl rfl rfl) (by rw [wi (by omega) (by omega)]; rfl) ?_
      refine ax_q (q_mov rfl) ?_
      refine ax_nil ?_
      exact ⟨_, k + 1, by omega, ⟨by omega, rfl⟩, by repeat (first | exact trivial | refine ⟨rfl, ?_⟩ | refine ⟨?_, ?_⟩)⟩
  · have h0 := dF h0
    have h0x : k = zs.length := by omega
    subst h0x
    rw [List.take_length]
    refine cx_exit rfl ?_
    refine cx_keep rfl rfl ?_
    refine cx_seq ?_
    refine cx_ops ?_
    refine ax_q (q_mov rfl) ?_
    first | refine ax_call rfl (vc_pure (c_Grow_Wait (n := zs.flatten.length) ?_) hP rfl ?_) | refine ax_call rfl (vc_lend (c_Grow_Wait (n := zs.flatten.length) ?_) hP (by repeat (first | exact lal_id _ rfl | exact LAL.nil | refine LAL.cons ?_ ?_ | exact la_id _ rfl | exact LA.lend (lend_whole rfl (by first | (simp; done) | (rw [List.length_map]; rfl))) | refine LA.agg ?_ | refine LA.fn ?_ | refine LA.lend ?_ | exact Lend.d _ | exact Lend.zs _ | exact lend_whole rfl (by first | (simp; done) | (rw [List.length_map]; rfl)) | refine Lend.ptr rfl ?_ | refine Lend.fn ?_ | exact LendL.nil | refine LendL.cons ?_ ?_)) ?_)
    · first | assumption | omega | (simp; done) | (simp; omega)
    rintro r h ⟨rfl, rfl⟩
    refine ⟨fun i => 24 + 200 * i, [0], ⟨rfl, rfl, rfl, rfl, rfl, (by first | exact (fun h => absurd h Bool.false_ne_true) | exact (fun _ => ⟨rfl, (noisl_of (by repeat (first | exact trivial | refine ⟨noisl_map (fun _ => rfl), ?_⟩ | refine ⟨?_, ?_⟩)))⟩))⟩, ?_⟩
    skip
    refine ax_q (q_mov rfl) ?_
    refine ax_nil ?_
    refine cx_keep rfl rfl ?_
    refine cx_seq ?_
    refine cx_seq ?_
    refine cx_ops ?_
    refine ax_q (q_mov rfl) ?_
    first | refine ax_q (q_lenS_map rfl) ?_ | refine ax_q (q_lenS_osl rfl) ?_ | refine ax_q (q_lenS_zs rfl) ?_ | refine ax_q (q_lenS rfl) ?_
    refine ax_q (q_mov rfl) ?_
    refine ax_nil ?_
    refine cx_keep rfl rfl ?_
    refine cx_block ?_
    refine cx_loopU (fun n k => k ≤ zs.length ∧ n = zs.length - k) (fun k : Nat => [(6, .osl 24 2 0 (zs.take k).flatten.length), (27, int k)]) (fun k => [(24, .rows 2 ((zs.take k).flatten.map GWait.row))]) ⟨_, 0, ⟨Nat.zero_le _, rfl⟩, by repeat (first | exact trivial | refine ⟨rfl, ?_⟩ | refine ⟨?_, ?_⟩)⟩ ?_
    rintro n k ⟨hk, rfl⟩
    refine cx_seq ?_
    refine cx_ops ?_
    refine ax_q (q_ibin rfl rfl rfl) ?_
    refine ax_nil ?_
    refine cx_keep rfl rfl ?_
    refine cx_seq ?_
    refine cx_cond rfl (fun h2 => ?_) (fun h2 => ?_)
    · have h2 := dT h2
      have h2x : k < zs.length := by omega
      have e1 := flat_succ h2x
      have e2 := @flat_le _ zs (k + 1)
      have e3 : (zs.take (k + 1)).flatten.length = (zs.take k).flatten.length + zs[k].length := by rw [e1, List.length_append]
      refine cx_skip ?_
      refine cx_keep rfl rfl ?_
      refine cx_seq ?_
      refine cx_block ?_
      refine cx_seq ?_
      refine cx_ops ?_
      refine ax_q (q_ix rfl rfl (mapAt h2x)) ?_
      first | refine ax_q (q_load1_ptr rfl rfl rfl) ?_ | refine ax_q (q_load1_ip rfl) ?_ | refine ax_q (q_load1_rptr rfl rfl rfl rfl) ?_ | refine ax_q (q_load1_rptr rfl rfl (by assumption) rfl) ?_ | refine ax_q (q_load1_rptr rfl rfl (mapAt (by first | assumption | omega)) rfl) ?_
      refine ax_q (q_mov rfl) ?_
      refine ax_nil ?_
      refine cx_keep rfl rfl ?_
      refine cx_ops ?_
      refine ax_q (q_mov rfl) ?_
      refine ax_q (q_mov rfl) ?_
      refine ax_e (e_appn (n' := (zs.take (k + 1)).flatten.length) (rs' := (zs.take (k + 1)).flatten.map GWait.row) rfl rfl (by rw [List.length_map]; exact Nat.le_refl _) rfl (src_sl 2 _) (.inl (by decide)) (hbnd (by omega) (by rw [List.length_map]; omega) (by decide)) (by rw [List.length_map]; omega) (by rw [e1, List.map_append, List.take_of_length_le (by rw [List.length_map]; exact Nat.le_refl _)])) ?_
      refine ax_q (q_mov rfl) ?_
      refine ax_nil ?_
      refine cx_keep rfl rfl ?_
      refine cx_ops ?_
      refine ax_qe (r' := int ((k + 1 : Nat) : Int)) (q_ibin rfl rfl rfl) (by rw [wi (by omega) (by omega)]; rfl) ?_
      refine ax_q (q_mov rfl) ?_
      refine ax_nil ?_
      exact ⟨_, k + 1, by omega, ⟨by omega, rfl⟩, by repeat (first | exact trivial | refine ⟨rfl, ?_⟩ | refine ⟨?_, ?_⟩)⟩
    · have h2 := dF h2
      have h2x : k = zs.length := by omega
      subst h2x
      rw [List.take_length]
      refine cx_exit rfl ?_
      refine cx_keep rfl rfl ?_
      refine cx_seq ?_
      refine cx_ops ?_
      refine ax_q (q_mov rfl) ?_
      refine ax_q (q_mov rfl) ?_
      refine ax_nil ?_
      refine cx_keep rfl rfl ?_
      refine cx_ret (retN (fun _ => 0) [24] rfl rfl rfl rfl rfl ?_)
      exact ⟨rfl, rfl⟩


/- (ptr loop.example/g00332/impl.Locks).take -/
def k_c_take : XCode :=
  .seq (.ops [.op (some 3) (.box (.t 1)),
     .op (some 4) (.mov (.k (.int .i64 0)))])
  (.keep [0, 3] (.seq (.ops [.op (some 10) (.mov (.t 0)),
     .op (some 11) (.mov (.t 0)),
     .op (some 12) (.nilck (.t 11)),
     .op (some 13) (.fadr (.t 12) 1),
     .op (some 14) (.load1 (.t 13)),
     .op (some 15) (.mkfn 76 [.t 3]),
     .call (some 16) 68 [.t 14, .t 15],
     .op (some 17) (.nilck (.t 10)),
     .op (some 18) (.fadr (.t 17) 1),
     .op none (.store 1 (.t 18) (.t 16))])
  (.keep [0, 3] (.seq (.seq (.draw [.op (some 19) (.mov (.t 0)),
      .op (some 20) (.nilck (.t 19)),
      .op (some 21) (.loadN 2 (.t 20)),
      .op (some 22) (.loadN 4 (.t 3)),
      .call (some 23) 53 [.t 21, .t 22]])
   (.keep [0, 3, 23] (.cond (.t 23)
    (.seq (.ops [.op (some 4) (.mov (.k (.int .i64 0)))])
     (.keep [4] (.ret)))
    (.skip))))
  (.keep [0, 3] (.seq (.ops [.op (some 24) (.bslice 2 []),
     .op (some 5) (.mov (.t 24))])
  (.keep [0, 3, 5] (.seq (.seq (.ops [.op (some 25) (.mov (.t 0)),
      .op (some 26) (.nilck (.t 25)),
      .op (some 27) (.fadr (.t 26) 0),
      .op (some 28) (.load1 (.t 27)),
      .op (some 29) (.lenS (.t 28)),
      .op (some 30) (.mov (.k (.int .i64 0)))])
   (.keep [0, 3, 5, 28, 29, 30] (.block 0 (.loop (.seq (.ops [.op (some 31) (.bin .lss (.t 30) (.t 29))])
     (.keep [0, 3, 5, 28, 29, 30, 31] (.seq (.cond (.t 31)
       (.skip)
       (.exit 0))
     (.keep [0, 3, 5, 28, 29, 30] (.seq (.block 1 (.seq (.ops [.op (some 32) (.iadr 4 (.t 28) (.t 30)),
          .op (some 33) (.loadN 4 (.t 32)),
          .op (some 7) (.alloc [.int .i64 0, .int .i64 0, .int .i64 0, .int .i64 0]),
          .op none (.store 4 (.t 7) (.t 33))])
       (.keep [0, 3, 5, 7, 28, 29, 30] (.seq (.ops [.op (some 34) (.fadr (.t 3) 0),
          .op (some 35) (.load1 (.t 34)),
          .op (some 36) (.fadr (.t 7) 0),
          .op (some 37) (.load1 (.t 36)),
          .op (some 38) (.build [.int .i64 0, .int .i64 0] [(0, 1, .t 35), (1, 1, .t 37)]),
          .op (some 8) (.alloc [.int .i64 0, .int .i64 0]),
          .op none (.store 2 (.t 8) (.t 38))])
       (.keep [0, 3, 5, 7, 8, 28, 29, 30] (.seq (.ops [.op (some 39) (.loadN 4 (.t 7)),
          .op (some 40) (.loadN 4 (.t 3)),
          .call (some 41) 57 [.t 39, .t 40],
          .op (some 42) (.mov (.t 41)),
          .andor 47 true 3 42 [.op (some 43) (.mov (.t 5)), .op (some 44) (.loadN 2 (.t 8)), .call (some 45) 77 [.t 43, .t 44], .op (some 46) (.not (.t 45))] (.t 46)])
       (.keep [0, 3, 5, 8, 28, 29, 30, 47] (.cond (.t 47)
        (.ops [.op (some 48) (.mov (.t 5)),
           .op (some 49) (.loadN 2 (.t 8)),
           .op (some 50) (.bslice 2 [.t 49]),
           .op (some 51) (.app 2 16 [.int .i64 0, .int .i64 0] (.t 48) (.t 50)),
           .op (some 5) (.mov (.t 51))])
        (.skip)))))))))
     (.keep [0, 3, 5, 28, 29, 30] (.ops [.op (some 52) (.bin .add (.t 30) (.k (.int .i64 1))),
       .op (some 30) (.mov (.t 52))])))))))))))
  (.keep [0, 3, 5] (.seq (.block 2 (.seq (.ops [.op (some 54) (.mov (.t 5)),
       .op (some 55) (.lenS (.t 54)),
       .op (some 56) (.bin .eql (.t 55) (.k (.int .i64 0))),
       .op (some 57) (.mov (.t 56)),
       .andor 64 true 3 57 [.op (some 58) (.mov (.t 0)), .op (some 59) (.nilck (.t 58)), .op (some 60) (.fadr (.t 59) 0), .op (some 61) (.load1 (.t 60)), .op (some 62) (.lenS (.t 61)), .op (some 63) (.bin .eql (.t 62) (.k (.int .i64 60)))] (.t 63),
       .op (some 53) (.mov (.t 64))])
    (.keep [0, 3, 5, 53] (.cond (.t 53)
     (.seq (.ops [.op (some 4) (.mov (.k (.int .i64 7)))])
      (.keep [4] (.ret)))
     (.seq (.ops [.op (some 66) (.mov (.t 5)),
         .op (some 67) (.lenS (.t 66)),
         .op (some 68) (.bin .eql (.t 67) (.k (.int .i64 0))),
         .op (some 65) (.mov (.t 68))])
      (.keep [0, 3, 5, 65] (.cond (.t 65)
       (.seq (.drawE [[], [], [1], [1, 2], [1, 2, 3], [], [5], [1, 2, 3, 4, 5, 6], [0, 1, 2, 3, 4, 5, 6, 7], [0, 1, 2, 3, 4, 5, 6, 7, 8], [0, 1, 2, 3, 4, 5, 6, 7, 8, 9]] [.op (some 69) (.mov (.t 0)),
           .op (some 70) (.mov (.t 0)),
           .op (some 71) (.nilck (.t 70)),
           .op (some 72) (.fadr (.t 71) 0),
           .op (some 73) (.load1 (.t 72)),
           .op (some 74) (.loadN 4 (.t 3)),
           .op (some 75) (.bslice 4 [.t 74]),
           .op (some 76) (.app 4 32 [.int .i64 0, .int .i64 0, .int .i64 0, .int .i64 0] (.t 73) (.t 75))]
          [.op (some 77) (.nilck (.t 69)),
           .op (some 78) (.fadr (.t 77) 0),
           .op none (.store 1 (.t 78) (.t 76))])
        (.keep [] (.seq (.ops [.op (some 4) (.mov (.k (.int .i64 0)))])
        (.keep [4] (.ret)))))
       (.seq (.ops [.op (some 80) (.mov (.t 0)),
           .op (some 81) (.nilck (.t 80)),
           .op (some 82) (.fadr (.t 81) 1),
           .op (some 83) (.load1 (.t 82)),
           .op (some 84) (.lenS (.t 83)),
           .op (some 85) (.mov (.t 5)),
           .op (some 86) (.lenS (.t 85)),
           .op (some 87) (.bin .add (.t 84) (.t 86)),
           .op (some 88) (.bin .gtr (.t 87) (.k (.int .i64 100))),
           .op (some 79) (.mov (.t 88))])
        (.keep [0, 3, 5, 79] (.cond (.t 79)
         (.seq (.ops [.op (some 4) (.mov (.k (.int .i64 7)))])
          (.keep [4] (.ret)))
         (.skip)))))))))))
  (.keep [0, 3, 5] (.seq (.drawE [[], [0], [0, 1], [0, 1, 2], [], [4], [4, 5], [4, 5, 6], [], [4, 5, 6, 7, 8], [4, 5, 6, 7, 8, 9], [0, 1, 2, 3, 4, 5, 6, 7, 8, 9, 10], [], [0, 1, 2, 3, 4, 5, 6, 7, 8, 9, 10, 11, 12]] [.op (some 89) (.mov (.t 0)),
     .op (some 90) (.nilck (.t 89)),
     .op (some 91) (.fadr (.t 90) 0),
     .op (some 92) (.load1 (.t 91)),
     .op (some 93) (.mov (.t 0)),
     .op (some 94) (.nilck (.t 93)),
     .op (some 95) (.fadr (.t 94) 1),
     .op (some 96) (.load1 (.t 95)),
     .op (some 97) (.mov (.t 5)),
     .op (some 98) (.bslice 1 [.t 96, .t 97]),
     .call (some 99) 78 [.t 98],
     .op (some 100) (.build [.nils 4, .nils 2] [(0, 1, .t 92), (1, 1, .t 99)]),
     .op (some 9) (.alloc [.nils 4, .nils 2])]
    [.op none (.store 2 (.t 9) (.t 100))])
  (.keep [0, 3, 9] (.seq (.seq (.ops [.op (some 101) (.loadN 2 (.t 9)),
      .op (some 102) (.fadr (.t 3) 0),
      .op (some 103) (.load1 (.t 102)),
      .op (some 104) (.fadr (.t 3) 0),
      .op (some 105) (.load1 (.t 104)),
      .call (some 106) 52 [.t 101, .t 103, .t 105]])
   (.keep [0, 9, 106] (.cond (.t 106)
    (.seq (.ops [.op (some 4) (.mov (.k (.int .i64 14)))])
     (.keep [4] (.ret)))
    (.skip))))
  (.keep [0, 9] (.seq (.ops [.op (some 107) (.mov (.t 0)),
     .op (some 108) (.fadr (.t 9) 1),
     .op (some 109) (.load1 (.t 108)),
     .op (some 110) (.nilck (.t 107)),
     .op (some 111) (.fadr (.t 110) 1),
     .op none (.store 1 (.t 111) (.t 109))])
  (.keep [] (.seq (.ops [.op (some 4) (.mov (.k (.int .i64 13)))])
  (.keep [4] (.ret))))))))))))))))))))
theorem k_c_take_fits : fitsF Try.prog 49 ⟨112, k_c_take, [.t 4]⟩ = true := by kernel_rfl
set_option maxHeartbeats 2000000 in
theorem c_take {l : GLocks} {x : GLock} (hw0 : l.Held.length ≤ 1048576) (hw1 : l.Waits.length ≤ 1048576) : Con Try.prog (fun e => Nat.beq e 1001 || Nat.beq e 1002) 49 [.ptr 1000 0, x.av] (l.pO 1000 1001 1002) (fun r h => r = int (takeL l x).2 ∧ h = (takeL l x).1.pO 1000 1001 1002) := by
  refine con_of2 k_c_take_fits rfl fun C hP hmv => ?_
  unfold k_c_take
  have hcw := calm_len l x.Tx
  have hcn : (l.Waits.filter (fun w => !decide (w.Tx = x.Tx))).length ≤ 1048576 := Nat.le_trans (filter_len _ _) hw1
  refine cx_seq ?_
  refine cx_ops ?_
  refine ax_e (e_box rfl rfl (by decide) rfl rfl rfl) ?_
  refine ax_q (q_mov rfl) ?_
  refine ax_nil ?_
  refine cx_keep rfl rfl ?_
  refine cx_seq ?_
  refine cx_ops ?_
  refine ax_q (q_mov rfl) ?_
  refine ax_q (q_mov rfl) ?_
  first | refine ax_q (q_nilck_ptr rfl) ?_ | refine ax_q (q_nilck_rptr rfl) ?_ | refine ax_q (q_nilck_ip rfl) ?_
  first | refine ax_q (q_fadr_ptr rfl) ?_ | refine ax_q (q_fadr_rptr rfl) ?_ | refine ax_q (q_fadr_ip rfl) ?_
  first | refine ax_q (q_load1_ptr rfl rfl rfl) ?_ | refine ax_q (q_load1_ip rfl) ?_ | refine ax_q (q_load1_rptr rfl rfl rfl rfl) ?_ | refine ax_q (q_load1_rptr rfl rfl (by assumption) rfl) ?_ | refine ax_q (q_load1_rptr rfl rfl (mapAt (by first | assumption | omega)) rfl) ?_
  refine ax_q (q_mkfn rfl) ?_
  refine ax_call rfl (vcall_own (c_DeleteFunc_Wait (xs := l.Waits) (ds := [.ip x.row]) (fun w => decide (w.Tx = x.Tx)) (by omega) (by kernel_rfl) (fun s _ => c_take1)) hP hmv true (fun _ => 1002) [1000] ⟨rfl, rfl, rfl, rfl, ⟨rfl, trivial⟩, rfl, rfl, rfl⟩ (.pass rfl rfl (.lend (.lend (.fn (.cons (.ptr rfl (by repeat (first | exact .nil | refine .cons (.d _) ?_))) .nil))) .nil)) ?_)
  rintro r h ⟨rfl, rfl⟩
  refine ⟨fun _ => 1002, [], ⟨rfl, rfl, rfl, rfl, (mem1 rfl), rfl, rfl, fun _ => ⟨rfl, noisl_of ⟨noisl_map (fun _ => rfl), trivial⟩⟩⟩, ?_⟩
  first | refine ax_q (q_nilck_ptr rfl) ?_ | refine ax_q (q_nilck_rptr rfl) ?_ | refine ax_q (q_nilck_ip rfl) ?_
  first | refine ax_q (q_fadr_ptr rfl) ?_ | refine ax_q (q_fadr_rptr rfl) ?_ | refine ax_q (q_fadr_ip rfl) ?_
  refine ax_e (e_st rfl rfl rfl rfl rfl rfl rfl) ?_
  refine ax_nil ?_
  refine cx_keep rfl rfl ?_
  refine cx_seq ?_
  refine cx_seq ?_
  refine cx_draw ?_
  refine ax_q (q_mov rfl) ?_
  first | refine ax_q (q_nilck_ptr rfl) ?_ | refine ax_q (q_nilck_rptr rfl) ?_ | refine ax_q (q_nilck_ip rfl) ?_
  first | refine ax_q (q_ldN rfl rfl rfl) ?_ | refine ax_q (q_loadN_ip rfl (Nat.le_refl _)) ?_ | refine ax_q (q_loadN_ip rfl (by decide)) ?_ | refine ax_q (q_loadN_rptr rfl rfl (by assumption) (by decide)) ?_ | refine ax_q (q_loadN_rptr rfl rfl (mapAt (by first | assumption | omega)) (by decide)) ?_
  first | refine ax_q (q_ldN rfl rfl rfl) ?_ | refine ax_q (q_loadN_ip rfl (Nat.le_refl _)) ?_ | refine ax_q (q_loadN_ip rfl (by decide)) ?_ | refine ax_q (q_loadN_rptr rfl rfl (by assumption) (by decide)) ?_ | refine ax_q (q_loadN_rptr rfl rfl (mapAt (by first | assumption | omega)) (by decide)) ?_
  refine ax_callq rfl (c_has (l := (calm l x.Tx)) (x := x) hw0 hcn) hP (by repeat (first | exact lal_id _ rfl | exact LAL.nil | refine LAL.cons ?_ ?_ | exact la_id _ rfl | exact LA.lend (lend_whole rfl (by first | (simp; done) | (rw [List.length_map]; rfl))) | refine LA.agg ?_ | refine LA.fn ?_ | refine LA.lend ?_ | exact Lend.d _ | exact Lend.zs _ | exact lend_whole rfl (by first | (simp; done) | (rw [List.length_map]; rfl)) | refine Lend.ptr rfl ?_ | refine Lend.fn ?_ | exact LendL.nil | refine LendL.cons ?_ ?_)) rfl ?_
  refine ax_nil ?_
  refine cx_keep rfl rfl ?_
  refine cx_cond rfl (fun h0 => ?_) (fun h0 => ?_)
  · skip
    refine cx_seq ?_
    refine cx_ops ?_
    refine ax_q (q_mov rfl) ?_
    refine ax_nil ?_
    refine cx_keep rfl rfl ?_
    refine cx_ret (retN id [1000, 1001, 1002] rfl rfl rfl rfl rfl ?_)
    rw [takeL_1 h0]; exact ⟨rfl, rfl⟩
  · skip
    have h0 : ¬ holdsL (calm l x.Tx) x = true := by rw [h0]; simp
    refine cx_skip ?_
    refine cx_keep rfl rfl ?_
    refine cx_seq ?_
    refine cx_ops ?_
    refine ax_e (e_bslice rfl (by decide) rfl rfl) ?_
    refine ax_q (q_mov rfl) ?_
    refine ax_nil ?_
    refine cx_keep rfl rfl ?_
    refine cx_seq ?_
    refine cx_seq ?_
    refine cx_ops ?_
    refine ax_q (q_mov rfl) ?_
    first | refine ax_q (q_nilck_ptr rfl) ?_ | refine ax_q (q_nilck_rptr rfl) ?_ | refine ax_q (q_nilck_ip rfl) ?_
    first | refine ax_q (q_fadr_ptr rfl) ?_ | refine ax_q (q_fadr_rptr rfl) ?_ | refine ax_q (q_fadr_ip rfl) ?_
    first | refine ax_q (q_load1_ptr rfl rfl rfl) ?_ | refine ax_q (q_load1_ip rfl) ?_ | refine ax_q (q_load1_rptr rfl rfl rfl rfl) ?_ | refine ax_q (q_load1_rptr rfl rfl (by assumption) rfl) ?_ | refine ax_q (q_load1_rptr rfl rfl (mapAt (by first | assumption | omega)) rfl) ?_
    first | refine ax_q (q_lenS_map rfl) ?_ | refine ax_q (q_lenS_osl rfl) ?_ | refine ax_q (q_lenS_zs rfl) ?_ | refine ax_q (q_lenS rfl) ?_
    refine ax_q (q_mov rfl) ?_
    refine ax_nil ?_
    refine cx_keep rfl rfl ?_
    refine cx_block ?_
    refine cx_loopU (fun n k => k ≤ l.Held.length ∧ n = l.Held.length - k) (fun k : Nat => [(5, .osl 24 2 0 (clashW (calm l x.Tx) x k).length), (30, int k)]) (fun k => [(1000, .box [.osl 1001 4 0 l.Held.length, .osl 1002 2 0 (calm l x.Tx).Waits.length]), (1001, .rows 4 (l.Held.map GLock.row)), (1002, .rows 2 ((calm l x.Tx).Waits.map GWait.row)), (3, .box [.d (.int .i64 x.Tx), .d (.int .i64 x.Table), .d (.int .i64 x.Row), .d (.int .i64 x.Mode)]), (24, .rows 2 ((clashW (calm l x.Tx) x k).map GWait.row))]) ⟨_, 0, ⟨Nat.zero_le _, rfl⟩, by repeat (first | exact trivial | refine ⟨rfl, ?_⟩ | refine ⟨?_, ?_⟩)⟩ ?_
    rintro n k ⟨hk, rfl⟩
    have hcl := clashW_len (l := (calm l x.Tx)) (x := x) (k := k) hk
    refine cx_seq ?_
    refine cx_ops ?_
    refine ax_q (q_ibin rfl rfl rfl) ?_
    refine ax_nil ?_
    refine cx_keep rfl rfl ?_
    refine cx_seq ?_
    refine cx_cond rfl (fun h1 => ?_) (fun h1 => ?_)
    · have h1 := dT h1
      have h1x : k < l.Held.length := by omega
      have hsc : (clashW (calm l x.Tx) x (k + 1)) = addW x (clashW (calm l x.Tx) x k) l.Held[k] := clashW_succ (l := (calm l x.Tx)) (x := x) (k := k) h1x
      refine cx_skip ?_
      refine cx_keep rfl rfl ?_
      refine cx_seq ?_
      refine cx_block ?_
      refine cx_seq ?_
      refine cx_ops ?_
      refine ax_q (q_ixo rfl rfl h1x) ?_
      first | refine ax_q (q_ldN rfl rfl rfl) ?_ | refine ax_q (q_loadN_ip rfl (Nat.le_refl _)) ?_ | refine ax_q (q_loadN_ip rfl (by decide)) ?_ | refine ax_q (q_loadN_rptr rfl rfl (by assumption) (by decide)) ?_ | refine ax_q (q_loadN_rptr rfl rfl (mapAt (by first | assumption | omega)) (by decide)) ?_
      refine ax_e (e_alloc (by decide) rfl rfl) ?_
      refine ax_e (e_st rfl rfl rfl rfl rfl rfl rfl) ?_
      refine ax_nil ?_
      refine cx_keep rfl rfl ?_
      refine cx_seq ?_
      refine cx_ops ?_
      first | refine ax_q (q_fadr_ptr rfl) ?_ | refine ax_q (q_fadr_rptr rfl) ?_ | refine ax_q (q_fadr_ip rfl) ?_
      first | refine ax_q (q_load1_ptr rfl rfl rfl) ?_ | refine ax_q (q_load1_ip rfl) ?_ | refine ax_q (q_load1_rptr rfl rfl rfl rfl) ?_ | refine ax_q (q_load1_rptr rfl rfl (by assumption) rfl) ?_ | refine ax_q (q_load1_rptr rfl rfl (mapAt (by first | assumption | omega)) rfl) ?_
      first | refine ax_q (q_fadr_ptr rfl) ?_ | refine ax_q (q_fadr_rptr rfl) ?_ | refine ax_q (q_fadr_ip rfl) ?_
      first | refine ax_q (q_load1_ptr rfl rfl rfl) ?_ | refine ax_q (q_load1_ip rfl) ?_ | refine ax_q (q_load1_rptr rfl rfl rfl rfl) ?_ | refine ax_q (q_load1_rptr rfl rfl (by assumption) rfl) ?_ | refine ax_q (q_load1_rptr rfl rfl (mapAt (by first | assumption | omega)) rfl) ?_
      refine ax_q (q_build rfl) ?_
      refine ax_e (e_alloc (by decide) rfl rfl) ?_
      refine ax_e (e_st rfl rfl rfl rfl rfl rfl rfl) ?_
      refine ax_nil ?_
      refine cx_keep rfl rfl ?_
      refine cx_seq ?_
      refine cx_ops ?_
      first | refine ax_q (q_ldN rfl rfl rfl) ?_ | refine ax_q (q_loadN_ip rfl (Nat.le_refl _)) ?_ | refine ax_q (q_loadN_ip rfl (by decide)) ?_ | refine ax_q (q_loadN_rptr rfl rfl (by assumption) (by decide)) ?_ | refine ax_q (q_loadN_rptr rfl rfl (mapAt (by first | assumption | omega)) (by decide)) ?_
      first | refine ax_q (q_ldN rfl rfl rfl) ?_ | refine ax_q (q_loadN_ip rfl (Nat.le_refl _)) ?_ | refine ax_q (q_loadN_ip rfl (by decide)) ?_ | refine ax_q (q_loadN_rptr rfl rfl (by assumption) (by decide)) ?_ | refine ax_q (q_loadN_rptr rfl rfl (mapAt (by first | assumption | omega)) (by decide)) ?_
      first | refine ax_call rfl (vc_pure0 (c_clashes (a := l.Held[k]) (b := x) ) hP rfl rfl ?_) | refine ax_call rfl (vc_lend0 (c_clashes (a := l.Held[k]) (b := x) ) hP (by repeat (first | exact lal_id _ rfl | exact LAL.nil | refine LAL.cons ?_ ?_ | exact la_id _ rfl | exact LA.lend (lend_whole rfl (by first | (simp; done) | (rw [List.length_map]; rfl))) | refine LA.agg ?_ | refine LA.fn ?_ | refine LA.lend ?_ | exact Lend.d _ | exact Lend.zs _ | exact lend_whole rfl (by first | (simp; done) | (rw [List.length_map]; rfl)) | refine Lend.ptr rfl ?_ | refine Lend.fn ?_ | exact LendL.nil | refine LendL.cons ?_ ?_)) rfl rfl ?_)
      refine ax_q (q_mov rfl) ?_
      apply ax_and rfl rfl
      · intro g
        refine ax_q (q_mov rfl) ?_
        first | refine ax_q (q_ldN rfl rfl rfl) ?_ | refine ax_q (q_loadN_ip rfl (Nat.le_refl _)) ?_ | refine ax_q (q_loadN_ip rfl (by decide)) ?_ | refine ax_q (q_loadN_rptr rfl rfl (by assumption) (by decide)) ?_ | refine ax_q (q_loadN_rptr rfl rfl (mapAt (by first | assumption | omega)) (by decide)) ?_
        refine ax_call rfl (vc_lend0 (c_Contains_Wait (xs := (clashW (calm l x.Tx) x k)) (v := ⟨x.Tx, l.Held[k].Tx⟩) (by omega)) hP (by repeat (first | exact lal_id _ rfl | exact LAL.nil | refine LAL.cons ?_ ?_ | exact la_id _ rfl | exact LA.lend (lend_whole rfl (by first | (simp; done) | (rw [List.length_map]; rfl))) | refine LA.agg ?_ | refine LA.fn ?_ | refine LA.lend ?_ | exact Lend.d _ | exact Lend.zs _ | exact lend_whole rfl (by first | (simp; done) | (rw [List.length_map]; rfl)) | refine Lend.ptr rfl ?_ | refine Lend.fn ?_ | exact LendL.nil | refine LendL.cons ?_ ?_)) rfl rfl ?_)
        refine ax_q (q_not rfl) ?_
        exact ax_nil ⟨rfl, by repeat (first | exact trivial | refine ⟨rfl, ?_⟩ | refine ⟨?_, ?_⟩)⟩
      refine ax_nil ?_
      refine cx_keep rfl rfl ?_
      refine cx_cond rfl (fun h2 => ?_) (fun h2 => ?_)
      · have h2 := (fun h => And.intro (id (and_T h).1) (bT (and_T h).2)) h2
        rw [addW_new h2.1 h2.2] at hsc
        refine cx_ops ?_
        refine ax_q (q_mov rfl) ?_
        first | refine ax_q (q_ldN rfl rfl rfl) ?_ | refine ax_q (q_loadN_ip rfl (Nat.le_refl _)) ?_ | refine ax_q (q_loadN_ip rfl (by decide)) ?_ | refine ax_q (q_loadN_rptr rfl rfl (by assumption) (by decide)) ?_ | refine ax_q (q_loadN_rptr rfl rfl (mapAt (by first | assumption | omega)) (by decide)) ?_
        refine ax_e (e_bslice rfl (by decide) rfl rfl) ?_
        refine ax_e (e_appn (n' := (clashW (calm l x.Tx) x (k + 1)).length) (rs' := (clashW (calm l x.Tx) x (k + 1)).map GWait.row) rfl rfl (by simp) rfl (src_osl rfl (by simp)) (.inl (by decide)) (hbnd (by omega) (by simp) (by decide)) (by rw [hsc]; simp) (by rw [hsc]; exact app1 rfl)) ?_
        refine ax_q (q_mov rfl) ?_
        refine ax_nil ?_
        refine cx_keep rfl rfl ?_
        refine cx_ops ?_
        refine ax_qe (r' := int ((k + 1 : Nat) : Int)) (q_ibin rfl rfl rfl) (by rw [wi (by omega) (by omega)]; rfl) ?_
        refine ax_q (q_mov rfl) ?_
        refine ax_nil ?_
        exact ⟨_, k + 1, by omega, ⟨by omega, rfl⟩, by repeat (first | exact trivial | refine ⟨rfl, ?_⟩ | refine ⟨?_, ?_⟩)⟩
      · have h2 := (fun h => (and_F h).imp id bF) h2
        have hsc : (clashW (calm l x.Tx) x (k + 1)) = (clashW (calm l x.Tx) x k) := by
          rw [hsc]
          rcases h2 with h2 | h2
          · exact addW_no h2
          · exact addW_old h2
        rw [← hsc]
        refine cx_skip ?_
        refine cx_keep rfl rfl ?_
        refine cx_ops ?_
        refine ax_qe (r' := int ((k + 1 : Nat) : Int)) (q_ibin rfl rfl rfl) (by rw [wi (by omega) (by omega)]; rfl) ?_
        refine ax_q (q_mov rfl) ?_
        refine ax_nil ?_
        exact ⟨_, k + 1, by omega, ⟨by omega, rfl⟩, by repeat (first | exact trivial | refine ⟨rfl, ?_⟩ | refine ⟨?_, ?_⟩)⟩
    · have h1 := dF h1
      have h1x : k = l.Held.length := by omega
      subst h1x
      refine cx_exit rfl ?_
      refine cx_keep rfl rfl ?_
      refine cx_seq ?_
      refine cx_block ?_
      refine cx_seq ?_
      refine cx_ops ?_
      refine ax_q (q_mov rfl) ?_
      first | refine ax_q (q_lenS_map rfl) ?_ | refine ax_q (q_lenS_osl rfl) ?_ | refine ax_q (q_lenS_zs rfl) ?_ | refine ax_q (q_lenS rfl) ?_
      refine ax_q (q_ibin rfl rfl rfl) ?_
      refine ax_q (q_mov rfl) ?_
      apply ax_and rfl rfl
      · intro g
        have g := dT g
        refine ax_q (q_mov rfl) ?_
        first | refine ax_q (q_nilck_ptr rfl) ?_ | refine ax_q (q_nilck_rptr rfl) ?_ | refine ax_q (q_nilck_ip rfl) ?_
        first | refine ax_q (q_fadr_ptr rfl) ?_ | refine ax_q (q_fadr_rptr rfl) ?_ | refine ax_q (q_fadr_ip rfl) ?_
        first | refine ax_q (q_load1_ptr rfl rfl rfl) ?_ | refine ax_q (q_load1_ip rfl) ?_ | refine ax_q (q_load1_rptr rfl rfl rfl rfl) ?_ | refine ax_q (q_load1_rptr rfl rfl (by assumption) rfl) ?_ | refine ax_q (q_load1_rptr rfl rfl (mapAt (by first | assumption | omega)) rfl) ?_
        first | refine ax_q (q_lenS_map rfl) ?_ | refine ax_q (q_lenS_osl rfl) ?_ | refine ax_q (q_lenS_zs rfl) ?_ | refine ax_q (q_lenS rfl) ?_
        refine ax_q (q_ibin rfl rfl rfl) ?_
        exact ax_nil ⟨rfl, by repeat (first | exact trivial | refine ⟨rfl, ?_⟩ | refine ⟨?_, ?_⟩)⟩
      refine ax_q (q_mov rfl) ?_
      refine ax_nil ?_
      refine cx_keep rfl rfl ?_
      refine cx_cond rfl (fun h3 => ?_) (fun h3 => ?_)
      · have h3 := (fun h => And.intro (dT (and_T h).1) (dT (and_T h).2)) h3
        have h3a : (clashW (calm l x.Tx) x l.Held.length).length = 0 := by omega
        have h3b : l.Held.length = 60 := by omega
        refine cx_seq ?_
        refine cx_ops ?_
        refine ax_q (q_mov rfl) ?_
        refine ax_nil ?_
        refine cx_keep rfl rfl ?_
        refine cx_ret (retN id [1000, 1001, 1002] rfl rfl rfl rfl rfl ?_)
        rw [takeL_2 h0 h3a h3b]; exact ⟨rfl, rfl⟩
      · have h3 := (fun h => (and_F h).imp dF dF) h3
        refine cx_seq ?_
        refine cx_ops ?_
        refine ax_q (q_mov rfl) ?_
        first | refine ax_q (q_lenS_map rfl) ?_ | refine ax_q (q_lenS_osl rfl) ?_ | refine ax_q (q_lenS_zs rfl) ?_ | refine ax_q (q_lenS rfl) ?_
        refine ax_q (q_ibin rfl rfl rfl) ?_
        refine ax_q (q_mov rfl) ?_
        refine ax_nil ?_
        refine cx_keep rfl rfl ?_
        refine cx_cond rfl (fun h4 => ?_) (fun h4 => ?_)
        · have h4 := dT h4
          have h4a : (clashW (calm l x.Tx) x l.Held.length).length = 0 := by omega
          have h4b : ¬ l.Held.length = 60 := fun he => by rcases h3 with h3 | h3 <;> omega
          refine cx_seq ?_
          refine cx_drawL 7 76 (Nat.beq 1001) (nrA 1001) [] ([(1001, .rows 4 ((l.Held ++ [x]).map GLock.row))]) [[0], [0], [70], [71], [72], [3], [74], [73, 75]] [[1001, 1000], [], [], [], [], [], [], [1001, 1000]] rfl ?_
          first | refine ⟨_, .inr ⟨rfl, _, rfl, .inr ⟨rfl, rfl, .inr rfl, rfl, rfl⟩, loc_q (q_mov rfl)⟩, ?_⟩
          first | refine ⟨_, .inr ⟨rfl, _, rfl, .inl rfl, loc_q (q_mov rfl)⟩, ?_⟩
          first | refine ⟨_, .inr ⟨rfl, _, rfl, .inl rfl, loc_q (q_nilck_ptr rfl)⟩, ?_⟩ | refine ⟨_, .inr ⟨rfl, _, rfl, .inl rfl, loc_q (q_nilck_rptr rfl)⟩, ?_⟩ | refine ⟨_, .inr ⟨rfl, _, rfl, .inl rfl, loc_q (q_nilck_ip rfl)⟩, ?_⟩
          first | refine ⟨_, .inr ⟨rfl, _, rfl, .inl rfl, loc_q (q_fadr_ptr rfl)⟩, ?_⟩ | refine ⟨_, .inr ⟨rfl, _, rfl, .inl rfl, loc_q (q_fadr_rptr rfl)⟩, ?_⟩ | refine ⟨_, .inr ⟨rfl, _, rfl, .inl rfl, loc_q (q_fadr_ip rfl)⟩, ?_⟩
          first | refine ⟨_, .inr ⟨rfl, _, rfl, .inl rfl, loc_q (q_load1_ptr rfl rfl rfl)⟩, ?_⟩ | refine ⟨_, .inr ⟨rfl, _, rfl, .inl rfl, loc_q (q_load1_ip rfl)⟩, ?_⟩ | refine ⟨_, .inr ⟨rfl, _, rfl, .inl rfl, loc_q (q_load1_rptr rfl rfl rfl rfl)⟩, ?_⟩ | refine ⟨_, .inr ⟨rfl, _, rfl, .inl rfl, loc_q (q_load1_rptr rfl rfl (by assumption) rfl)⟩, ?_⟩ | refine ⟨_, .inr ⟨rfl, _, rfl, .inl rfl, loc_q (q_load1_rptr rfl rfl (mapAt (by first | assumption | omega)) rfl)⟩, ?_⟩
          first | refine ⟨_, .inr ⟨rfl, _, rfl, .inl rfl, loc_q (q_ldN rfl rfl rfl)⟩, ?_⟩ | refine ⟨_, .inr ⟨rfl, _, rfl, .inl rfl, loc_q (q_loadN_ip rfl (Nat.le_refl _))⟩, ?_⟩ | refine ⟨_, .inr ⟨rfl, _, rfl, .inl rfl, loc_q (q_loadN_ip rfl (by decide))⟩, ?_⟩ | refine ⟨_, .inr ⟨rfl, _, rfl, .inl rfl, loc_q (q_loadN_rptr rfl rfl (by assumption) (by decide))⟩, ?_⟩ | refine ⟨_, .inr ⟨rfl, _, rfl, .inl rfl, loc_q (q_loadN_rptr rfl rfl (mapAt (by first | assumption | omega)) (by decide))⟩, ?_⟩
          first | refine ⟨_, .inr ⟨rfl, _, rfl, .inl rfl, loc_bslice rfl⟩, ?_⟩
          refine ⟨⟨76, _, []⟩, .inl ⟨rfl, rfl, rfl, locl_app rfl rfl (by simp) rfl (fun _ _ h => src_osl (h _ _ rfl) (by simp)) (.inr (by rw [hmv]; rfl)) (hbnd (by omega) (by simp) (by decide)) (n' := (l.Held ++ [x]).length) (by simp) (app1 rfl)⟩, ?_⟩
          refine ⟨rfl, ?_⟩
          first | refine ax_q (q_nilck_ptr rfl) ?_ | refine ax_q (q_nilck_rptr rfl) ?_ | refine ax_q (q_nilck_ip rfl) ?_
          first | refine ax_q (q_fadr_ptr rfl) ?_ | refine ax_q (q_fadr_rptr rfl) ?_ | refine ax_q (q_fadr_ip rfl) ?_
          refine ax_e (e_st rfl rfl rfl rfl rfl rfl rfl) ?_
          refine ax_nil ?_
          refine cx_keep rfl rfl ?_
          refine cx_seq ?_
          refine cx_ops ?_
          refine ax_q (q_mov rfl) ?_
          refine ax_nil ?_
          refine cx_keep rfl rfl ?_
          refine cx_ret (retN id [1000, 1001, 1002] rfl rfl rfl rfl rfl ?_)
          rw [takeL_3 h0 h4a h4b]; exact ⟨rfl, rfl⟩
        · have h4 := dF h4
          have h4 : ¬ (clashW (calm l x.Tx) x l.Held.length).length = 0 := by omega
          refine cx_seq ?_
          refine cx_ops ?_
          refine ax_q (q_mov rfl) ?_
          first | refine ax_q (q_nilck_ptr rfl) ?_ | refine ax_q (q_nilck_rptr rfl) ?_ | refine ax_q (q_nilck_ip rfl) ?_
          first | refine ax_q (q_fadr_ptr rfl) ?_ | refine ax_q (q_fadr_rptr rfl) ?_ | refine ax_q (q_fadr_ip rfl) ?_
          first | refine ax_q (q_load1_ptr rfl rfl rfl) ?_ | refine ax_q (q_load1_ip rfl) ?_ | refine ax_q (q_load1_rptr rfl rfl rfl rfl) ?_ | refine ax_q (q_load1_rptr rfl rfl (by assumption) rfl) ?_ | refine ax_q (q_load1_rptr rfl rfl (mapAt (by first | assumption | omega)) rfl) ?_
          first | refine ax_q (q_lenS_map rfl) ?_ | refine ax_q (q_lenS_osl rfl) ?_ | refine ax_q (q_lenS_zs rfl) ?_ | refine ax_q (q_lenS rfl) ?_
          refine ax_q (q_mov rfl) ?_
          first | refine ax_q (q_lenS_map rfl) ?_ | refine ax_q (q_lenS_osl rfl) ?_ | refine ax_q (q_lenS_zs rfl) ?_ | refine ax_q (q_lenS rfl) ?_
          refine ax_q (q_add rfl rfl (by omega)) ?_
          refine ax_q (q_ibin rfl rfl rfl) ?_
          refine ax_q (q_mov rfl) ?_
          refine ax_nil ?_
          refine cx_keep rfl rfl ?_
          refine cx_cond rfl (fun h5 => ?_) (fun h5 => ?_)
          · have h5 := dT h5
            have h5 : 100 < (calm l x.Tx).Waits.length + (clashW (calm l x.Tx) x l.Held.length).length := by omega
            refine cx_seq ?_
            refine cx_ops ?_
            refine ax_q (q_mov rfl) ?_
            refine ax_nil ?_
            refine cx_keep rfl rfl ?_
            refine cx_ret (retN id [1000, 1001, 1002] rfl rfl rfl rfl rfl ?_)
            rw [takeL_4 h0 h4 h5]; exact ⟨rfl, rfl⟩
          · have h5 := dF h5
            have h5 : ¬ 100 < (calm l x.Tx).Waits.length + (clashW (calm l x.Tx) x l.Held.length).length := by omega
            refine cx_skip ?_
            refine cx_keep rfl rfl ?_
            refine cx_seq ?_
            refine cx_drawL 0 89 (fun _ => false) (fun _ => true) [] ([]) [[0], [89], [90], [91], [0], [93], [94], [95], [5], [96, 97], [98], [92, 99], []] [[], [], [], [], [], [], [], [], [], [], [], [], []] rfl ?_
            first | refine ⟨⟨89, _, []⟩, .inl ⟨rfl, rfl, rfl, locl_of (loc_q (q_mov rfl))⟩, ?_⟩
            first | refine ⟨_, .inr ⟨rfl, _, rfl, .inr ⟨rfl, rfl, .inl rfl, rfl, rfl⟩, loc_q (q_nilck_ptr rfl)⟩, ?_⟩ | refine ⟨_, .inr ⟨rfl, _, rfl, .inr ⟨rfl, rfl, .inl rfl, rfl, rfl⟩, loc_q (q_nilck_rptr rfl)⟩, ?_⟩ | refine ⟨_, .inr ⟨rfl, _, rfl, .inr ⟨rfl, rfl, .inl rfl, rfl, rfl⟩, loc_q (q_nilck_ip rfl)⟩, ?_⟩
            first | refine ⟨_, .inr ⟨rfl, _, rfl, .inr ⟨rfl, rfl, .inl rfl, rfl, rfl⟩, loc_q (q_fadr_ptr rfl)⟩, ?_⟩ | refine ⟨_, .inr ⟨rfl, _, rfl, .inr ⟨rfl, rfl, .inl rfl, rfl, rfl⟩, loc_q (q_fadr_rptr rfl)⟩, ?_⟩ | refine ⟨_, .inr ⟨rfl, _, rfl, .inr ⟨rfl, rfl, .inl rfl, rfl, rfl⟩, loc_q (q_fadr_ip rfl)⟩, ?_⟩
            first | refine ⟨_, .inr ⟨rfl, _, rfl, .inr ⟨rfl, rfl, .inl rfl, rfl, rfl⟩, loc_q (q_load1_ptr rfl rfl rfl)⟩, ?_⟩ | refine ⟨_, .inr ⟨rfl, _, rfl, .inr ⟨rfl, rfl, .inl rfl, rfl, rfl⟩, loc_q (q_load1_ip rfl)⟩, ?_⟩ | refine ⟨_, .inr ⟨rfl, _, rfl, .inr ⟨rfl, rfl, .inl rfl, rfl, rfl⟩, loc_q (q_load1_rptr rfl rfl rfl rfl)⟩, ?_⟩ | refine ⟨_, .inr ⟨rfl, _, rfl, .inr ⟨rfl, rfl, .inl rfl, rfl, rfl⟩, loc_q (q_load1_rptr rfl rfl (by assumption) rfl)⟩, ?_⟩ | refine ⟨_, .inr ⟨rfl, _, rfl, .inr ⟨rfl, rfl, .inl rfl, rfl, rfl⟩, loc_q (q_load1_rptr rfl rfl (mapAt (by first | assumption | omega)) rfl)⟩, ?_⟩
            first | refine ⟨_, .inr ⟨rfl, _, rfl, .inr ⟨rfl, rfl, .inr rfl, rfl, rfl⟩, loc_q (q_mov rfl)⟩, ?_⟩
            first | refine ⟨_, .inr ⟨rfl, _, rfl, .inr ⟨rfl, rfl, .inr rfl, rfl, rfl⟩, loc_q (q_nilck_ptr rfl)⟩, ?_⟩ | refine ⟨_, .inr ⟨rfl, _, rfl, .inr ⟨rfl, rfl, .inr rfl, rfl, rfl⟩, loc_q (q_nilck_rptr rfl)⟩, ?_⟩ | refine ⟨_, .inr ⟨rfl, _, rfl, .inr ⟨rfl, rfl, .inr rfl, rfl, rfl⟩, loc_q (q_nilck_ip rfl)⟩, ?_⟩
            first | refine ⟨_, .inr ⟨rfl, _, rfl, .inr ⟨rfl, rfl, .inr rfl, rfl, rfl⟩, loc_q (q_fadr_ptr rfl)⟩, ?_⟩ | refine ⟨_, .inr ⟨rfl, _, rfl, .inr ⟨rfl, rfl, .inr rfl, rfl, rfl⟩, loc_q (q_fadr_rptr rfl)⟩, ?_⟩ | refine ⟨_, .inr ⟨rfl, _, rfl, .inr ⟨rfl, rfl, .inr rfl, rfl, rfl⟩, loc_q (q_fadr_ip rfl)⟩, ?_⟩
            first | refine ⟨_, .inr ⟨rfl, _, rfl, .inr ⟨rfl, rfl, .inr rfl, rfl, rfl⟩, loc_q (q_load1_ptr rfl rfl rfl)⟩, ?_⟩ | refine ⟨_, .inr ⟨rfl, _, rfl, .inr ⟨rfl, rfl, .inr rfl, rfl, rfl⟩, loc_q (q_load1_ip rfl)⟩, ?_⟩ | refine ⟨_, .inr ⟨rfl, _, rfl, .inr ⟨rfl, rfl, .inr rfl, rfl, rfl⟩, loc_q (q_load1_rptr rfl rfl rfl rfl)⟩, ?_⟩ | refine ⟨_, .inr ⟨rfl, _, rfl, .inr ⟨rfl, rfl, .inr rfl, rfl, rfl⟩, loc_q (q_load1_rptr rfl rfl (by assumption) rfl)⟩, ?_⟩ | refine ⟨_, .inr ⟨rfl, _, rfl, .inr ⟨rfl, rfl, .inr rfl, rfl, rfl⟩, loc_q (q_load1_rptr rfl rfl (mapAt (by first | assumption | omega)) rfl)⟩, ?_⟩
            first | refine ⟨_, .inr ⟨rfl, _, rfl, .inr ⟨rfl, rfl, .inr rfl, rfl, rfl⟩, loc_q (q_mov rfl)⟩, ?_⟩
            first | refine ⟨_, .inr ⟨rfl, _, rfl, .inr ⟨rfl, rfl, .inr rfl, rfl, rfl⟩, loc_bsliceB rfl rfl rfl⟩, ?_⟩
            first | refine ⟨_, .inr ⟨rfl, _, rfl, .inr ⟨rfl, rfl, .inr rfl, rfl, rfl⟩, loc_call (fun _ => 99) true rfl (c_Concat_Wait (zs := [(calm l x.Tx).Waits, (clashW (calm l x.Tx) x l.Held.length)]) (by simp) (by simp; omega)) hP (.inl ⟨rfl, .cons (la_oslb rfl (.cons (lend_whole rfl (by rw [List.length_map])) (.cons (lend_whole rfl (by rw [List.length_map])) .nil)) rfl) .nil⟩) rfl rfl (fun _ => ⟨rfl, noisl_of ⟨noisl_map (fun _ => rfl), trivial⟩⟩)⟩, ?_⟩
            first | refine ⟨_, .inr ⟨rfl, _, rfl, .inr ⟨rfl, rfl, .inl rfl, rfl, rfl⟩, loc_q (q_build rfl)⟩, ?_⟩
            first | refine ⟨_, .inr ⟨rfl, _, rfl, .inr ⟨rfl, rfl, .inr rfl, rfl, rfl⟩, loc_alloc⟩, ?_⟩
            refine ⟨rfl, ?_⟩
            refine ax_e (e_st rfl rfl rfl rfl rfl rfl rfl) ?_
            refine ax_nil ?_
            refine cx_keep rfl rfl ?_
            refine cx_seq ?_
            refine cx_seq ?_
            refine cx_ops ?_
            first | refine ax_q (q_ldN rfl rfl rfl) ?_ | refine ax_q (q_loadN_ip rfl (Nat.le_refl _)) ?_ | refine ax_q (q_loadN_ip rfl (by decide)) ?_ | refine ax_q (q_loadN_rptr rfl rfl (by assumption) (by decide)) ?_ | refine ax_q (q_loadN_rptr rfl rfl (mapAt (by first | assumption | omega)) (by decide)) ?_
            first | refine ax_q (q_fadr_ptr rfl) ?_ | refine ax_q (q_fadr_rptr rfl) ?_ | refine ax_q (q_fadr_ip rfl) ?_
            first | refine ax_q (q_load1_ptr rfl rfl rfl) ?_ | refine ax_q (q_load1_ip rfl) ?_ | refine ax_q (q_load1_rptr rfl rfl rfl rfl) ?_ | refine ax_q (q_load1_rptr rfl rfl (by assumption) rfl) ?_ | refine ax_q (q_load1_rptr rfl rfl (mapAt (by first | assumption | omega)) rfl) ?_
            first | refine ax_q (q_fadr_ptr rfl) ?_ | refine ax_q (q_fadr_rptr rfl) ?_ | refine ax_q (q_fadr_ip rfl) ?_
            first | refine ax_q (q_load1_ptr rfl rfl rfl) ?_ | refine ax_q (q_load1_ip rfl) ?_ | refine ax_q (q_load1_rptr rfl rfl rfl rfl) ?_ | refine ax_q (q_load1_rptr rfl rfl (by assumption) rfl) ?_ | refine ax_q (q_load1_rptr rfl rfl (mapAt (by first | assumption | omega)) rfl) ?_
            have hfl : ([(calm l x.Tx).Waits, (clashW (calm l x.Tx) x l.Held.length)].flatten) = (calm l x.Tx).Waits ++ (clashW (calm l x.Tx) x l.Held.length) := by simp
            rw [hfl]
            have hsum : ((calm l x.Tx).Waits ++ (clashW (calm l x.Tx) x l.Held.length)).length ≤ 1048576 := by simp; omega
            first | refine ax_call rfl (vc_pure0 (c_leads (l := ⟨l.Held, (calm l x.Tx).Waits ++ (clashW (calm l x.Tx) x l.Held.length)⟩) (tx := x.Tx) ?_ ?_) hP rfl rfl ?_) | refine ax_call rfl (vc_lend0 (c_leads (l := ⟨l.Held, (calm l x.Tx).Waits ++ (clashW (calm l x.Tx) x l.Held.length)⟩) (tx := x.Tx) ?_ ?_) hP (by repeat (first | exact lal_id _ rfl | exact LAL.nil | refine LAL.cons ?_ ?_ | exact la_id _ rfl | exact LA.lend (lend_whole rfl (by first | (simp; done) | (rw [List.length_map]; rfl))) | refine LA.agg ?_ | refine LA.fn ?_ | refine LA.lend ?_ | exact Lend.d _ | exact Lend.zs _ | exact lend_whole rfl (by first | (simp; done) | (rw [List.length_map]; rfl)) | refine Lend.ptr rfl ?_ | refine Lend.fn ?_ | exact LendL.nil | refine LendL.cons ?_ ?_)) rfl rfl ?_)
            · first | assumption | omega | (simp; done) | (simp; omega)
            · first | assumption | omega | (simp; done) | (simp; omega)
            refine ax_nil ?_
            refine cx_keep rfl rfl ?_
            refine cx_cond rfl (fun h6 => ?_) (fun h6 => ?_)
            · skip
              refine cx_seq ?_
              refine cx_ops ?_
              refine ax_q (q_mov rfl) ?_
              refine ax_nil ?_
              refine cx_keep rfl rfl ?_
              refine cx_ret (retN id [1000, 1001, 1002] rfl rfl rfl rfl rfl ?_)
              rw [takeL_5 h0 h4 h5 h6]; exact ⟨rfl, rfl⟩
            · skip
              have h6 : ¬ roundB ((calm l x.Tx).Waits ++ (clashW (calm l x.Tx) x l.Held.length)) x.Tx = true := by rw [h6]; simp
              refine cx_skip ?_
              refine cx_keep rfl rfl ?_
              refine cx_seq ?_
              refine cx_ops ?_
              refine ax_q (q_mov rfl) ?_
              first | refine ax_q (q_fadr_ptr rfl) ?_ | refine ax_q (q_fadr_rptr rfl) ?_ | refine ax_q (q_fadr_ip rfl) ?_
              first | refine ax_q (q_load1_ptr rfl rfl rfl) ?_ | refine ax_q (q_load1_ip rfl) ?_ | refine ax_q (q_load1_rptr rfl rfl rfl rfl) ?_ | refine ax_q (q_load1_rptr rfl rfl (by assumption) rfl) ?_ | refine ax_q (q_load1_rptr rfl rfl (mapAt (by first | assumption | omega)) rfl) ?_
              first | refine ax_q (q_nilck_ptr rfl) ?_ | refine ax_q (q_nilck_rptr rfl) ?_ | refine ax_q (q_nilck_ip rfl) ?_
              first | refine ax_q (q_fadr_ptr rfl) ?_ | refine ax_q (q_fadr_rptr rfl) ?_ | refine ax_q (q_fadr_ip rfl) ?_
              refine ax_e (e_st rfl rfl rfl rfl rfl rfl rfl) ?_
              refine ax_nil ?_
              refine cx_keep rfl rfl ?_
              refine cx_seq ?_
              refine cx_ops ?_
              refine ax_q (q_mov rfl) ?_
              refine ax_nil ?_
              refine cx_keep rfl rfl ?_
              refine cx_wk (wk_swapM 99 1002 (.inl (by decide)) (.inr (by rw [hmv]; rfl))) ?_
              refine cx_ret (retN id [1000, 1001, 1002] rfl rfl rfl rfl rfl ?_)
              rw [takeL_6 h0 h4 h5 h6]; exact ⟨rfl, rfl⟩


/- loop.example/g00332/impl.TakeLock -/
def k_c_TakeLock : XCode :=
  .seq (.ops [.op (some 5) (.box (.t 0)),
     .op (some 10) (.alloc [.nils 4, .nils 2]),
     .op (some 11) (.mov (.k (.int .i64 0)))])
  (.keep [1, 2, 3, 4, 5, 10] (.seq (.ops [.op (some 15) (.mov (.t 1)),
     .op (some 16) (.mov (.t 2)),
     .op (some 17) (.mov (.t 3)),
     .op (some 18) (.mov (.t 4)),
     .op (some 19) (.build [.int .i64 0, .int .i64 0, .int .i64 0, .int .i64 0] [(0, 1, .t 15), (1, 1, .t 16), (2, 1, .t 17), (3, 1, .t 18)]),
     .op (some 12) (.alloc [.int .i64 0, .int .i64 0, .int .i64 0, .int .i64 0]),
     .op none (.store 4 (.t 12) (.t 19))])
  (.keep [5, 10, 12] (.seq (.block 0 (.seq (.ops [.op (some 21) (.loadN 2 (.t 5)),
       .call (some 22) 24 [.t 21],
       .op (some 23) (.not (.t 22)),
       .op (some 20) (.mov (.t 23))])
    (.keep [5, 10, 12, 20] (.cond (.t 20)
     (.seq (.ops [.op (some 24) (.build [.nils 4, .nils 2] []),
         .op none (.store 2 (.t 10) (.t 24)),
         .op (some 11) (.mov (.k (.int .i64 1)))])
      (.keep [10, 11] (.ret)))
     (.seq (.ops [.op (some 26) (.loadN 4 (.t 12)),
         .call (some 27) 48 [.t 26],
         .op (some 28) (.not (.t 27)),
         .op (some 25) (.mov (.t 28))])
      (.keep [5, 10, 12, 25] (.cond (.t 25)
       (.seq (.ops [.op (some 29) (.build [.nils 4, .nils 2] []),
           .op none (.store 2 (.t 10) (.t 29)),
           .op (some 11) (.mov (.k (.int .i64 4)))])
        (.keep [10, 11] (.ret)))
       (.skip))))))))
  (.keep [5, 10, 12] (.seq (.ops [.op (some 30) (.loadN 2 (.t 5)),
     .call (some 31) 30 [.t 30],
     .op (some 13) (.alloc [.nils 4, .nils 2]),
     .op none (.store 2 (.t 13) (.t 31))])
  (.keep [10, 12, 13] (.seq (.ops [.op (some 32) (.loadN 4 (.t 12)),
     .call (some 33) 49 [.t 13, .t 32],
     .op (some 14) (.mov (.t 33))])
  (.keep [10, 13, 14] (.seq (.ops [.op (some 34) (.loadN 2 (.t 13)),
     .call (some 35) 30 [.t 34],
     .op (some 36) (.mov (.t 14)),
     .op none (.store 2 (.t 10) (.t 35)),
     .op (some 11) (.mov (.t 36))])
  (.keep [10, 11] (.ret))))))))))))
theorem k_c_TakeLock_fits : fitsF Try.prog 19 ⟨37, k_c_TakeLock, [.cN 10 2, .t 11]⟩ = true := by kernel_rfl
theorem c_TakeLock {l : GLocks} {x : GLock} (hw0 : l.Held.length ≤ 1048576) (hw1 : l.Waits.length ≤ 1048576) : Con Try.prog noMv 19 [l.av, int x.Tx, int x.Table, int x.Row, int x.Mode] [] (fun r h => r = .tup [(takeLock l x).1.avO 0 1, int (takeLock l x).2] ∧ h = (takeLock l x).1.hO 0 1) := by
  refine con_of2 k_c_TakeLock_fits rfl fun C hP hmv => ?_
  unfold k_c_TakeLock
  refine cx_seq ?_
  refine cx_ops ?_
  refine ax_e (e_box rfl rfl (by decide) rfl rfl rfl) ?_
  refine ax_e (e_alloc (by decide) rfl rfl) ?_
  refine ax_q (q_mov rfl) ?_
  refine ax_nil ?_
  refine cx_keep rfl rfl ?_
  refine cx_seq ?_
  refine cx_ops ?_
  refine ax_q (q_mov rfl) ?_
  refine ax_q (q_mov rfl) ?_
  refine ax_q (q_mov rfl) ?_
  refine ax_q (q_mov rfl) ?_
  refine ax_q (q_build rfl) ?_
  refine ax_e (e_alloc (by decide) rfl rfl) ?_
  refine ax_e (e_st rfl rfl rfl rfl rfl rfl rfl) ?_
  refine ax_nil ?_
  refine cx_keep rfl rfl ?_
  refine cx_seq ?_
  refine cx_block ?_
  refine cx_seq ?_
  refine cx_ops ?_
  first | refine ax_q (q_ldN rfl rfl rfl) ?_ | refine ax_q (q_loadN_ip rfl (Nat.le_refl _)) ?_ | refine ax_q (q_loadN_ip rfl (by decide)) ?_ | refine ax_q (q_loadN_rptr rfl rfl (by assumption) (by decide)) ?_ | refine ax_q (q_loadN_rptr rfl rfl (mapAt (by first | assumption | omega)) (by decide)) ?_
  first | refine ax_call rfl (vc_pure0 (c_LocksOK  ?_ ?_) hP rfl rfl ?_) | refine ax_call rfl (vc_lend0 (c_LocksOK  ?_ ?_) hP (by repeat (first | exact lal_id _ rfl | exact LAL.nil | refine LAL.cons ?_ ?_ | exact la_id _ rfl | exact LA.lend (lend_whole rfl (by first | (simp; done) | (rw [List.length_map]; rfl))) | refine LA.agg ?_ | refine LA.fn ?_ | refine LA.lend ?_ | exact Lend.d _ | exact Lend.zs _ | exact lend_whole rfl (by first | (simp; done) | (rw [List.length_map]; rfl)) | refine Lend.ptr rfl ?_ | refine Lend.fn ?_ | exact LendL.nil | refine LendL.cons ?_ ?_)) rfl rfl ?_)
  · first | assumption | omega | (simp; done) | (simp; omega)
  · first | assumption | omega | (simp; done) | (simp; omega)
  refine ax_q (q_not rfl) ?_
  refine ax_q (q_mov rfl) ?_
  refine ax_nil ?_
  refine cx_keep rfl rfl ?_
  refine cx_cond rfl (fun h0 => ?_) (fun h0 => ?_)
  · have h0 := bT h0
    refine cx_seq ?_
    refine cx_ops ?_
    refine ax_q (q_build rfl) ?_
    refine ax_e (e_st rfl rfl rfl rfl rfl rfl rfl) ?_
    refine ax_q (q_mov rfl) ?_
    refine ax_nil ?_
    refine cx_keep rfl rfl ?_
    have e : takeLock l x = (.zero, 1) := by unfold takeLock; rw [if_pos h0]
    refine cx_wk (wk_virt 900 4 rfl rfl rfl) ?_
    refine cx_wk (wk_zsb 10 900 0 rfl rfl rfl) ?_
    refine cx_wk (wk_virt 901 2 rfl rfl rfl) ?_
    refine cx_wk (wk_zsb 10 901 1 rfl rfl rfl) ?_
    refine cx_ret (retN (fun e => bif Nat.beq e 901 then 1 else 0) [900, 901] rfl rfl rfl rfl rfl ?_)
    rw [e]; exact ⟨rfl, rfl⟩
  · have h0 := bF h0
    refine cx_seq ?_
    refine cx_ops ?_
    first | refine ax_q (q_ldN rfl rfl rfl) ?_ | refine ax_q (q_loadN_ip rfl (Nat.le_refl _)) ?_ | refine ax_q (q_loadN_ip rfl (by decide)) ?_ | refine ax_q (q_loadN_rptr rfl rfl (by assumption) (by decide)) ?_ | refine ax_q (q_loadN_rptr rfl rfl (mapAt (by first | assumption | omega)) (by decide)) ?_
    first | refine ax_call rfl (vc_pure0 (c_lockOK (a := x) ) hP rfl rfl ?_) | refine ax_call rfl (vc_lend0 (c_lockOK (a := x) ) hP (by repeat (first | exact lal_id _ rfl | exact LAL.nil | refine LAL.cons ?_ ?_ | exact la_id _ rfl | exact LA.lend (lend_whole rfl (by first | (simp; done) | (rw [List.length_map]; rfl))) | refine LA.agg ?_ | refine LA.fn ?_ | refine LA.lend ?_ | exact Lend.d _ | exact Lend.zs _ | exact lend_whole rfl (by first | (simp; done) | (rw [List.length_map]; rfl)) | refine Lend.ptr rfl ?_ | refine Lend.fn ?_ | exact LendL.nil | refine LendL.cons ?_ ?_)) rfl rfl ?_)
    refine ax_q (q_not rfl) ?_
    refine ax_q (q_mov rfl) ?_
    refine ax_nil ?_
    refine cx_keep rfl rfl ?_
    refine cx_cond rfl (fun h1 => ?_) (fun h1 => ?_)
    · have h1 := bT h1
      refine cx_seq ?_
      refine cx_ops ?_
      refine ax_q (q_build rfl) ?_
      refine ax_e (e_st rfl rfl rfl rfl rfl rfl rfl) ?_
      refine ax_q (q_mov rfl) ?_
      refine ax_nil ?_
      refine cx_keep rfl rfl ?_
      have e : takeLock l x = (.zero, 4) := by unfold takeLock; rw [if_neg (by rw [h0]; simp), if_pos h1]
      refine cx_wk (wk_virt 900 4 rfl rfl rfl) ?_
      refine cx_wk (wk_zsb 10 900 0 rfl rfl rfl) ?_
      refine cx_wk (wk_virt 901 2 rfl rfl rfl) ?_
      refine cx_wk (wk_zsb 10 901 1 rfl rfl rfl) ?_
      refine cx_ret (retN (fun e => bif Nat.beq e 901 then 1 else 0) [900, 901] rfl rfl rfl rfl rfl ?_)
      rw [e]; exact ⟨rfl, rfl⟩
    · have h1 := bF h1
      refine cx_skip ?_
      refine cx_keep rfl rfl ?_
      refine cx_seq ?_
      refine cx_ops ?_
      first | refine ax_q (q_ldN rfl rfl rfl) ?_ | refine ax_q (q_loadN_ip rfl (Nat.le_refl _)) ?_ | refine ax_q (q_loadN_ip rfl (by decide)) ?_ | refine ax_q (q_loadN_rptr rfl rfl (by assumption) (by decide)) ?_ | refine ax_q (q_loadN_rptr rfl rfl (mapAt (by first | assumption | omega)) (by decide)) ?_
      first | refine ax_call rfl (vc_pure (c_cloneL  ?_ ?_) hP rfl ?_) | refine ax_call rfl (vc_lend (c_cloneL  ?_ ?_) hP (by repeat (first | exact lal_id _ rfl | exact LAL.nil | refine LAL.cons ?_ ?_ | exact la_id _ rfl | exact LA.lend (lend_whole rfl (by first | (simp; done) | (rw [List.length_map]; rfl))) | refine LA.agg ?_ | refine LA.fn ?_ | refine LA.lend ?_ | exact Lend.d _ | exact Lend.zs _ | exact lend_whole rfl (by first | (simp; done) | (rw [List.length_map]; rfl)) | refine Lend.ptr rfl ?_ | refine Lend.fn ?_ | exact LendL.nil | refine LendL.cons ?_ ?_)) ?_)
      · first | assumption | omega | (simp; done) | (simp; omega)
      · first | assumption | omega | (simp; done) | (simp; omega)
      rintro r h ⟨rfl, rfl⟩
      refine ⟨fun i => 31 + 200 * i, [0, 1], ⟨rfl, rfl, rfl, rfl, rfl, (by first | exact (fun h => absurd h Bool.false_ne_true) | exact (fun _ => ⟨rfl, (noisl_of (by repeat (first | exact trivial | refine ⟨noisl_map (fun _ => rfl), ?_⟩ | refine ⟨?_, ?_⟩)))⟩))⟩, ?_⟩
      skip
      refine ax_e (e_alloc (by decide) rfl rfl) ?_
      refine ax_e (e_st rfl rfl rfl rfl rfl rfl rfl) ?_
      refine ax_nil ?_
      refine cx_keep rfl rfl ?_
      refine cx_seq ?_
      refine cx_ops ?_
      first | refine ax_q (q_ldN rfl rfl rfl) ?_ | refine ax_q (q_loadN_ip rfl (Nat.le_refl _)) ?_ | refine ax_q (q_loadN_ip rfl (by decide)) ?_ | refine ax_q (q_loadN_rptr rfl rfl (by assumption) (by decide)) ?_ | refine ax_q (q_loadN_rptr rfl rfl (mapAt (by first | assumption | omega)) (by decide)) ?_
      refine ax_call rfl (vcall_own (c_take (l := l) (x := x) hw0 hw1) hP hmv false (fun e => bif Nat.beq e 1000 then 13 else bif Nat.beq e 1001 then 31 else 231) [1000, 1001, 1002] ⟨rfl, rfl, rfl, rfl, ⟨rfl, rfl, rfl, trivial⟩, rfl, rfl, rfl⟩ (.pass rfl rfl (.pass rfl rfl .nil)) ?_)
      rintro r h ⟨rfl, rfl⟩
      refine ⟨fun e => bif Nat.beq e 1000 then 13 else bif Nat.beq e 1001 then 31 else 231, [], ⟨rfl, rfl, rfl, rfl, (mem3 rfl rfl rfl), rfl, rfl, fun h => absurd h Bool.false_ne_true⟩, ?_⟩
      have htl := @takeL_len l x
      refine ax_q (q_mov rfl) ?_
      refine ax_nil ?_
      refine cx_keep rfl rfl ?_
      refine cx_seq ?_
      refine cx_ops ?_
      first | refine ax_q (q_ldN rfl rfl rfl) ?_ | refine ax_q (q_loadN_ip rfl (Nat.le_refl _)) ?_ | refine ax_q (q_loadN_ip rfl (by decide)) ?_ | refine ax_q (q_loadN_rptr rfl rfl (by assumption) (by decide)) ?_ | refine ax_q (q_loadN_rptr rfl rfl (mapAt (by first | assumption | omega)) (by decide)) ?_
      have hlk := locksOK_held h0
      first | refine ax_call rfl (vc_pure (c_cloneL  ?_ ?_) hP rfl ?_) | refine ax_call rfl (vc_lend (c_cloneL  ?_ ?_) hP (by repeat (first | exact lal_id _ rfl | exact LAL.nil | refine LAL.cons ?_ ?_ | exact la_id _ rfl | exact LA.lend (lend_whole rfl (by first | (simp; done) | (rw [List.length_map]; rfl))) | refine LA.agg ?_ | refine LA.fn ?_ | refine LA.lend ?_ | exact Lend.d _ | exact Lend.zs _ | exact lend_whole rfl (by first | (simp; done) | (rw [List.length_map]; rfl)) | refine Lend.ptr rfl ?_ | refine Lend.fn ?_ | exact LendL.nil | refine LendL.cons ?_ ?_)) ?_)
      · first | assumption | omega | (simp; done) | (simp; omega)
      · first | assumption | omega | (simp; done) | (simp; omega)
      rintro r h ⟨rfl, rfl⟩
      refine ⟨fun i => 35 + 200 * i, [0, 1], ⟨rfl, rfl, rfl, rfl, rfl, (by first | exact (fun h => absurd h Bool.false_ne_true) | exact (fun _ => ⟨rfl, (noisl_of (by repeat (first | exact trivial | refine ⟨noisl_map (fun _ => rfl), ?_⟩ | refine ⟨?_, ?_⟩)))⟩))⟩, ?_⟩
      skip
      refine ax_q (q_mov rfl) ?_
      refine ax_e (e_st rfl rfl rfl rfl rfl rfl rfl) ?_
      refine ax_q (q_mov rfl) ?_
      refine ax_nil ?_
      refine cx_keep rfl rfl ?_
      refine cx_ret (retN (fun e => bif Nat.beq e 235 then 1 else 0) [35, 235] rfl rfl rfl rfl rfl ?_)
      rw [show takeLock l x = takeL l x from by unfold takeLock; rw [if_neg (by rw [h0]; simp), if_neg (by rw [h1]; simp)]]; exact ⟨rfl, rfl⟩


/- loop.example/g00332/spec.l01In -/
def k_c_l01In : XCode :=
  .seq (.ops [.op (some 6) (.mov (.k (.bool false)))])
  (.keep [0, 1, 2] (.seq (.ops [.op (some 7) (.mov (.t 1)),
     .op (some 8) (.mov (.t 0)),
     .op (some 9) (.bin .leq (.t 7) (.t 8)),
     .op (some 10) (.mov (.t 9)),
     .andor 14 true 3 10 [.op (some 11) (.mov (.t 0)), .op (some 12) (.mov (.t 2)), .op (some 13) (.bin .leq (.t 11) (.t 12))] (.t 13),
     .op (some 6) (.mov (.t 14))])
  (.keep [6] (.ret))))
theorem k_c_l01In_fits : fitsF Try.prog 33 ⟨15, k_c_l01In, [.t 6]⟩ = true := by kernel_rfl
theorem c_l01In {n lo hi : Int} : Con Try.prog noMv 33 [int n, int lo, int hi] [] (fun r h => r = bool (inR n lo hi) ∧ h = []) := by
  refine con_of2 k_c_l01In_fits rfl fun C hP hmv => ?_
  unfold k_c_l01In
  refine cx_seq ?_
  refine cx_ops ?_
  refine ax_q (q_mov rfl) ?_
  refine ax_nil ?_
  refine cx_keep rfl rfl ?_
  refine cx_seq ?_
  refine cx_ops ?_
  refine ax_q (q_mov rfl) ?_
  refine ax_q (q_mov rfl) ?_
  refine ax_q (q_ibin rfl rfl rfl) ?_
  refine ax_q (q_mov rfl) ?_
  apply ax_and rfl rfl
  · intro g
    have g := dT g
    refine ax_q (q_mov rfl) ?_
    refine ax_q (q_mov rfl) ?_
    refine ax_q (q_ibin rfl rfl rfl) ?_
    exact ax_nil ⟨rfl, by repeat (first | exact trivial | refine ⟨rfl, ?_⟩ | refine ⟨?_, ?_⟩)⟩
  refine ax_q (q_mov rfl) ?_
  refine ax_nil ?_
  refine cx_keep rfl rfl ?_
  refine cx_ret (ret0 rfl rfl ?_)
  exact ⟨rfl, rfl⟩


/- loop.example/g00332/spec.l06Ask -/
def k_c_l06Ask : XCode :=
  .seq (.ops [.op (some 8) (.mov (.k (.bool false)))])
  (.keep [0, 1, 2, 3] (.seq (.ops [.op (some 9) (.mov (.t 0)),
     .call (some 10) 33 [.t 9, .k (.int .i64 1), .k (.int .i64 60)],
     .op (some 11) (.mov (.t 10)),
     .andor 14 true 2 11 [.op (some 12) (.mov (.t 1)), .call (some 13) 33 [.t 12, .k (.int .i64 1), .k (.int .i64 3)]] (.t 13),
     .op (some 15) (.mov (.t 14)),
     .andor 18 true 6 15 [.op (some 16) (.mov (.t 2)), .call (some 17) 33 [.t 16, .k (.int .i64 (-1)), .k (.int .i64 1000)]] (.t 17),
     .op (some 19) (.mov (.t 18)),
     .andor 22 true 10 19 [.op (some 20) (.mov (.t 3)), .call (some 21) 33 [.t 20, .k (.int .i64 1), .k (.int .i64 4)]] (.t 21),
     .op (some 23) (.mov (.t 22)),
     .andor 30 true 14 23 [.op (some 24) (.mov (.t 2)), .op (some 25) (.bin .eql (.t 24) (.k (.int .i64 (-1)))), .op (some 26) (.mov (.t 25)), .andor 29 false 17 26 [.op (some 27) (.mov (.t 3)), .op (some 28) (.bin .geq (.t 27) (.k (.int .i64 3)))] (.t 28)] (.t 29),
     .op (some 8) (.mov (.t 30))])
  (.keep [8] (.ret))))
theorem k_c_l06Ask_fits : fitsF Try.prog 50 ⟨31, k_c_l06Ask, [.t 8]⟩ = true := by kernel_rfl
theorem c_l06Ask {a : GLock} : Con Try.prog noMv 50 [int a.Tx, int a.Table, int a.Row, int a.Mode] [] (fun r h => r = bool (lockOK a) ∧ h = []) := by
  refine con_of2 k_c_l06Ask_fits rfl fun C hP hmv => ?_
  unfold k_c_l06Ask
  refine cx_seq ?_
  refine cx_ops ?_
  refine ax_q (q_mov rfl) ?_
  refine ax_nil ?_
  refine cx_keep rfl rfl ?_
  refine cx_seq ?_
  refine cx_ops ?_
  refine ax_q (q_mov rfl) ?_
  first | refine ax_call rfl (vc_pure0 (c_l01In  ) hP rfl rfl ?_) | refine ax_call rfl (vc_lend0 (c_l01In  ) hP (by repeat (first | exact lal_id _ rfl | exact LAL.nil | refine LAL.cons ?_ ?_ | exact la_id _ rfl | exact LA.lend (lend_whole rfl (by first | (simp; done) | (rw [List.length_map]; rfl))) | refine LA.agg ?_ | refine LA.fn ?_ | refine LA.lend ?_ | exact Lend.d _ | exact Lend.zs _ | exact lend_whole rfl (by first | (simp; done) | (rw [List.length_map]; rfl)) | refine Lend.ptr rfl ?_ | refine Lend.fn ?_ | exact LendL.nil | refine LendL.cons ?_ ?_)) rfl rfl ?_)
  refine ax_q (q_mov rfl) ?_
  apply ax_and rfl rfl
  · intro g
    refine ax_q (q_mov rfl) ?_
    first | refine ax_call rfl (vc_pure0 (c_l01In  ) hP rfl rfl ?_) | refine ax_call rfl (vc_lend0 (c_l01In  ) hP (by repeat (first | exact lal_id _ rfl | exact LAL.nil | refine LAL.cons ?_ ?_ | exact la_id _ rfl | exact LA.lend (lend_whole rfl (by first | (simp; done) | (rw [List.length_map]; rfl))) | refine LA.agg ?_ | refine LA.fn ?_ | refine LA.lend ?_ | exact Lend.d _ | exact Lend.zs _ | exact lend_whole rfl (by first | (simp; done) | (rw [List.length_map]; rfl)) | refine Lend.ptr rfl ?_ | refine Lend.fn ?_ | exact LendL.nil | refine LendL.cons ?_ ?_)) rfl rfl ?_)
    exact ax_nil ⟨rfl, by repeat (first | exact trivial | refine ⟨rfl, ?_⟩ | refine ⟨?_, ?_⟩)⟩
  refine ax_q (q_mov rfl) ?_
  apply ax_and rfl rfl
  · intro g
    have g := (fun h => And.intro (id (and_T h).1) (id (and_T h).2)) g
    refine ax_q (q_mov rfl) ?_
    first | refine ax_call rfl (vc_pure0 (c_l01In  ) hP rfl rfl ?_) | refine ax_call rfl (vc_lend0 (c_l01In  ) hP (by repeat (first | exact lal_id _ rfl | exact LAL.nil | refine LAL.cons ?_ ?_ | exact la_id _ rfl | exact LA.lend (lend_whole rfl (by first | (simp; done) | (rw [List.length_map]; rfl))) | refine LA.agg ?_ | refine LA.fn ?_ | refine LA.lend ?_ | exact Lend.d _ | exact Lend.zs _ | exact lend_whole rfl (by first | (simp; done) | (rw [List.length_map]; rfl)) | refine Lend.ptr rfl ?_ | refine Lend.fn ?_ | exact LendL.nil | refine LendL.cons ?_ ?_)) rfl rfl ?_)
    exact ax_nil ⟨rfl, by repeat (first | exact trivial | refine ⟨rfl, ?_⟩ | refine ⟨?_, ?_⟩)⟩
  refine ax_q (q_mov rfl) ?_
  apply ax_and rfl rfl
  · intro g
    have g := (fun h => And.intro ((fun h => And.intro (id (and_T h).1) (id (and_T h).2)) (and_T h).1) (id (and_T h).2)) g
    refine ax_q (q_mov rfl) ?_
    first | refine ax_call rfl (vc_pure0 (c_l01In  ) hP rfl rfl ?_) | refine ax_call rfl (vc_lend0 (c_l01In  ) hP (by repeat (first | exact lal_id _ rfl | exact LAL.nil | refine LAL.cons ?_ ?_ | exact la_id _ rfl | exact LA.lend (lend_whole rfl (by first | (simp; done) | (rw [List.length_map]; rfl))) | refine LA.agg ?_ | refine LA.fn ?_ | refine LA.lend ?_ | exact Lend.d _ | exact Lend.zs _ | exact lend_whole rfl (by first | (simp; done) | (rw [List.length_map]; rfl)) | refine Lend.ptr rfl ?_ | refine Lend.fn ?_ | exact LendL.nil | refine LendL.cons ?_ ?_)) rfl rfl ?_)
    exact ax_nil ⟨rfl, by repeat (first | exact trivial | refine ⟨rfl, ?_⟩ | refine ⟨?_, ?_⟩)⟩
  refine ax_q (q_mov rfl) ?_
  apply ax_and rfl rfl
  · intro g
    have g := (fun h => And.intro ((fun h => And.intro ((fun h => And.intro (id (and_T h).1) (id (and_T h).2)) (and_T h).1) (id (and_T h).2)) (and_T h).1) (id (and_T h).2)) g
    refine ax_q (q_mov rfl) ?_
    refine ax_q (q_ibin rfl rfl rfl) ?_
    refine ax_q (q_mov rfl) ?_
    apply ax_or rfl rfl
    · intro g
      have g := dF g
      refine ax_q (q_mov rfl) ?_
      refine ax_q (q_ibin rfl rfl rfl) ?_
      exact ax_nil ⟨rfl, by repeat (first | exact trivial | refine ⟨rfl, ?_⟩ | refine ⟨?_, ?_⟩)⟩
    exact ax_nil ⟨rfl, by repeat (first | exact trivial | refine ⟨rfl, ?_⟩ | refine ⟨?_, ?_⟩)⟩
  refine ax_q (q_mov rfl) ?_
  refine ax_nil ?_
  refine cx_keep rfl rfl ?_
  refine cx_ret (ret0 rfl rfl ?_)
  exact ⟨congrArg AM.bool (by exact askEq a), rfl⟩


/- loop.example/g00332/spec.LocksOK -/
def k_c_sLocksOK : XCode :=
  .seq (.ops [.op (some 1) (.box (.t 0)),
     .op (some 2) (.mov (.k (.bool false)))])
  (.keep [1] (.seq (.seq (.ops [.op (some 9) (.fadr (.t 1) 0),
      .op (some 10) (.load1 (.t 9)),
      .op (some 11) (.lenS (.t 10)),
      .op (some 12) (.bin .gtr (.t 11) (.k (.int .i64 60))),
      .op (some 13) (.mov (.t 12)),
      .andor 18 false 4 13 [.op (some 14) (.fadr (.t 1) 1), .op (some 15) (.load1 (.t 14)), .op (some 16) (.lenS (.t 15)), .op (some 17) (.bin .gtr (.t 16) (.k (.int .i64 100)))] (.t 17)])
   (.keep [1, 18] (.cond (.t 18)
    (.seq (.ops [.op (some 2) (.mov (.k (.bool false)))])
     (.keep [2] (.ret)))
    (.skip))))
  (.keep [1] (.seq (.seq (.ops [.op (some 3) (.mov (.k (.int .i64 0)))])
   (.keep [1, 3] (.block 0 (.loop (.seq (.seq (.ops [.op (some 19) (.mov (.t 3)),
         .op (some 20) (.fadr (.t 1) 0),
         .op (some 21) (.load1 (.t 20)),
         .op (some 22) (.lenS (.t 21)),
         .op (some 23) (.bin .lss (.t 19) (.t 22))])
      (.keep [1, 3, 23] (.cond (.t 23)
       (.skip)
       (.exit 0))))
     (.keep [1, 3] (.seq (.block 1 (.seq (.ops [.op (some 26) (.fadr (.t 1) 0),
          .op (some 27) (.load1 (.t 26)),
          .op (some 28) (.mov (.t 3)),
          .op (some 29) (.iadr 4 (.t 27) (.t 28)),
          .op (some 30) (.loadN 4 (.t 29)),
          .op (some 4) (.alloc [.int .i64 0, .int .i64 0, .int .i64 0, .int .i64 0]),
          .op none (.store 4 (.t 4) (.t 30))])
       (.keep [1, 3, 4] (.seq (.seq (.ops [.op (some 31) (.fadr (.t 4) 0),
           .op (some 32) (.load1 (.t 31)),
           .op (some 33) (.fadr (.t 4) 1),
           .op (some 34) (.load1 (.t 33)),
           .op (some 35) (.fadr (.t 4) 2),
           .op (some 36) (.load1 (.t 35)),
           .op (some 37) (.fadr (.t 4) 3),
           .op (some 38) (.load1 (.t 37)),
           .call (some 39) 50 [.t 32, .t 34, .t 36, .t 38],
           .op (some 40) (.not (.t 39))])
        (.keep [1, 3, 4, 40] (.cond (.t 40)
         (.seq (.ops [.op (some 2) (.mov (.k (.bool false)))])
          (.keep [2] (.ret)))
         (.skip))))
       (.keep [1, 3, 4] (.seq (.ops [.op (some 5) (.mov (.k (.int .i64 0)))])
       (.keep [1, 3, 4, 5] (.block 2 (.loop (.seq (.seq (.ops [.op (some 41) (.mov (.t 5)),
             .op (some 42) (.mov (.t 3)),
             .op (some 43) (.bin .lss (.t 41) (.t 42))])
          (.keep [1, 3, 4, 5, 43] (.cond (.t 43)
           (.skip)
           (.exit 2))))
         (.keep [1, 3, 4, 5] (.seq (.block 3 (.seq (.ops [.op (some 46) (.fadr (.t 1) 0),
              .op (some 47) (.load1 (.t 46)),
              .op (some 48) (.mov (.t 5)),
              .op (some 49) (.iadr 4 (.t 47) (.t 48)),
              .op (some 50) (.loadN 4 (.t 49)),
              .op (some 6) (.alloc [.int .i64 0, .int .i64 0, .int .i64 0, .int .i64 0]),
              .op none (.store 4 (.t 6) (.t 50))])
           (.keep [1, 3, 4, 5, 6] (.seq (.ops [.op (some 51) (.fadr (.t 4) 1),
              .op (some 52) (.load1 (.t 51)),
              .op (some 53) (.fadr (.t 6) 1),
              .op (some 54) (.load1 (.t 53)),
              .op (some 55) (.bin .eql (.t 52) (.t 54)),
              .op (some 56) (.mov (.t 55)),
              .andor 62 true 5 56 [.op (some 57) (.fadr (.t 4) 2), .op (some 58) (.load1 (.t 57)), .op (some 59) (.fadr (.t 6) 2), .op (some 60) (.load1 (.t 59)), .op (some 61) (.bin .eql (.t 58) (.t 60))] (.t 61),
              .op (some 63) (.mov (.t 62)),
              .andor 82 true 12 63 [.op (some 64) (.loadN 4 (.t 4)), .op (some 65) (.loadN 4 (.t 6)), .op (some 66) (.eqs false [0, 0, 0, 0] (.t 64) (.t 65)), .op (some 67) (.mov (.t 66)), .andor 81 false 16 67 [.op (some 68) (.fadr (.t 4) 0), .op (some 69) (.load1 (.t 68)), .op (some 70) (.fadr (.t 6) 0), .op (some 71) (.load1 (.t 70)), .op (some 72) (.bin .neq (.t 69) (.t 71)), .op (some 73) (.mov (.t 72)), .andor 80 true 22 73 [.op (some 74) (.fadr (.t 4) 3), .op (some 75) (.load1 (.t 74)), .op (some 76) (.fadr (.t 6) 3), .op (some 77) (.load1 (.t 76)), .call (some 78) 70 [.t 75, .t 77], .op (some 79) (.not (.t 78))] (.t 79)] (.t 80)] (.t 81)])
           (.keep [1, 3, 4, 5, 82] (.cond (.t 82)
            (.seq (.ops [.op (some 2) (.mov (.k (.bool false)))])
             (.keep [2] (.ret)))
            (.skip)))))))
         (.keep [1, 3, 4, 5] (.ops [.op (some 44) (.mov (.t 5)),
           .op (some 45) (.bin .add (.t 44) (.k (.int .i64 1))),
           .op (some 5) (.mov (.t 45))]))))))))))))))
     (.keep [1, 3] (.ops [.op (some 24) (.mov (.t 3)),
       .op (some 25) (.bin .add (.t 24) (.k (.int .i64 1))),
       .op (some 3) (.mov (.t 25))])))))))))
  (.keep [1] (.seq (.seq (.ops [.op (some 7) (.mov (.k (.int .i64 0)))])
   (.keep [1, 7] (.block 4 (.loop (.seq (.seq (.ops [.op (some 83) (.mov (.t 7)),
         .op (some 84) (.fadr (.t 1) 1),
         .op (some 85) (.load1 (.t 84)),
         .op (some 86) (.lenS (.t 85)),
         .op (some 87) (.bin .lss (.t 83) (.t 86))])
      (.keep [1, 7, 87] (.cond (.t 87)
       (.skip)
       (.exit 4))))
     (.keep [1, 7] (.seq (.block 5 (.seq (.ops [.op (some 90) (.fadr (.t 1) 1),
          .op (some 91) (.load1 (.t 90)),
          .op (some 92) (.mov (.t 7)),
          .op (some 93) (.iadr 2 (.t 91) (.t 92)),
          .op (some 94) (.loadN 2 (.t 93)),
          .op (some 8) (.alloc [.int .i64 0, .int .i64 0]),
          .op none (.store 2 (.t 8) (.t 94))])
       (.keep [1, 7, 8] (.seq (.ops [.op (some 95) (.fadr (.t 8) 0),
          .op (some 96) (.load1 (.t 95)),
          .call (some 97) 33 [.t 96, .k (.int .i64 1), .k (.int .i64 60)],
          .op (some 98) (.not (.t 97)),
          .op (some 99) (.mov (.t 98)),
          .andor 104 false 4 99 [.op (some 100) (.fadr (.t 8) 1), .op (some 101) (.load1 (.t 100)), .call (some 102) 33 [.t 101, .k (.int .i64 1), .k (.int .i64 60)], .op (some 103) (.not (.t 102))] (.t 103),
          .op (some 105) (.mov (.t 104)),
          .andor 111 false 10 105 [.op (some 106) (.fadr (.t 8) 0), .op (some 107) (.load1 (.t 106)), .op (some 108) (.fadr (.t 8) 1), .op (some 109) (.load1 (.t 108)), .op (some 110) (.bin .eql (.t 107) (.t 109))] (.t 110)])
       (.keep [1, 7, 111] (.cond (.t 111)
        (.seq (.ops [.op (some 2) (.mov (.k (.bool false)))])
         (.keep [2] (.ret)))
        (.skip)))))))
     (.keep [1, 7] (.ops [.op (some 88) (.mov (.t 7)),
       .op (some 89) (.bin .add (.t 88) (.k (.int .i64 1))),
       .op (some 7) (.mov (.t 89))])))))))))
  (.keep [] (.seq (.ops [.op (some 2) (.mov (.k (.bool true)))])
  (.keep [2] (.ret))))))))))
theorem k_c_sLocksOK_fits : fitsF Try.prog 32 ⟨112, k_c_sLocksOK, [.t 2]⟩ = true := by kernel_rfl
theorem c_sLocksOK {l : GLocks} (hw0 : l.Held.length ≤ 1048576) (hw1 : l.Waits.length ≤ 1048576) (hl : wfL GLock.wf l.Held) : Con Try.prog noMv 32 [l.av] [] (fun r h => r = bool (locksOK l) ∧ h = []) := by
  refine con_of2 k_c_sLocksOK_fits rfl fun C hP hmv => ?_
  unfold k_c_sLocksOK
  refine cx_seq ?_
  refine cx_ops ?_
  refine ax_e (e_box rfl rfl (by decide) rfl rfl rfl) ?_
  refine ax_q (q_mov rfl) ?_
  refine ax_nil ?_
  refine cx_keep rfl rfl ?_
  refine cx_seq ?_
  refine cx_seq ?_
  refine cx_ops ?_
  first | refine ax_q (q_fadr_ptr rfl) ?_ | refine ax_q (q_fadr_rptr rfl) ?_ | refine ax_q (q_fadr_ip rfl) ?_
  first | refine ax_q (q_load1_ptr rfl rfl rfl) ?_ | refine ax_q (q_load1_ip rfl) ?_ | refine ax_q (q_load1_rptr rfl rfl rfl rfl) ?_ | refine ax_q (q_load1_rptr rfl rfl (by assumption) rfl) ?_ | refine ax_q (q_load1_rptr rfl rfl (mapAt (by first | assumption | omega)) rfl) ?_
  first | refine ax_q (q_lenS_map rfl) ?_ | refine ax_q (q_lenS_osl rfl) ?_ | refine ax_q (q_lenS_zs rfl) ?_ | refine ax_q (q_lenS rfl) ?_
  refine ax_q (q_ibin rfl rfl rfl) ?_
  refine ax_q (q_mov rfl) ?_
  apply ax_or rfl rfl
  · intro g
    have g := dF g
    first | refine ax_q (q_fadr_ptr rfl) ?_ | refine ax_q (q_fadr_rptr rfl) ?_ | refine ax_q (q_fadr_ip rfl) ?_
    first | refine ax_q (q_load1_ptr rfl rfl rfl) ?_ | refine ax_q (q_load1_ip rfl) ?_ | refine ax_q (q_load1_rptr rfl rfl rfl rfl) ?_ | refine ax_q (q_load1_rptr rfl rfl (by assumption) rfl) ?_ | refine ax_q (q_load1_rptr rfl rfl (mapAt (by first | assumption | omega)) rfl) ?_
    first | refine ax_q (q_lenS_map rfl) ?_ | refine ax_q (q_lenS_osl rfl) ?_ | refine ax_q (q_lenS_zs rfl) ?_ | refine ax_q (q_lenS rfl) ?_
    refine ax_q (q_ibin rfl rfl rfl) ?_
    exact ax_nil ⟨rfl, by repeat (first | exact trivial | refine ⟨rfl, ?_⟩ | refine ⟨?_, ?_⟩)⟩
  refine ax_nil ?_
  refine cx_keep rfl rfl ?_
  refine cx_cond rfl (fun h0 => ?_) (fun h0 => ?_)
  · have h0 := (fun h => (or_T h).imp dT dT) h0
    refine cx_seq ?_
    refine cx_ops ?_
    refine ax_q (q_mov rfl) ?_
    refine ax_nil ?_
    refine cx_keep rfl rfl ?_
    refine cx_ret (ret0 rfl rfl ?_)
    have e : locksOK l = false := by
      unfold locksOK
      rcases h0 with h | h
      · rw [decide_eq_false (show ¬ ((l.Held.length : Int) ≤ 60) from by omega)]; simp
      · rw [decide_eq_false (show ¬ ((l.Waits.length : Int) ≤ 100) from by omega)]; simp
    exact ⟨by rw [e]; rfl, rfl⟩
  · have h0 := (fun h => And.intro (dF (or_F h).1) (dF (or_F h).2)) h0
    refine cx_skip ?_
    refine cx_keep rfl rfl ?_
    refine cx_seq ?_
    refine cx_seq ?_
    refine cx_ops ?_
    refine ax_q (q_mov rfl) ?_
    refine ax_nil ?_
    refine cx_keep rfl rfl ?_
    refine cx_block ?_
    refine cx_loopU (fun n k => k ≤ l.Held.length ∧ n = l.Held.length - k ∧ allIx (okAt l.Held) k = true) (fun k : Nat => [(3, int k)]) (fun _ => [(1, .box [.d (.sl 4 (l.Held.map GLock.row)), .d (.sl 2 (l.Waits.map GWait.row))])]) ⟨_, 0, ⟨Nat.zero_le _, rfl, rfl⟩, by repeat (first | exact trivial | refine ⟨rfl, ?_⟩ | refine ⟨?_, ?_⟩)⟩ ?_
    rintro n k ⟨hk, rfl, ht⟩
    refine cx_seq ?_
    refine cx_seq ?_
    refine cx_ops ?_
    refine ax_q (q_mov rfl) ?_
    first | refine ax_q (q_fadr_ptr rfl) ?_ | refine ax_q (q_fadr_rptr rfl) ?_ | refine ax_q (q_fadr_ip rfl) ?_
    first | refine ax_q (q_load1_ptr rfl rfl rfl) ?_ | refine ax_q (q_load1_ip rfl) ?_ | refine ax_q (q_load1_rptr rfl rfl rfl rfl) ?_ | refine ax_q (q_load1_rptr rfl rfl (by assumption) rfl) ?_ | refine ax_q (q_load1_rptr rfl rfl (mapAt (by first | assumption | omega)) rfl) ?_
    first | refine ax_q (q_lenS_map rfl) ?_ | refine ax_q (q_lenS_osl rfl) ?_ | refine ax_q (q_lenS_zs rfl) ?_ | refine ax_q (q_lenS rfl) ?_
    refine ax_q (q_ibin rfl rfl rfl) ?_
    refine ax_nil ?_
    refine cx_keep rfl rfl ?_
    refine cx_cond rfl (fun h1 => ?_) (fun h1 => ?_)
    · have h1 := dT h1
      have h1x : k < l.Held.length := by omega
      refine cx_skip ?_
      refine cx_keep rfl rfl ?_
      refine cx_seq ?_
      refine cx_block ?_
      refine cx_seq ?_
      refine cx_ops ?_
      first | refine ax_q (q_fadr_ptr rfl) ?_ | refine ax_q (q_fadr_rptr rfl) ?_ | refine ax_q (q_fadr_ip rfl) ?_
      first | refine ax_q (q_load1_ptr rfl rfl rfl) ?_ | refine ax_q (q_load1_ip rfl) ?_ | refine ax_q (q_load1_rptr rfl rfl rfl rfl) ?_ | refine ax_q (q_load1_rptr rfl rfl (by assumption) rfl) ?_ | refine ax_q (q_load1_rptr rfl rfl (mapAt (by first | assumption | omega)) rfl) ?_
      refine ax_q (q_mov rfl) ?_
      refine ax_q (q_ix rfl rfl (mapAt h1x)) ?_
      first | refine ax_q (q_ldN rfl rfl rfl) ?_ | refine ax_q (q_loadN_ip rfl (Nat.le_refl _)) ?_ | refine ax_q (q_loadN_ip rfl (by decide)) ?_ | refine ax_q (q_loadN_rptr rfl rfl (by assumption) (by decide)) ?_ | refine ax_q (q_loadN_rptr rfl rfl (mapAt (by first | assumption | omega)) (by decide)) ?_
      refine ax_e (e_alloc (by decide) rfl rfl) ?_
      refine ax_e (e_st rfl rfl rfl rfl rfl rfl rfl) ?_
      refine ax_nil ?_
      refine cx_keep rfl rfl ?_
      refine cx_seq ?_
      refine cx_seq ?_
      refine cx_ops ?_
      first | refine ax_q (q_fadr_ptr rfl) ?_ | refine ax_q (q_fadr_rptr rfl) ?_ | refine ax_q (q_fadr_ip rfl) ?_
      first | refine ax_q (q_load1_ptr rfl rfl rfl) ?_ | refine ax_q (q_load1_ip rfl) ?_ | refine ax_q (q_load1_rptr rfl rfl rfl rfl) ?_ | refine ax_q (q_load1_rptr rfl rfl (by assumption) rfl) ?_ | refine ax_q (q_load1_rptr rfl rfl (mapAt (by first | assumption | omega)) rfl) ?_
      first | refine ax_q (q_fadr_ptr rfl) ?_ | refine ax_q (q_fadr_rptr rfl) ?_ | refine ax_q (q_fadr_ip rfl) ?_
      first | refine ax_q (q_load1_ptr rfl rfl rfl) ?_ | refine ax_q (q_load1_ip rfl) ?_ | refine ax_q (q_load1_rptr rfl rfl rfl rfl) ?_ | refine ax_q (q_load1_rptr rfl rfl (by assumption) rfl) ?_ | refine ax_q (q_load1_rptr rfl rfl (mapAt (by first | assumption | omega)) rfl) ?_
      first | refine ax_q (q_fadr_ptr rfl) ?_ | refine ax_q (q_fadr_rptr rfl) ?_ | refine ax_q (q_fadr_ip rfl) ?_
      first | refine ax_q (q_load1_ptr rfl rfl rfl) ?_ | refine ax_q (q_load1_ip rfl) ?_ | refine ax_q (q_load1_rptr rfl rfl rfl rfl) ?_ | refine ax_q (q_load1_rptr rfl rfl (by assumption) rfl) ?_ | refine ax_q (q_load1_rptr rfl rfl (mapAt (by first | assumption | omega)) rfl) ?_
      first | refine ax_q (q_fadr_ptr rfl) ?_ | refine ax_q (q_fadr_rptr rfl) ?_ | refine ax_q (q_fadr_ip rfl) ?_
      first | refine ax_q (q_load1_ptr rfl rfl rfl) ?_ | refine ax_q (q_load1_ip rfl) ?_ | refine ax_q (q_load1_rptr rfl rfl rfl rfl) ?_ | refine ax_q (q_load1_rptr rfl rfl (by assumption) rfl) ?_ | refine ax_q (q_load1_rptr rfl rfl (mapAt (by first | assumption | omega)) rfl) ?_
      first | refine ax_call rfl (vc_pure0 (c_l06Ask (a := l.Held[k]) ) hP rfl rfl ?_) | refine ax_call rfl (vc_lend0 (c_l06Ask (a := l.Held[k]) ) hP (by repeat (first | exact lal_id _ rfl | exact LAL.nil | refine LAL.cons ?_ ?_ | exact la_id _ rfl | exact LA.lend (lend_whole rfl (by first | (simp; done) | (rw [List.length_map]; rfl))) | refine LA.agg ?_ | refine LA.fn ?_ | refine LA.lend ?_ | exact Lend.d _ | exact Lend.zs _ | exact lend_whole rfl (by first | (simp; done) | (rw [List.length_map]; rfl)) | refine Lend.ptr rfl ?_ | refine Lend.fn ?_ | exact LendL.nil | refine LendL.cons ?_ ?_)) rfl rfl ?_)
      refine ax_q (q_not rfl) ?_
      refine ax_nil ?_
      refine cx_keep rfl rfl ?_
      refine cx_cond rfl (fun h2 => ?_) (fun h2 => ?_)
      · have h2 := bT h2
        refine cx_seq ?_
        refine cx_ops ?_
        refine ax_q (q_mov rfl) ?_
        refine ax_nil ?_
        refine cx_keep rfl rfl ?_
        refine cx_ret (ret0 rfl rfl ?_)
        exact ⟨by rw [show locksOK l = false from by unfold locksOK; rw [allIx_no h1x (by rw [okAt_get h1x, h2]; rfl)]; rfl]; rfl, rfl⟩
      · have h2 := bF h2
        refine cx_skip ?_
        refine cx_keep rfl rfl ?_
        refine cx_seq ?_
        refine cx_ops ?_
        refine ax_q (q_mov rfl) ?_
        refine ax_nil ?_
        refine cx_keep rfl rfl ?_
        refine cx_block ?_
        refine cx_loopU (fun n i => i ≤ k ∧ n = k - i ∧ ∀ j, j < i → ∀ x, l.Held[j]? = some x → twice l.Held[k] x = false) (fun i : Nat => [(5, int i)]) (fun _ => [(1, .box [.d (.sl 4 (l.Held.map GLock.row)), .d (.sl 2 (l.Waits.map GWait.row))]), (4, .box [.d (.int .i64 l.Held[k].Tx), .d (.int .i64 l.Held[k].Table), .d (.int .i64 l.Held[k].Row), .d (.int .i64 l.Held[k].Mode)])]) ⟨_, 0, ⟨Nat.zero_le _, rfl, fun j hj => by omega⟩, by repeat (first | exact trivial | refine ⟨rfl, ?_⟩ | refine ⟨?_, ?_⟩)⟩ ?_
        rintro n i ⟨hi, rfl, hb⟩
        refine cx_seq ?_
        refine cx_seq ?_
        refine cx_ops ?_
        refine ax_q (q_mov rfl) ?_
        refine ax_q (q_mov rfl) ?_
        refine ax_q (q_ibin rfl rfl rfl) ?_
        refine ax_nil ?_
        refine cx_keep rfl rfl ?_
        refine cx_cond rfl (fun h3 => ?_) (fun h3 => ?_)
        · have h3 := dT h3
          have h3x : i < l.Held.length := by omega
          refine cx_skip ?_
          refine cx_keep rfl rfl ?_
          refine cx_seq ?_
          refine cx_block ?_
          refine cx_seq ?_
          refine cx_ops ?_
          first | refine ax_q (q_fadr_ptr rfl) ?_ | refine ax_q (q_fadr_rptr rfl) ?_ | refine ax_q (q_fadr_ip rfl) ?_
          first | refine ax_q (q_load1_ptr rfl rfl rfl) ?_ | refine ax_q (q_load1_ip rfl) ?_ | refine ax_q (q_load1_rptr rfl rfl rfl rfl) ?_ | refine ax_q (q_load1_rptr rfl rfl (by assumption) rfl) ?_ | refine ax_q (q_load1_rptr rfl rfl (mapAt (by first | assumption | omega)) rfl) ?_
          refine ax_q (q_mov rfl) ?_
          refine ax_q (q_ix rfl rfl (mapAt h3x)) ?_
          first | refine ax_q (q_ldN rfl rfl rfl) ?_ | refine ax_q (q_loadN_ip rfl (Nat.le_refl _)) ?_ | refine ax_q (q_loadN_ip rfl (by decide)) ?_ | refine ax_q (q_loadN_rptr rfl rfl (by assumption) (by decide)) ?_ | refine ax_q (q_loadN_rptr rfl rfl (mapAt (by first | assumption | omega)) (by decide)) ?_
          refine ax_e (e_alloc (by decide) rfl rfl) ?_
          refine ax_e (e_st rfl rfl rfl rfl rfl rfl rfl) ?_
          refine ax_nil ?_
          refine cx_keep rfl rfl ?_
          refine cx_seq ?_
          refine cx_ops ?_
          first | refine ax_q (q_fadr_ptr rfl) ?_ | refine ax_q (q_fadr_rptr rfl) ?_ | refine ax_q (q_fadr_ip rfl) ?_
          first | refine ax_q (q_load1_ptr rfl rfl rfl) ?_ | refine ax_q (q_load1_ip rfl) ?_ | refine ax_q (q_load1_rptr rfl rfl rfl rfl) ?_ | refine ax_q (q_load1_rptr rfl rfl (by assumption) rfl) ?_ | refine ax_q (q_load1_rptr rfl rfl (mapAt (by first | assumption | omega)) rfl) ?_
          first | refine ax_q (q_fadr_ptr rfl) ?_ | refine ax_q (q_fadr_rptr rfl) ?_ | refine ax_q (q_fadr_ip rfl) ?_
          first | refine ax_q (q_load1_ptr rfl rfl rfl) ?_ | refine ax_q (q_load1_ip rfl) ?_ | refine ax_q (q_load1_rptr rfl rfl rfl rfl) ?_ | refine ax_q (q_load1_rptr rfl rfl (by assumption) rfl) ?_ | refine ax_q (q_load1_rptr rfl rfl (mapAt (by first | assumption | omega)) rfl) ?_
          refine ax_q (q_ibin rfl rfl rfl) ?_
          refine ax_q (q_mov rfl) ?_
          apply ax_and rfl rfl
          · intro g
            have g := dT g
            first | refine ax_q (q_fadr_ptr rfl) ?_ | refine ax_q (q_fadr_rptr rfl) ?_ | refine ax_q (q_fadr_ip rfl) ?_
            first | refine ax_q (q_load1_ptr rfl rfl rfl) ?_ | refine ax_q (q_load1_ip rfl) ?_ | refine ax_q (q_load1_rptr rfl rfl rfl rfl) ?_ | refine ax_q (q_load1_rptr rfl rfl (by assumption) rfl) ?_ | refine ax_q (q_load1_rptr rfl rfl (mapAt (by first | assumption | omega)) rfl) ?_
            first | refine ax_q (q_fadr_ptr rfl) ?_ | refine ax_q (q_fadr_rptr rfl) ?_ | refine ax_q (q_fadr_ip rfl) ?_
            first | refine ax_q (q_load1_ptr rfl rfl rfl) ?_ | refine ax_q (q_load1_ip rfl) ?_ | refine ax_q (q_load1_rptr rfl rfl rfl rfl) ?_ | refine ax_q (q_load1_rptr rfl rfl (by assumption) rfl) ?_ | refine ax_q (q_load1_rptr rfl rfl (mapAt (by first | assumption | omega)) rfl) ?_
            refine ax_q (q_ibin rfl rfl rfl) ?_
            exact ax_nil ⟨rfl, by repeat (first | exact trivial | refine ⟨rfl, ?_⟩ | refine ⟨?_, ?_⟩)⟩
          refine ax_q (q_mov rfl) ?_
          apply ax_and rfl rfl
          · intro g
            have g := (fun h => And.intro (dT (and_T h).1) (dT (and_T h).2)) g
            first | refine ax_q (q_ldN rfl rfl rfl) ?_ | refine ax_q (q_loadN_ip rfl (Nat.le_refl _)) ?_ | refine ax_q (q_loadN_ip rfl (by decide)) ?_ | refine ax_q (q_loadN_rptr rfl rfl (by assumption) (by decide)) ?_ | refine ax_q (q_loadN_rptr rfl rfl (mapAt (by first | assumption | omega)) (by decide)) ?_
            first | refine ax_q (q_ldN rfl rfl rfl) ?_ | refine ax_q (q_loadN_ip rfl (Nat.le_refl _)) ?_ | refine ax_q (q_loadN_ip rfl (by decide)) ?_ | refine ax_q (q_loadN_rptr rfl rfl (by assumption) (by decide)) ?_ | refine ax_q (q_loadN_rptr rfl rfl (mapAt (by first | assumption | omega)) (by decide)) ?_
            first | refine ax_q (GLock.q_eqs rfl rfl) ?_ | refine ax_q (q_eqs rfl rfl rfl) ?_
            refine ax_q (q_mov rfl) ?_
            apply ax_or rfl rfl
            · intro g
              first | refine ax_q (q_fadr_ptr rfl) ?_ | refine ax_q (q_fadr_rptr rfl) ?_ | refine ax_q (q_fadr_ip rfl) ?_
              first | refine ax_q (q_load1_ptr rfl rfl rfl) ?_ | refine ax_q (q_load1_ip rfl) ?_ | refine ax_q (q_load1_rptr rfl rfl rfl rfl) ?_ | refine ax_q (q_load1_rptr rfl rfl (by assumption) rfl) ?_ | refine ax_q (q_load1_rptr rfl rfl (mapAt (by first | assumption | omega)) rfl) ?_
              first | refine ax_q (q_fadr_ptr rfl) ?_ | refine ax_q (q_fadr_rptr rfl) ?_ | refine ax_q (q_fadr_ip rfl) ?_
              first | refine ax_q (q_load1_ptr rfl rfl rfl) ?_ | refine ax_q (q_load1_ip rfl) ?_ | refine ax_q (q_load1_rptr rfl rfl rfl rfl) ?_ | refine ax_q (q_load1_rptr rfl rfl (by assumption) rfl) ?_ | refine ax_q (q_load1_rptr rfl rfl (mapAt (by first | assumption | omega)) rfl) ?_
              refine ax_q (q_ibin rfl rfl rfl) ?_
              refine ax_q (q_mov rfl) ?_
              apply ax_and rfl rfl
              · intro g
                have g := nT g
                first | refine ax_q (q_fadr_ptr rfl) ?_ | refine ax_q (q_fadr_rptr rfl) ?_ | refine ax_q (q_fadr_ip rfl) ?_
                first | refine ax_q (q_load1_ptr rfl rfl rfl) ?_ | refine ax_q (q_load1_ip rfl) ?_ | refine ax_q (q_load1_rptr rfl rfl rfl rfl) ?_ | refine ax_q (q_load1_rptr rfl rfl (by assumption) rfl) ?_ | refine ax_q (q_load1_rptr rfl rfl (mapAt (by first | assumption | omega)) rfl) ?_
                first | refine ax_q (q_fadr_ptr rfl) ?_ | refine ax_q (q_fadr_rptr rfl) ?_ | refine ax_q (q_fadr_ip rfl) ?_
                first | refine ax_q (q_load1_ptr rfl rfl rfl) ?_ | refine ax_q (q_load1_ip rfl) ?_ | refine ax_q (q_load1_rptr rfl rfl rfl rfl) ?_ | refine ax_q (q_load1_rptr rfl rfl (by assumption) rfl) ?_ | refine ax_q (q_load1_rptr rfl rfl (mapAt (by first | assumption | omega)) rfl) ?_
                first | refine ax_call rfl (vc_pure0 (c_l06Fit  ) hP rfl rfl ?_) | refine ax_call rfl (vc_lend0 (c_l06Fit  ) hP (by repeat (first | exact lal_id _ rfl | exact LAL.nil | refine LAL.cons ?_ ?_ | exact la_id _ rfl | exact LA.lend (lend_whole rfl (by first | (simp; done) | (rw [List.length_map]; rfl))) | refine LA.agg ?_ | refine LA.fn ?_ | refine LA.lend ?_ | exact Lend.d _ | exact Lend.zs _ | exact lend_whole rfl (by first | (simp; done) | (rw [List.length_map]; rfl)) | refine Lend.ptr rfl ?_ | refine Lend.fn ?_ | exact LendL.nil | refine LendL.cons ?_ ?_)) rfl rfl ?_)
                refine ax_q (q_not rfl) ?_
                exact ax_nil ⟨rfl, by repeat (first | exact trivial | refine ⟨rfl, ?_⟩ | refine ⟨?_, ?_⟩)⟩
              exact ax_nil ⟨rfl, by repeat (first | exact trivial | refine ⟨rfl, ?_⟩ | refine ⟨?_, ?_⟩)⟩
            exact ax_nil ⟨rfl, by repeat (first | exact trivial | refine ⟨rfl, ?_⟩ | refine ⟨?_, ?_⟩)⟩
          refine ax_nil ?_
          refine cx_keep rfl rfl ?_
          refine cx_cond rfl (fun h4 => ?_) (fun h4 => ?_)
          · have h4 : twice l.Held[k] l.Held[i] = true := by rw [← twice_eq]; exact h4
            refine cx_seq ?_
            refine cx_ops ?_
            refine ax_q (q_mov rfl) ?_
            refine ax_nil ?_
            refine cx_keep rfl rfl ?_
            refine cx_ret (ret0 rfl rfl ?_)
            exact ⟨by rw [show locksOK l = false from by unfold locksOK; rw [allIx_no h1x (by rw [okAt_get h1x, any_take_hit (by omega) h3x h4]; simp)]; rfl]; rfl, rfl⟩
          · have h4 : twice l.Held[k] l.Held[i] = false := by rw [← twice_eq]; exact h4
            refine cx_skip ?_
            refine cx_keep rfl rfl ?_
            refine cx_ops ?_
            refine ax_q (q_mov rfl) ?_
            refine ax_qe (r' := int ((i + 1 : Nat) : Int)) (q_ibin rfl rfl rfl) (by rw [wi (by omega) (by omega)]; rfl) ?_
            refine ax_q (q_mov rfl) ?_
            refine ax_nil ?_
            exact ⟨_, i + 1, by omega, ⟨by omega, rfl, before_step h3x hb h4⟩, by repeat (first | exact trivial | refine ⟨rfl, ?_⟩ | refine ⟨?_, ?_⟩)⟩
        · have h3 := dF h3
          refine cx_exit rfl ?_
          refine cx_keep rfl rfl ?_
          refine cx_ops ?_
          refine ax_q (q_mov rfl) ?_
          refine ax_qe (r' := int ((k + 1 : Nat) : Int)) (q_ibin rfl rfl rfl) (by rw [wi (by omega) (by omega)]; rfl) ?_
          refine ax_q (q_mov rfl) ?_
          refine ax_nil ?_
          have h9 : okAt l.Held k = true := by rw [okAt_get h1x, h2, any_take (fun j hj => hb j (by omega))]; rfl
          exact ⟨_, k + 1, by omega, ⟨by omega, rfl, allIx_step ht h9⟩, by repeat (first | exact trivial | refine ⟨rfl, ?_⟩ | refine ⟨?_, ?_⟩)⟩
    · have h1 := dF h1
      have h1x : k = l.Held.length := by omega
      subst h1x
      refine cx_exit rfl ?_
      refine cx_keep rfl rfl ?_
      refine cx_seq ?_
      refine cx_seq ?_
      refine cx_ops ?_
      refine ax_q (q_mov rfl) ?_
      refine ax_nil ?_
      refine cx_keep rfl rfl ?_
      refine cx_block ?_
      refine cx_loopU (fun n k => k ≤ l.Waits.length ∧ n = l.Waits.length - k ∧ ∀ j, j < k → ∀ x, l.Waits[j]? = some x → badWait x = false) (fun k : Nat => [(7, int k)]) (fun _ => [(1, .box [.d (.sl 4 (l.Held.map GLock.row)), .d (.sl 2 (l.Waits.map GWait.row))])]) ⟨_, 0, ⟨Nat.zero_le _, rfl, fun j hj => by omega⟩, by repeat (first | exact trivial | refine ⟨rfl, ?_⟩ | refine ⟨?_, ?_⟩)⟩ ?_
      rintro n k ⟨hk, rfl, hb⟩
      refine cx_seq ?_
      refine cx_seq ?_
      refine cx_ops ?_
      refine ax_q (q_mov rfl) ?_
      first | refine ax_q (q_fadr_ptr rfl) ?_ | refine ax_q (q_fadr_rptr rfl) ?_ | refine ax_q (q_fadr_ip rfl) ?_
      first | refine ax_q (q_load1_ptr rfl rfl rfl) ?_ | refine ax_q (q_load1_ip rfl) ?_ | refine ax_q (q_load1_rptr rfl rfl rfl rfl) ?_ | refine ax_q (q_load1_rptr rfl rfl (by assumption) rfl) ?_ | refine ax_q (q_load1_rptr rfl rfl (mapAt (by first | assumption | omega)) rfl) ?_
      first | refine ax_q (q_lenS_map rfl) ?_ | refine ax_q (q_lenS_osl rfl) ?_ | refine ax_q (q_lenS_zs rfl) ?_ | refine ax_q (q_lenS rfl) ?_
      refine ax_q (q_ibin rfl rfl rfl) ?_
      refine ax_nil ?_
      refine cx_keep rfl rfl ?_
      refine cx_cond rfl (fun h5 => ?_) (fun h5 => ?_)
      · have h5 := dT h5
        have h5x : k < l.Waits.length := by omega
        refine cx_skip ?_
        refine cx_keep rfl rfl ?_
        refine cx_seq ?_
        refine cx_block ?_
        refine cx_seq ?_
        refine cx_ops ?_
        first | refine ax_q (q_fadr_ptr rfl) ?_ | refine ax_q (q_fadr_rptr rfl) ?_ | refine ax_q (q_fadr_ip rfl) ?_
        first | refine ax_q (q_load1_ptr rfl rfl rfl) ?_ | refine ax_q (q_load1_ip rfl) ?_ | refine ax_q (q_load1_rptr rfl rfl rfl rfl) ?_ | refine ax_q (q_load1_rptr rfl rfl (by assumption) rfl) ?_ | refine ax_q (q_load1_rptr rfl rfl (mapAt (by first | assumption | omega)) rfl) ?_
        refine ax_q (q_mov rfl) ?_
        refine ax_q (q_ix rfl rfl (mapAt h5x)) ?_
        first | refine ax_q (q_ldN rfl rfl rfl) ?_ | refine ax_q (q_loadN_ip rfl (Nat.le_refl _)) ?_ | refine ax_q (q_loadN_ip rfl (by decide)) ?_ | refine ax_q (q_loadN_rptr rfl rfl (by assumption) (by decide)) ?_ | refine ax_q (q_loadN_rptr rfl rfl (mapAt (by first | assumption | omega)) (by decide)) ?_
        refine ax_e (e_alloc (by decide) rfl rfl) ?_
        refine ax_e (e_st rfl rfl rfl rfl rfl rfl rfl) ?_
        refine ax_nil ?_
        refine cx_keep rfl rfl ?_
        refine cx_seq ?_
        refine cx_ops ?_
        first | refine ax_q (q_fadr_ptr rfl) ?_ | refine ax_q (q_fadr_rptr rfl) ?_ | refine ax_q (q_fadr_ip rfl) ?_
        first | refine ax_q (q_load1_ptr rfl rfl rfl) ?_ | refine ax_q (q_load1_ip rfl) ?_ | refine ax_q (q_load1_rptr rfl rfl rfl rfl) ?_ | refine ax_q (q_load1_rptr rfl rfl (by assumption) rfl) ?_ | refine ax_q (q_load1_rptr rfl rfl (mapAt (by first | assumption | omega)) rfl) ?_
        first | refine ax_call rfl (vc_pure0 (c_l01In  ) hP rfl rfl ?_) | refine ax_call rfl (vc_lend0 (c_l01In  ) hP (by repeat (first | exact lal_id _ rfl | exact LAL.nil | refine LAL.cons ?_ ?_ | exact la_id _ rfl | exact LA.lend (lend_whole rfl (by first | (simp; done) | (rw [List.length_map]; rfl))) | refine LA.agg ?_ | refine LA.fn ?_ | refine LA.lend ?_ | exact Lend.d _ | exact Lend.zs _ | exact lend_whole rfl (by first | (simp; done) | (rw [List.length_map]; rfl)) | refine Lend.ptr rfl ?_ | refine Lend.fn ?_ | exact LendL.nil | refine LendL.cons ?_ ?_)) rfl rfl ?_)
        refine ax_q (q_not rfl) ?_
        refine ax_q (q_mov rfl) ?_
        apply ax_or rfl rfl
        · intro g
          have g := bF g
          first | refine ax_q (q_fadr_ptr rfl) ?_ | refine ax_q (q_fadr_rptr rfl) ?_ | refine ax_q (q_fadr_ip rfl) ?_
          first | refine ax_q (q_load1_ptr rfl rfl rfl) ?_ | refine ax_q (q_load1_ip rfl) ?_ | refine ax_q (q_load1_rptr rfl rfl rfl rfl) ?_ | refine ax_q (q_load1_rptr rfl rfl (by assumption) rfl) ?_ | refine ax_q (q_load1_rptr rfl rfl (mapAt (by first | assumption | omega)) rfl) ?_
          first | refine ax_call rfl (vc_pure0 (c_l01In  ) hP rfl rfl ?_) | refine ax_call rfl (vc_lend0 (c_l01In  ) hP (by repeat (first | exact lal_id _ rfl | exact LAL.nil | refine LAL.cons ?_ ?_ | exact la_id _ rfl | exact LA.lend (lend_whole rfl (by first | (simp; done) | (rw [List.length_map]; rfl))) | refine LA.agg ?_ | refine LA.fn ?_ | refine LA.lend ?_ | exact Lend.d _ | exact Lend.zs _ | exact lend_whole rfl (by first | (simp; done) | (rw [List.length_map]; rfl)) | refine Lend.ptr rfl ?_ | refine Lend.fn ?_ | exact LendL.nil | refine LendL.cons ?_ ?_)) rfl rfl ?_)
          refine ax_q (q_not rfl) ?_
          exact ax_nil ⟨rfl, by repeat (first | exact trivial | refine ⟨rfl, ?_⟩ | refine ⟨?_, ?_⟩)⟩
        refine ax_q (q_mov rfl) ?_
        apply ax_or rfl rfl
        · intro g
          have g := (fun h => And.intro (bF (or_F h).1) (bF (or_F h).2)) g
          first | refine ax_q (q_fadr_ptr rfl) ?_ | refine ax_q (q_fadr_rptr rfl) ?_ | refine ax_q (q_fadr_ip rfl) ?_
          first | refine ax_q (q_load1_ptr rfl rfl rfl) ?_ | refine ax_q (q_load1_ip rfl) ?_ | refine ax_q (q_load1_rptr rfl rfl rfl rfl) ?_ | refine ax_q (q_load1_rptr rfl rfl (by assumption) rfl) ?_ | refine ax_q (q_load1_rptr rfl rfl (mapAt (by first | assumption | omega)) rfl) ?_
          first | refine ax_q (q_fadr_ptr rfl) ?_ | refine ax_q (q_fadr_rptr rfl) ?_ | refine ax_q (q_fadr_ip rfl) ?_
          first | refine ax_q (q_load1_ptr rfl rfl rfl) ?_ | refine ax_q (q_load1_ip rfl) ?_ | refine ax_q (q_load1_rptr rfl rfl rfl rfl) ?_ | refine ax_q (q_load1_rptr rfl rfl (by assumption) rfl) ?_ | refine ax_q (q_load1_rptr rfl rfl (mapAt (by first | assumption | omega)) rfl) ?_
          refine ax_q (q_ibin rfl rfl rfl) ?_
          exact ax_nil ⟨rfl, by repeat (first | exact trivial | refine ⟨rfl, ?_⟩ | refine ⟨?_, ?_⟩)⟩
        refine ax_nil ?_
        refine cx_keep rfl rfl ?_
        refine cx_cond rfl (fun h6 => ?_) (fun h6 => ?_)
        · have h6 : badWait l.Waits[k] = true := h6
          refine cx_seq ?_
          refine cx_ops ?_
          refine ax_q (q_mov rfl) ?_
          refine ax_nil ?_
          refine cx_keep rfl rfl ?_
          refine cx_ret (ret0 rfl rfl ?_)
          exact ⟨by rw [show locksOK l = false from by unfold locksOK; rw [any_hit h5x h6]; simp]; rfl, rfl⟩
        · have h6 : badWait l.Waits[k] = false := h6
          refine cx_skip ?_
          refine cx_keep rfl rfl ?_
          refine cx_ops ?_
          refine ax_q (q_mov rfl) ?_
          refine ax_qe (r' := int ((k + 1 : Nat) : Int)) (q_ibin rfl rfl rfl) (by rw [wi (by omega) (by omega)]; rfl) ?_
          refine ax_q (q_mov rfl) ?_
          refine ax_nil ?_
          exact ⟨_, k + 1, by omega, ⟨by omega, rfl, before_step h5x hb h6⟩, by repeat (first | exact trivial | refine ⟨rfl, ?_⟩ | refine ⟨?_, ?_⟩)⟩
      · have h5 := dF h5
        have h5x : k = l.Waits.length := by omega
        refine cx_exit rfl ?_
        refine cx_keep rfl rfl ?_
        refine cx_seq ?_
        refine cx_ops ?_
        refine ax_q (q_mov rfl) ?_
        refine ax_nil ?_
        refine cx_keep rfl rfl ?_
        refine cx_ret (ret0 rfl rfl ?_)
        exact ⟨by rw [show locksOK l = true from by unfold locksOK; rw [ht, any_all (fun i hi => hb i (by omega)), decide_eq_true (show (l.Held.length : Int) ≤ 60 by omega), decide_eq_true (show (l.Waits.length : Int) ≤ 100 by omega)]; rfl]; rfl, rfl⟩


/- loop.example/g00332/spec.TakeLock -/
def k_c_sTakeLock : XCode :=
  .seq (.ops [.op (some 5) (.box (.t 0)),
     .op (some 10) (.alloc [.nils 4, .nils 2]),
     .op (some 11) (.mov (.k (.int .i64 0)))])
  (.keep [1, 2, 3, 4, 5, 10] (.seq (.seq (.ops [.op (some 12) (.loadN 2 (.t 5)),
      .call (some 13) 32 [.t 12],
      .op (some 14) (.not (.t 13))])
   (.keep [1, 2, 3, 4, 5, 10, 14] (.cond (.t 14)
    (.seq (.ops [.op (some 15) (.build [.nils 4, .nils 2] []),
        .op none (.store 2 (.t 10) (.t 15)),
        .op (some 11) (.mov (.k (.int .i64 1)))])
     (.keep [10, 11] (.ret)))
    (.skip))))
  (.keep [1, 2, 3, 4, 5, 10] (.seq (.seq (.ops [.op (some 16) (.mov (.t 1)),
      .op (some 17) (.mov (.t 2)),
      .op (some 18) (.mov (.t 3)),
      .op (some 19) (.mov (.t 4)),
      .call (some 20) 50 [.t 16, .t 17, .t 18, .t 19],
      .op (some 21) (.not (.t 20))])
   (.keep [1, 2, 3, 4, 5, 10, 21] (.cond (.t 21)
    (.seq (.ops [.op (some 22) (.build [.nils 4, .nils 2] []),
        .op none (.store 2 (.t 10) (.t 22)),
        .op (some 11) (.mov (.k (.int .i64 4)))])
     (.keep [10, 11] (.ret)))
    (.skip))))
  (.keep [1, 2, 3, 4, 5, 10] (.seq (.ops [.op (some 23) (.loadN 2 (.t 5)),
     .op (some 24) (.mov (.t 1)),
     .op (some 25) (.mov (.t 2)),
     .op (some 26) (.mov (.t 3)),
     .op (some 27) (.mov (.t 4)),
     .call (some 28) 51 [.t 23, .t 24, .t 25, .t 26, .t 27],
     .op (some 29) (.ext (.t 28) 0),
     .op (some 30) (.ext (.t 28) 1),
     .op none (.store 2 (.t 10) (.t 29)),
     .op (some 11) (.mov (.t 30))])
  (.keep [10, 11] (.ret))))))))
theorem k_c_sTakeLock_fits : fitsF Try.prog 20 ⟨31, k_c_sTakeLock, [.cN 10 2, .t 11]⟩ = true := by kernel_rfl
theorem c_sTakeLock {l : GLocks} {x : GLock} (hw0 : l.Held.length ≤ 1048576) (hw1 : l.Waits.length ≤ 1048576) (hl : wfL GLock.wf l.Held) : Con Try.prog noMv 20 [l.av, int x.Tx, int x.Table, int x.Row, int x.Mode] [] (fun r h => r = .tup [(takeLock l x).1.avO 0 1, int (takeLock l x).2] ∧ h = (takeLock l x).1.hO 0 1) := by
  refine con_of2 k_c_sTakeLock_fits rfl fun C hP hmv => ?_
  unfold k_c_sTakeLock
  refine cx_seq ?_
  refine cx_ops ?_
  refine ax_e (e_box rfl rfl (by decide) rfl rfl rfl) ?_
  refine ax_e (e_alloc (by decide) rfl rfl) ?_
  refine ax_q (q_mov rfl) ?_
  refine ax_nil ?_
  refine cx_keep rfl rfl ?_
  refine cx_seq ?_
  refine cx_seq ?_
  refine cx_ops ?_
  first | refine ax_q (q_ldN rfl rfl rfl) ?_ | refine ax_q (q_loadN_ip rfl (Nat.le_refl _)) ?_ | refine ax_q (q_loadN_ip rfl (by decide)) ?_ | refine ax_q (q_loadN_rptr rfl rfl (by assumption) (by decide)) ?_ | refine ax_q (q_loadN_rptr rfl rfl (mapAt (by first | assumption | omega)) (by decide)) ?_
  first | refine ax_call rfl (vc_pure0 (c_sLocksOK  ?_ ?_ ?_) hP rfl rfl ?_) | refine ax_call rfl (vc_lend0 (c_sLocksOK  ?_ ?_ ?_) hP (by repeat (first | exact lal_id _ rfl | exact LAL.nil | refine LAL.cons ?_ ?_ | exact la_id _ rfl | exact LA.lend (lend_whole rfl (by first | (simp; done) | (rw [List.length_map]; rfl))) | refine LA.agg ?_ | refine LA.fn ?_ | refine LA.lend ?_ | exact Lend.d _ | exact Lend.zs _ | exact lend_whole rfl (by first | (simp; done) | (rw [List.length_map]; rfl)) | refine Lend.ptr rfl ?_ | refine Lend.fn ?_ | exact LendL.nil | refine LendL.cons ?_ ?_)) rfl rfl ?_)
  · first | assumption | omega | (simp; done) | (simp; omega)
  · first | assumption | omega | (simp; done) | (simp; omega)
  · first | assumption | omega | (simp; done) | (simp; omega)
  refine ax_q (q_not rfl) ?_
  refine ax_nil ?_
  refine cx_keep rfl rfl ?_
  refine cx_cond rfl (fun h0 => ?_) (fun h0 => ?_)
  · have h0 := bT h0
    refine cx_seq ?_
    refine cx_ops ?_
    refine ax_q (q_build rfl) ?_
    refine ax_e (e_st rfl rfl rfl rfl rfl rfl rfl) ?_
    refine ax_q (q_mov rfl) ?_
    refine ax_nil ?_
    refine cx_keep rfl rfl ?_
    have e : takeLock l x = (.zero, 1) := by unfold takeLock; rw [if_pos h0]
    refine cx_wk (wk_virt 900 4 rfl rfl rfl) ?_
    refine cx_wk (wk_zsb 10 900 0 rfl rfl rfl) ?_
    refine cx_wk (wk_virt 901 2 rfl rfl rfl) ?_
    refine cx_wk (wk_zsb 10 901 1 rfl rfl rfl) ?_
    refine cx_ret (retN (fun e => bif Nat.beq e 901 then 1 else 0) [900, 901] rfl rfl rfl rfl rfl ?_)
    rw [e]; exact ⟨rfl, rfl⟩
  · have h0 := bF h0
    refine cx_skip ?_
    refine cx_keep rfl rfl ?_
    refine cx_seq ?_
    refine cx_seq ?_
    refine cx_ops ?_
    refine ax_q (q_mov rfl) ?_
    refine ax_q (q_mov rfl) ?_
    refine ax_q (q_mov rfl) ?_
    refine ax_q (q_mov rfl) ?_
    first | refine ax_call rfl (vc_pure0 (c_l06Ask (a := x) ) hP rfl rfl ?_) | refine ax_call rfl (vc_lend0 (c_l06Ask (a := x) ) hP (by repeat (first | exact lal_id _ rfl | exact LAL.nil | refine LAL.cons ?_ ?_ | exact la_id _ rfl | exact LA.lend (lend_whole rfl (by first | (simp; done) | (rw [List.length_map]; rfl))) | refine LA.agg ?_ | refine LA.fn ?_ | refine LA.lend ?_ | exact Lend.d _ | exact Lend.zs _ | exact lend_whole rfl (by first | (simp; done) | (rw [List.length_map]; rfl)) | refine Lend.ptr rfl ?_ | refine Lend.fn ?_ | exact LendL.nil | refine LendL.cons ?_ ?_)) rfl rfl ?_)
    refine ax_q (q_not rfl) ?_
    refine ax_nil ?_
    refine cx_keep rfl rfl ?_
    refine cx_cond rfl (fun h1 => ?_) (fun h1 => ?_)
    · have h1 := bT h1
      refine cx_seq ?_
      refine cx_ops ?_
      refine ax_q (q_build rfl) ?_
      refine ax_e (e_st rfl rfl rfl rfl rfl rfl rfl) ?_
      refine ax_q (q_mov rfl) ?_
      refine ax_nil ?_
      refine cx_keep rfl rfl ?_
      have e : takeLock l x = (.zero, 4) := by unfold takeLock; rw [if_neg (by rw [h0]; simp), if_pos h1]
      refine cx_wk (wk_virt 900 4 rfl rfl rfl) ?_
      refine cx_wk (wk_zsb 10 900 0 rfl rfl rfl) ?_
      refine cx_wk (wk_virt 901 2 rfl rfl rfl) ?_
      refine cx_wk (wk_zsb 10 901 1 rfl rfl rfl) ?_
      refine cx_ret (retN (fun e => bif Nat.beq e 901 then 1 else 0) [900, 901] rfl rfl rfl rfl rfl ?_)
      rw [e]; exact ⟨rfl, rfl⟩
    · have h1 := bF h1
      refine cx_skip ?_
      refine cx_keep rfl rfl ?_
      refine cx_seq ?_
      refine cx_ops ?_
      first | refine ax_q (q_ldN rfl rfl rfl) ?_ | refine ax_q (q_loadN_ip rfl (Nat.le_refl _)) ?_ | refine ax_q (q_loadN_ip rfl (by decide)) ?_ | refine ax_q (q_loadN_rptr rfl rfl (by assumption) (by decide)) ?_ | refine ax_q (q_loadN_rptr rfl rfl (mapAt (by first | assumption | omega)) (by decide)) ?_
      refine ax_q (q_mov rfl) ?_
      refine ax_q (q_mov rfl) ?_
      refine ax_q (q_mov rfl) ?_
      refine ax_q (q_mov rfl) ?_
      first | refine ax_call rfl (vc_pure (c_l06Take (x := x) ?_ ?_) hP rfl ?_) | refine ax_call rfl (vc_lend (c_l06Take (x := x) ?_ ?_) hP (by repeat (first | exact lal_id _ rfl | exact LAL.nil | refine LAL.cons ?_ ?_ | exact la_id _ rfl | exact LA.lend (lend_whole rfl (by first | (simp; done) | (rw [List.length_map]; rfl))) | refine LA.agg ?_ | refine LA.fn ?_ | refine LA.lend ?_ | exact Lend.d _ | exact Lend.zs _ | exact lend_whole rfl (by first | (simp; done) | (rw [List.length_map]; rfl)) | refine Lend.ptr rfl ?_ | refine Lend.fn ?_ | exact LendL.nil | refine LendL.cons ?_ ?_)) ?_)
      · first | assumption | omega | (simp; done) | (simp; omega)
      · first | assumption | omega | (simp; done) | (simp; omega)
      rintro r h ⟨rfl, rfl⟩
      refine ⟨fun i => 28 + 200 * i, [0, 1], ⟨rfl, rfl, rfl, rfl, rfl, (by first | exact (fun h => absurd h Bool.false_ne_true) | exact (fun _ => ⟨rfl, (noisl_of (by repeat (first | exact trivial | refine ⟨noisl_map (fun _ => rfl), ?_⟩ | refine ⟨?_, ?_⟩)))⟩))⟩, ?_⟩
      skip
      refine ax_q (q_ext rfl rfl) ?_
      refine ax_q (q_ext rfl rfl) ?_
      refine ax_e (e_st rfl rfl rfl rfl rfl rfl rfl) ?_
      refine ax_q (q_mov rfl) ?_
      refine ax_nil ?_
      refine cx_keep rfl rfl ?_
      refine cx_ret (retN (fun e => bif Nat.beq e 228 then 1 else 0) [28, 228] rfl rfl rfl rfl rfl ?_)
      rw [show takeLock l x = takeL l x from by unfold takeLock; rw [if_neg (by rw [h0]; simp), if_neg (by rw [h1]; simp)]]; exact ⟨rfl, rfl⟩


/- loop.example/g00332/impl.WaitsRound -/
def k_c_WaitsRound : XCode :=
  .seq (.ops [.op (some 2) (.box (.t 0)),
     .op (some 4) (.mov (.k (.bool false))),
     .op (some 5) (.mov (.k (.int .i64 0)))])
  (.keep [1, 2] (.seq (.block 0 (.seq (.ops [.op (some 7) (.loadN 2 (.t 2)),
       .call (some 8) 24 [.t 7],
       .op (some 9) (.not (.t 8)),
       .op (some 6) (.mov (.t 9))])
    (.keep [1, 2, 6] (.cond (.t 6)
     (.seq (.ops [.op (some 4) (.mov (.k (.bool false))),
         .op (some 5) (.mov (.k (.int .i64 1)))])
      (.keep [4, 5] (.ret)))
     (.seq (.ops [.op (some 11) (.mov (.t 1)),
         .call (some 12) 29 [.t 11],
         .op (some 13) (.not (.t 12)),
         .op (some 10) (.mov (.t 13))])
      (.keep [1, 2, 10] (.cond (.t 10)
       (.seq (.ops [.op (some 4) (.mov (.k (.bool false))),
           .op (some 5) (.mov (.k (.int .i64 4)))])
        (.keep [4, 5] (.ret)))
       (.skip))))))))
  (.keep [1, 2] (.seq (.ops [.op (some 14) (.loadN 2 (.t 2)),
     .op (some 15) (.mov (.t 1)),
     .op (some 16) (.mov (.t 1)),
     .call (some 17) 52 [.t 14, .t 15, .t 16],
     .op (some 4) (.mov (.t 17)),
     .op (some 5) (.mov (.k (.int .i64 0)))])
  (.keep [4, 5] (.ret))))))
theorem k_c_WaitsRound_fits : fitsF Try.prog 21 ⟨18, k_c_WaitsRound, [.t 4, .t 5]⟩ = true := by kernel_rfl
theorem c_WaitsRound {l : GLocks} {tx : Int} (hw0 : l.Held.length ≤ 1048576) (hw1 : l.Waits.length ≤ 1048576) : Con Try.prog noMv 21 [l.av, int tx] [] (fun r h => r = .tup [bool (roundL l tx).1, int (roundL l tx).2] ∧ h = []) := by
  refine con_of2 k_c_WaitsRound_fits rfl fun C hP hmv => ?_
  unfold k_c_WaitsRound
  refine cx_seq ?_
  refine cx_ops ?_
  refine ax_e (e_box rfl rfl (by decide) rfl rfl rfl) ?_
  refine ax_q (q_mov rfl) ?_
  refine ax_q (q_mov rfl) ?_
  refine ax_nil ?_
  refine cx_keep rfl rfl ?_
  refine cx_seq ?_
  refine cx_block ?_
  refine cx_seq ?_
  refine cx_ops ?_
  first | refine ax_q (q_ldN rfl rfl rfl) ?_ | refine ax_q (q_loadN_ip rfl (Nat.le_refl _)) ?_ | refine ax_q (q_loadN_ip rfl (by decide)) ?_ | refine ax_q (q_loadN_rptr rfl rfl (by assumption) (by decide)) ?_ | refine ax_q (q_loadN_rptr rfl rfl (mapAt (by first | assumption | omega)) (by decide)) ?_
  first | refine ax_call rfl (vc_pure0 (c_LocksOK  ?_ ?_) hP rfl rfl ?_) | refine ax_call rfl (vc_lend0 (c_LocksOK  ?_ ?_) hP (by repeat (first | exact lal_id _ rfl | exact LAL.nil | refine LAL.cons ?_ ?_ | exact la_id _ rfl | exact LA.lend (lend_whole rfl (by first | (simp; done) | (rw [List.length_map]; rfl))) | refine LA.agg ?_ | refine LA.fn ?_ | refine LA.lend ?_ | exact Lend.d _ | exact Lend.zs _ | exact lend_whole rfl (by first | (simp; done) | (rw [List.length_map]; rfl)) | refine Lend.ptr rfl ?_ | refine Lend.fn ?_ | exact LendL.nil | refine LendL.cons ?_ ?_)) rfl rfl ?_)
  · first | assumption | omega | (simp; done) | (simp; omega)
  · first | assumption | omega | (simp; done) | (simp; omega)
  refine ax_q (q_not rfl) ?_
  refine ax_q (q_mov rfl) ?_
  refine ax_nil ?_
  refine cx_keep rfl rfl ?_
  refine cx_cond rfl (fun h0 => ?_) (fun h0 => ?_)
  · have h0 := bT h0
    refine cx_seq ?_
    refine cx_ops ?_
    refine ax_q (q_mov rfl) ?_
    refine ax_q (q_mov rfl) ?_
    refine ax_nil ?_
    refine cx_keep rfl rfl ?_
    refine cx_ret (ret0 rfl rfl ?_)
    exact ⟨by rw [roundL_1 h0]; rfl, rfl⟩
  · have h0 := bF h0
    refine cx_seq ?_
    refine cx_ops ?_
    refine ax_q (q_mov rfl) ?_
    first | refine ax_call rfl (vc_pure0 (c_isTx  ) hP rfl rfl ?_) | refine ax_call rfl (vc_lend0 (c_isTx  ) hP (by repeat (first | exact lal_id _ rfl | exact LAL.nil | refine LAL.cons ?_ ?_ | exact la_id _ rfl | exact LA.lend (lend_whole rfl (by first | (simp; done) | (rw [List.length_map]; rfl))) | refine LA.agg ?_ | refine LA.fn ?_ | refine LA.lend ?_ | exact Lend.d _ | exact Lend.zs _ | exact lend_whole rfl (by first | (simp; done) | (rw [List.length_map]; rfl)) | refine Lend.ptr rfl ?_ | refine Lend.fn ?_ | exact LendL.nil | refine LendL.cons ?_ ?_)) rfl rfl ?_)
    refine ax_q (q_not rfl) ?_
    refine ax_q (q_mov rfl) ?_
    refine ax_nil ?_
    refine cx_keep rfl rfl ?_
    refine cx_cond rfl (fun h1 => ?_) (fun h1 => ?_)
    · have h1 := bT h1
      refine cx_seq ?_
      refine cx_ops ?_
      refine ax_q (q_mov rfl) ?_
      refine ax_q (q_mov rfl) ?_
      refine ax_nil ?_
      refine cx_keep rfl rfl ?_
      refine cx_ret (ret0 rfl rfl ?_)
      exact ⟨by rw [roundL_2 h0 h1]; rfl, rfl⟩
    · have h1 := bF h1
      refine cx_skip ?_
      refine cx_keep rfl rfl ?_
      refine cx_seq ?_
      refine cx_ops ?_
      first | refine ax_q (q_ldN rfl rfl rfl) ?_ | refine ax_q (q_loadN_ip rfl (Nat.le_refl _)) ?_ | refine ax_q (q_loadN_ip rfl (by decide)) ?_ | refine ax_q (q_loadN_rptr rfl rfl (by assumption) (by decide)) ?_ | refine ax_q (q_loadN_rptr rfl rfl (mapAt (by first | assumption | omega)) (by decide)) ?_
      refine ax_q (q_mov rfl) ?_
      refine ax_q (q_mov rfl) ?_
      first | refine ax_call rfl (vc_pure0 (c_leads  ?_ ?_) hP rfl rfl ?_) | refine ax_call rfl (vc_lend0 (c_leads  ?_ ?_) hP (by repeat (first | exact lal_id _ rfl | exact LAL.nil | refine LAL.cons ?_ ?_ | exact la_id _ rfl | exact LA.lend (lend_whole rfl (by first | (simp; done) | (rw [List.length_map]; rfl))) | refine LA.agg ?_ | refine LA.fn ?_ | refine LA.lend ?_ | exact Lend.d _ | exact Lend.zs _ | exact lend_whole rfl (by first | (simp; done) | (rw [List.length_map]; rfl)) | refine Lend.ptr rfl ?_ | refine Lend.fn ?_ | exact LendL.nil | refine LendL.cons ?_ ?_)) rfl rfl ?_)
      · first | assumption | omega | (simp; done) | (simp; omega)
      · first | assumption | omega | (simp; done) | (simp; omega)
      refine ax_q (q_mov rfl) ?_
      refine ax_q (q_mov rfl) ?_
      refine ax_nil ?_
      refine cx_keep rfl rfl ?_
      refine cx_ret (ret0 rfl rfl ?_)
      exact ⟨by rw [roundL_3 h0 h1]; rfl, rfl⟩


/- loop.example/g00332/impl.HoldsLock -/
def k_c_HoldsLock : XCode :=
  .seq (.ops [.op (some 5) (.box (.t 0)),
     .op (some 10) (.mov (.k (.bool false))),
     .op (some 11) (.mov (.k (.int .i64 0)))])
  (.keep [1, 2, 3, 4, 5] (.seq (.ops [.op (some 13) (.mov (.t 1)),
     .op (some 14) (.mov (.t 2)),
     .op (some 15) (.mov (.t 3)),
     .op (some 16) (.mov (.t 4)),
     .op (some 17) (.build [.int .i64 0, .int .i64 0, .int .i64 0, .int .i64 0] [(0, 1, .t 13), (1, 1, .t 14), (2, 1, .t 15), (3, 1, .t 16)]),
     .op (some 12) (.alloc [.int .i64 0, .int .i64 0, .int .i64 0, .int .i64 0]),
     .op none (.store 4 (.t 12) (.t 17))])
  (.keep [5, 12] (.seq (.block 0 (.seq (.ops [.op (some 19) (.loadN 2 (.t 5)),
       .call (some 20) 24 [.t 19],
       .op (some 21) (.not (.t 20)),
       .op (some 18) (.mov (.t 21))])
    (.keep [5, 12, 18] (.cond (.t 18)
     (.seq (.ops [.op (some 10) (.mov (.k (.bool false))),
         .op (some 11) (.mov (.k (.int .i64 1)))])
      (.keep [10, 11] (.ret)))
     (.seq (.ops [.op (some 23) (.loadN 4 (.t 12)),
         .call (some 24) 48 [.t 23],
         .op (some 25) (.not (.t 24)),
         .op (some 22) (.mov (.t 25))])
      (.keep [5, 12, 22] (.cond (.t 22)
       (.seq (.ops [.op (some 10) (.mov (.k (.bool false))),
           .op (some 11) (.mov (.k (.int .i64 4)))])
        (.keep [10, 11] (.ret)))
       (.skip))))))))
  (.keep [5, 12] (.seq (.ops [.op (some 26) (.loadN 2 (.t 5)),
     .op (some 27) (.loadN 4 (.t 12)),
     .call (some 28) 53 [.t 26, .t 27],
     .op (some 10) (.mov (.t 28)),
     .op (some 11) (.mov (.k (.int .i64 0)))])
  (.keep [10, 11] (.ret))))))))
theorem k_c_HoldsLock_fits : fitsF Try.prog 22 ⟨29, k_c_HoldsLock, [.t 10, .t 11]⟩ = true := by kernel_rfl
theorem c_HoldsLock {l : GLocks} {x : GLock} (hw0 : l.Held.length ≤ 1048576) (hw1 : l.Waits.length ≤ 1048576) : Con Try.prog noMv 22 [l.av, int x.Tx, int x.Table, int x.Row, int x.Mode] [] (fun r h => r = .tup [bool (holdsLock l x).1, int (holdsLock l x).2] ∧ h = []) := by
  refine con_of2 k_c_HoldsLock_fits rfl fun C hP hmv => ?_
  unfold k_c_HoldsLock
  refine cx_seq ?_
  refine cx_ops ?_
  refine ax_e (e_box rfl rfl (by decide) rfl rfl rfl) ?_
  refine ax_q (q_mov rfl) ?_
  refine ax_q (q_mov rfl) ?_
  refine ax_nil ?_
  refine cx_keep rfl rfl ?_
  refine cx_seq ?_
  refine cx_ops ?_
  refine ax_q (q_mov rfl) ?_
  refine ax_q (q_mov rfl) ?_
  refine ax_q (q_mov rfl) ?_
  refine ax_q (q_mov rfl) ?_
  refine ax_q (q_build rfl) ?_
  refine ax_e (e_alloc (by decide) rfl rfl) ?_
  refine ax_e (e_st rfl rfl rfl rfl rfl rfl rfl) ?_
  refine ax_nil ?_
  refine cx_keep rfl rfl ?_
  refine cx_seq ?_
  refine cx_block ?_
  refine cx_seq ?_
  refine cx_ops ?_
  first | refine ax_q (q_ldN rfl rfl rfl) ?_ | refine ax_q (q_loadN_ip rfl (Nat.le_refl _)) ?_ | refine ax_q (q_loadN_ip rfl (by decide)) ?_ | refine ax_q (q_loadN_rptr rfl rfl (by assumption) (by decide)) ?_ | refine ax_q (q_loadN_rptr rfl rfl (mapAt (by first | assumption | omega)) (by decide)) ?_
  first | refine ax_call rfl (vc_pure0 (c_LocksOK  ?_ ?_) hP rfl rfl ?_) | refine ax_call rfl (vc_lend0 (c_LocksOK  ?_ ?_) hP (by repeat (first | exact lal_id _ rfl | exact LAL.nil | refine LAL.cons ?_ ?_ | exact la_id _ rfl | exact LA.lend (lend_whole rfl (by first | (simp; done) | (rw [List.length_map]; rfl))) | refine LA.agg ?_ | refine LA.fn ?_ | refine LA.lend ?_ | exact Lend.d _ | exact Lend.zs _ | exact lend_whole rfl (by first | (simp; done) | (rw [List.length_map]; rfl)) | refine Lend.ptr rfl ?_ | refine Lend.fn ?_ | exact LendL.nil | refine LendL.cons ?_ ?_)) rfl rfl ?_)
  · first | assumption | omega | (simp; done) | (simp; omega)
  · first | assumption | omega | (simp; done) | (simp; omega)
  refine ax_q (q_not rfl) ?_
  refine ax_q (q_mov rfl) ?_
  refine ax_nil ?_
  refine cx_keep rfl rfl ?_
  refine cx_cond rfl (fun h0 => ?_) (fun h0 => ?_)
  · have h0 := bT h0
    refine cx_seq ?_
    refine cx_ops ?_
    refine ax_q (q_mov rfl) ?_
    refine ax_q (q_mov rfl) ?_
    refine ax_nil ?_
    refine cx_keep rfl rfl ?_
    refine cx_ret (ret0 rfl rfl ?_)
    exact ⟨by rw [holdsLock_1 h0]; rfl, rfl⟩
  · have h0 := bF h0
    refine cx_seq ?_
    refine cx_ops ?_
    first | refine ax_q (q_ldN rfl rfl rfl) ?_ | refine ax_q (q_loadN_ip rfl (Nat.le_refl _)) ?_ | refine ax_q (q_loadN_ip rfl (by decide)) ?_ | refine ax_q (q_loadN_rptr rfl rfl (by assumption) (by decide)) ?_ | refine ax_q (q_loadN_rptr rfl rfl (mapAt (by first | assumption | omega)) (by decide)) ?_
    first | refine ax_call rfl (vc_pure0 (c_lockOK (a := x) ) hP rfl rfl ?_) | refine ax_call rfl (vc_lend0 (c_lockOK (a := x) ) hP (by repeat (first | exact lal_id _ rfl | exact LAL.nil | refine LAL.cons ?_ ?_ | exact la_id _ rfl | exact LA.lend (lend_whole rfl (by first | (simp; done) | (rw [List.length_map]; rfl))) | refine LA.agg ?_ | refine LA.fn ?_ | refine LA.lend ?_ | exact Lend.d _ | exact Lend.zs _ | exact lend_whole rfl (by first | (simp; done) | (rw [List.length_map]; rfl)) | refine Lend.ptr rfl ?_ | refine Lend.fn ?_ | exact LendL.nil | refine LendL.cons ?_ ?_)) rfl rfl ?_)
    refine ax_q (q_not rfl) ?_
    refine ax_q (q_mov rfl) ?_
    refine ax_nil ?_
    refine cx_keep rfl rfl ?_
    refine cx_cond rfl (fun h1 => ?_) (fun h1 => ?_)
    · have h1 := bT h1
      refine cx_seq ?_
      refine cx_ops ?_
      refine ax_q (q_mov rfl) ?_
      refine ax_q (q_mov rfl) ?_
      refine ax_nil ?_
      refine cx_keep rfl rfl ?_
      refine cx_ret (ret0 rfl rfl ?_)
      exact ⟨by rw [holdsLock_2 h0 h1]; rfl, rfl⟩
    · have h1 := bF h1
      refine cx_skip ?_
      refine cx_keep rfl rfl ?_
      refine cx_seq ?_
      refine cx_ops ?_
      first | refine ax_q (q_ldN rfl rfl rfl) ?_ | refine ax_q (q_loadN_ip rfl (Nat.le_refl _)) ?_ | refine ax_q (q_loadN_ip rfl (by decide)) ?_ | refine ax_q (q_loadN_rptr rfl rfl (by assumption) (by decide)) ?_ | refine ax_q (q_loadN_rptr rfl rfl (mapAt (by first | assumption | omega)) (by decide)) ?_
      first | refine ax_q (q_ldN rfl rfl rfl) ?_ | refine ax_q (q_loadN_ip rfl (Nat.le_refl _)) ?_ | refine ax_q (q_loadN_ip rfl (by decide)) ?_ | refine ax_q (q_loadN_rptr rfl rfl (by assumption) (by decide)) ?_ | refine ax_q (q_loadN_rptr rfl rfl (mapAt (by first | assumption | omega)) (by decide)) ?_
      first | refine ax_call rfl (vc_pure0 (c_has (x := x) ?_ ?_) hP rfl rfl ?_) | refine ax_call rfl (vc_lend0 (c_has (x := x) ?_ ?_) hP (by repeat (first | exact lal_id _ rfl | exact LAL.nil | refine LAL.cons ?_ ?_ | exact la_id _ rfl | exact LA.lend (lend_whole rfl (by first | (simp; done) | (rw [List.length_map]; rfl))) | refine LA.agg ?_ | refine LA.fn ?_ | refine LA.lend ?_ | exact Lend.d _ | exact Lend.zs _ | exact lend_whole rfl (by first | (simp; done) | (rw [List.length_map]; rfl)) | refine Lend.ptr rfl ?_ | refine Lend.fn ?_ | exact LendL.nil | refine LendL.cons ?_ ?_)) rfl rfl ?_)
      · first | assumption | omega | (simp; done) | (simp; omega)
      · first | assumption | omega | (simp; done) | (simp; omega)
      refine ax_q (q_mov rfl) ?_
      refine ax_q (q_mov rfl) ?_
      refine ax_nil ?_
      refine cx_keep rfl rfl ?_
      refine cx_ret (ret0 rfl rfl ?_)
      exact ⟨by rw [holdsLock_3 h0 h1]; rfl, rfl⟩


/- loop.example/g00332/spec.AskOf -/
def k_c_AskOf : XCode :=
  .seq (.ops [.op (some 2) (.mov (.k (.nils 1)))])
  (.keep [0] (.seq (.ops [.op (some 8) (.mov (.t 0)),
     .call (some 9) 27 [.t 8],
     .call (some 10) 54 [.t 9],
     .op (some 7) (.mov (.t 10)),
     .op (some 11) (.ext (.t 7) 0),
     .op (some 12) (.ext (.t 7) 1),
     .op (some 13) (.ext (.t 7) 2),
     .op (some 14) (.ext (.t 7) 3),
     .op (some 3) (.mov (.t 11)),
     .op (some 4) (.mov (.t 12)),
     .op (some 5) (.mov (.t 13)),
     .op (some 6) (.mov (.t 14))])
  (.keep [3, 4, 5, 6] (.seq (.ops [.op (some 15) (.mov (.t 3)),
     .op (some 16) (.mov (.t 4)),
     .op (some 17) (.mov (.t 5)),
     .op (some 18) (.mov (.t 6)),
     .op (some 19) (.bslice 1 [.t 15, .t 16, .t 17, .t 18]),
     .op (some 2) (.mov (.t 19))])
  (.keep [2] (.ret))))))
theorem k_c_AskOf_fits : fitsF Try.prog 23 ⟨20, k_c_AskOf, [.t 2]⟩ = true := by kernel_rfl
theorem c_AskOf {code : Str} (hl : code.length ≤ 1048576) : Con Try.prog noMv 23 [.d (.sl 1 (code.map byteRow))] [] (fun r h => ∃ x : GLock, lockOK x = true ∧ r = .osl 0 1 0 4 ∧ h = [(0, .rows 1 [[.int .i64 x.Tx], [.int .i64 x.Table], [.int .i64 x.Row], [.int .i64 x.Mode]])]) := by
  refine con_of2 k_c_AskOf_fits rfl fun C hP hmv => ?_
  unfold k_c_AskOf
  refine cx_seq ?_
  refine cx_ops ?_
  refine ax_q (q_mov rfl) ?_
  refine ax_nil ?_
  refine cx_keep rfl rfl ?_
  refine cx_seq ?_
  refine cx_ops ?_
  refine ax_q (q_mov rfl) ?_
  refine ax_call rfl (vc_pure (c_l00Source hl) hP rfl ?_)
  rintro r h ⟨rfl, rfl⟩
  refine ⟨fun _ => 9, [0], ⟨rfl, rfl, rfl, rfl, rfl, fun h => absurd h Bool.false_ne_true⟩, ?_⟩
  refine ax_call rfl (vcall_own (c_ask (n := 0) ((srcOf_ok hl).mono (by omega))) hP hmv false (fun _ => 9) [1000] ⟨rfl, rfl, rfl, rfl, ⟨rfl, trivial⟩, rfl, rfl, rfl⟩ (.pass rfl rfl .nil) ?_)
  rintro r h ⟨x, s2, hx, hs2, rfl, rfl⟩
  refine ⟨fun _ => 9, [], ⟨rfl, rfl, rfl, rfl, mem1 rfl, rfl, rfl, fun h => absurd h Bool.false_ne_true⟩, ?_⟩
  refine ax_q (q_mov rfl) ?_
  refine ax_q (q_ext rfl rfl) ?_
  refine ax_q (q_ext rfl rfl) ?_
  refine ax_q (q_ext rfl rfl) ?_
  refine ax_q (q_ext rfl rfl) ?_
  refine ax_q (q_mov rfl) ?_
  refine ax_q (q_mov rfl) ?_
  refine ax_q (q_mov rfl) ?_
  refine ax_q (q_mov rfl) ?_
  refine ax_nil ?_
  refine cx_keep rfl rfl ?_
  refine cx_seq ?_
  refine cx_ops ?_
  refine ax_q (q_mov rfl) ?_
  refine ax_q (q_mov rfl) ?_
  refine ax_q (q_mov rfl) ?_
  refine ax_q (q_mov rfl) ?_
  refine ax_e (e_bslice rfl (by decide) rfl rfl) ?_
  refine ax_q (q_mov rfl) ?_
  refine ax_nil ?_
  refine cx_keep rfl rfl ?_
  refine cx_ret (retN (fun _ => 0) [19] rfl rfl rfl rfl rfl ?_)
  exact ⟨x, hx, rfl, rfl⟩


/- loop.example/g00332/impl.ModesFit -/
def k_c_ModesFit : XCode :=
  .seq (.ops [.op (some 4) (.mov (.k (.bool false))),
     .op (some 5) (.mov (.k (.int .i64 0)))])
  (.keep [0, 1] (.seq (.seq (.ops [.op (some 6) (.mov (.t 0)),
      .call (some 7) 60 [.t 6],
      .op (some 8) (.not (.t 7)),
      .op (some 9) (.mov (.t 8)),
      .andor 13 false 3 9 [.op (some 10) (.mov (.t 1)), .call (some 11) 60 [.t 10], .op (some 12) (.not (.t 11))] (.t 12)])
   (.keep [0, 1, 13] (.cond (.t 13)
    (.seq (.ops [.op (some 4) (.mov (.k (.bool false))),
        .op (some 5) (.mov (.k (.int .i64 4)))])
     (.keep [4, 5] (.ret)))
    (.skip))))
  (.keep [0, 1] (.seq (.ops [.op (some 14) (.mov (.t 0)),
     .op (some 15) (.mov (.t 1)),
     .call (some 16) 61 [.t 14, .t 15],
     .op (some 4) (.mov (.t 16)),
     .op (some 5) (.mov (.k (.int .i64 0)))])
  (.keep [4, 5] (.ret))))))
theorem k_c_ModesFit_fits : fitsF Try.prog 25 ⟨17, k_c_ModesFit, [.t 4, .t 5]⟩ = true := by kernel_rfl
theorem c_ModesFit {a b : Int} : Con Try.prog noMv 25 [int a, int b] [] (fun r h => r = .tup [bool (bif isMode a && isMode b then modesFit a b else false), int (bif isMode a && isMode b then 0 else 4)] ∧ h = []) := by
  refine con_of2 k_c_ModesFit_fits rfl fun C hP hmv => ?_
  unfold k_c_ModesFit
  refine cx_seq ?_
  refine cx_ops ?_
  refine ax_q (q_mov rfl) ?_
  refine ax_q (q_mov rfl) ?_
  refine ax_nil ?_
  refine cx_keep rfl rfl ?_
  refine cx_seq ?_
  refine cx_seq ?_
  refine cx_ops ?_
  refine ax_q (q_mov rfl) ?_
  first | refine ax_call rfl (vc_pure0 (c_isMode  ) hP rfl rfl ?_) | refine ax_call rfl (vc_lend0 (c_isMode  ) hP (by repeat (first | exact lal_id _ rfl | exact LAL.nil | refine LAL.cons ?_ ?_ | exact la_id _ rfl | exact LA.lend (lend_whole rfl (by first | (simp; done) | (rw [List.length_map]; rfl))) | refine LA.agg ?_ | refine LA.fn ?_ | refine LA.lend ?_ | exact Lend.d _ | exact Lend.zs _ | exact lend_whole rfl (by first | (simp; done) | (rw [List.length_map]; rfl)) | refine Lend.ptr rfl ?_ | refine Lend.fn ?_ | exact LendL.nil | refine LendL.cons ?_ ?_)) rfl rfl ?_)
  refine ax_q (q_not rfl) ?_
  refine ax_q (q_mov rfl) ?_
  apply ax_or rfl rfl
  · intro g
    have g := bF g
    refine ax_q (q_mov rfl) ?_
    first | refine ax_call rfl (vc_pure0 (c_isMode  ) hP rfl rfl ?_) | refine ax_call rfl (vc_lend0 (c_isMode  ) hP (by repeat (first | exact lal_id _ rfl | exact LAL.nil | refine LAL.cons ?_ ?_ | exact la_id _ rfl | exact LA.lend (lend_whole rfl (by first | (simp; done) | (rw [List.length_map]; rfl))) | refine LA.agg ?_ | refine LA.fn ?_ | refine LA.lend ?_ | exact Lend.d _ | exact Lend.zs _ | exact lend_whole rfl (by first | (simp; done) | (rw [List.length_map]; rfl)) | refine Lend.ptr rfl ?_ | refine Lend.fn ?_ | exact LendL.nil | refine LendL.cons ?_ ?_)) rfl rfl ?_)
    refine ax_q (q_not rfl) ?_
    exact ax_nil ⟨rfl, by repeat (first | exact trivial | refine ⟨rfl, ?_⟩ | refine ⟨?_, ?_⟩)⟩
  refine ax_nil ?_
  refine cx_keep rfl rfl ?_
  refine cx_cond rfl (fun h0 => ?_) (fun h0 => ?_)
  · have h0 := (fun h => (or_T h).imp bT bT) h0
    refine cx_seq ?_
    refine cx_ops ?_
    refine ax_q (q_mov rfl) ?_
    refine ax_q (q_mov rfl) ?_
    refine ax_nil ?_
    refine cx_keep rfl rfl ?_
    refine cx_ret (ret0 rfl rfl ?_)
    exact ⟨by rcases h0 with h | h <;> rw [h] <;> simp [mkRes, K.av], rfl⟩
  · have h0 := (fun h => And.intro (bF (or_F h).1) (bF (or_F h).2)) h0
    refine cx_skip ?_
    refine cx_keep rfl rfl ?_
    refine cx_seq ?_
    refine cx_ops ?_
    refine ax_q (q_mov rfl) ?_
    refine ax_q (q_mov rfl) ?_
    first | refine ax_call rfl (vc_pure0 (c_modesFit  ) hP rfl rfl ?_) | refine ax_call rfl (vc_lend0 (c_modesFit  ) hP (by repeat (first | exact lal_id _ rfl | exact LAL.nil | refine LAL.cons ?_ ?_ | exact la_id _ rfl | exact LA.lend (lend_whole rfl (by first | (simp; done) | (rw [List.length_map]; rfl))) | refine LA.agg ?_ | refine LA.fn ?_ | refine LA.lend ?_ | exact Lend.d _ | exact Lend.zs _ | exact lend_whole rfl (by first | (simp; done) | (rw [List.length_map]; rfl)) | refine Lend.ptr rfl ?_ | refine Lend.fn ?_ | exact LendL.nil | refine LendL.cons ?_ ?_)) rfl rfl ?_)
    refine ax_q (q_mov rfl) ?_
    refine ax_q (q_mov rfl) ?_
    refine ax_nil ?_
    refine cx_keep rfl rfl ?_
    refine cx_ret (ret0 rfl rfl ?_)
    exact ⟨by rw [h0.1, h0.2]; rfl, rfl⟩


/- loop.example/g00332/spec.LocksOfTx -/
def k_c_sLocksOfTx : XCode :=
  .seq (.ops [.op (some 2) (.box (.t 0)),
     .op (some 4) (.mov (.k (.nils 4))),
     .op (some 5) (.mov (.k (.int .i64 0)))])
  (.keep [1, 2] (.seq (.seq (.ops [.op (some 8) (.loadN 2 (.t 2)),
      .call (some 9) 32 [.t 8],
      .op (some 10) (.not (.t 9))])
   (.keep [1, 2, 10] (.cond (.t 10)
    (.seq (.ops [.op (some 11) (.bslice 4 []),
        .op (some 4) (.mov (.t 11)),
        .op (some 5) (.mov (.k (.int .i64 1)))])
     (.keep [4, 5] (.ret)))
    (.skip))))
  (.keep [1, 2] (.seq (.seq (.ops [.op (some 12) (.mov (.t 1)),
      .call (some 13) 33 [.t 12, .k (.int .i64 1), .k (.int .i64 60)],
      .op (some 14) (.not (.t 13))])
   (.keep [1, 2, 14] (.cond (.t 14)
    (.seq (.ops [.op (some 15) (.bslice 4 []),
        .op (some 4) (.mov (.t 15)),
        .op (some 5) (.mov (.k (.int .i64 4)))])
     (.keep [4, 5] (.ret)))
    (.skip))))
  (.keep [1, 2] (.seq (.ops [.op (some 16) (.bslice 4 []),
     .op (some 6) (.mov (.t 16))])
  (.keep [1, 2, 6] (.seq (.seq (.ops [.op (some 7) (.mov (.k (.int .i64 0)))])
   (.keep [1, 2, 6, 7] (.block 0 (.loop (.seq (.seq (.ops [.op (some 17) (.mov (.t 7)),
         .op (some 18) (.fadr (.t 2) 0),
         .op (some 19) (.load1 (.t 18)),
         .op (some 20) (.lenS (.t 19)),
         .op (some 21) (.bin .lss (.t 17) (.t 20))])
      (.keep [1, 2, 6, 7, 21] (.cond (.t 21)
       (.skip)
       (.exit 0))))
     (.keep [1, 2, 6, 7] (.seq (.block 1 (.seq (.ops [.op (some 24) (.fadr (.t 2) 0),
          .op (some 25) (.load1 (.t 24)),
          .op (some 26) (.mov (.t 7)),
          .op (some 27) (.iadr 4 (.t 25) (.t 26)),
          .op (some 28) (.fadr (.t 27) 0),
          .op (some 29) (.load1 (.t 28)),
          .op (some 30) (.mov (.t 1)),
          .op (some 31) (.bin .eql (.t 29) (.t 30))])
       (.keep [1, 2, 6, 7, 31] (.cond (.t 31)
        (.ops [.op (some 32) (.mov (.t 6)),
           .op (some 33) (.fadr (.t 2) 0),
           .op (some 34) (.load1 (.t 33)),
           .op (some 35) (.mov (.t 7)),
           .op (some 36) (.iadr 4 (.t 34) (.t 35)),
           .op (some 37) (.loadN 4 (.t 36)),
           .op (some 38) (.bslice 4 [.t 37]),
           .op (some 39) (.app 4 32 [.int .i64 0, .int .i64 0, .int .i64 0, .int .i64 0] (.t 32) (.t 38)),
           .op (some 6) (.mov (.t 39))])
        (.skip)))))
     (.keep [1, 2, 6, 7] (.ops [.op (some 22) (.mov (.t 7)),
       .op (some 23) (.bin .add (.t 22) (.k (.int .i64 1))),
       .op (some 7) (.mov (.t 23))])))))))))
  (.keep [6] (.seq (.ops [.op (some 40) (.mov (.t 6)),
     .op (some 4) (.mov (.t 40)),
     .op (some 5) (.mov (.k (.int .i64 0)))])
  (.keep [4, 5] (.ret))))))))))))
theorem k_c_sLocksOfTx_fits : fitsF Try.prog 26 ⟨41, k_c_sLocksOfTx, [.t 4, .t 5]⟩ = true := by kernel_rfl
theorem c_sLocksOfTx {l : GLocks} {tx : Int} (hw0 : l.Held.length ≤ 1048576) (hw1 : l.Waits.length ≤ 1048576) (hl : wfL GLock.wf l.Held) : Con Try.prog noMv 26 [l.av, int tx] [] (fun r h => r = .tup [.osl 0 4 0 (locksOfTx l tx).1.length, int (locksOfTx l tx).2] ∧ h = [(0, .rows 4 ((locksOfTx l tx).1.map GLock.row))]) := by
  refine con_of2 k_c_sLocksOfTx_fits rfl fun C hP hmv => ?_
  unfold k_c_sLocksOfTx
  let q : GLock → Bool := fun h => !(!decide (h.Tx = tx))
  refine cx_seq ?_
  refine cx_ops ?_
  refine ax_e (e_box rfl rfl (by decide) rfl rfl rfl) ?_
  refine ax_q (q_mov rfl) ?_
  refine ax_q (q_mov rfl) ?_
  refine ax_nil ?_
  refine cx_keep rfl rfl ?_
  refine cx_seq ?_
  refine cx_seq ?_
  refine cx_ops ?_
  first | refine ax_q (q_ldN rfl rfl rfl) ?_ | refine ax_q (q_loadN_ip rfl (Nat.le_refl _)) ?_ | refine ax_q (q_loadN_ip rfl (by decide)) ?_ | refine ax_q (q_loadN_rptr rfl rfl (by assumption) (by decide)) ?_ | refine ax_q (q_loadN_rptr rfl rfl (mapAt (by first | assumption | omega)) (by decide)) ?_
  first | refine ax_call rfl (vc_pure0 (c_sLocksOK  ?_ ?_ ?_) hP rfl rfl ?_) | refine ax_call rfl (vc_lend0 (c_sLocksOK  ?_ ?_ ?_) hP (by repeat (first | exact lal_id _ rfl | exact LAL.nil | refine LAL.cons ?_ ?_ | exact la_id _ rfl | exact LA.lend (lend_whole rfl (by first | (simp; done) | (rw [List.length_map]; rfl))) | refine LA.agg ?_ | refine LA.fn ?_ | refine LA.lend ?_ | exact Lend.d _ | exact Lend.zs _ | exact lend_whole rfl (by first | (simp; done) | (rw [List.length_map]; rfl)) | refine Lend.ptr rfl ?_ | refine Lend.fn ?_ | exact LendL.nil | refine LendL.cons ?_ ?_)) rfl rfl ?_)
  · first | assumption | omega | (simp; done) | (simp; omega)
  · first | assumption | omega | (simp; done) | (simp; omega)
  · first | assumption | omega | (simp; done) | (simp; omega)
  refine ax_q (q_not rfl) ?_
  refine ax_nil ?_
  refine cx_keep rfl rfl ?_
  refine cx_cond rfl (fun h0 => ?_) (fun h0 => ?_)
  · have h0 := bT h0
    refine cx_seq ?_
    refine cx_ops ?_
    refine ax_e (e_bslice rfl (by decide) rfl rfl) ?_
    refine ax_q (q_mov rfl) ?_
    refine ax_q (q_mov rfl) ?_
    refine ax_nil ?_
    refine cx_keep rfl rfl ?_
    refine cx_ret (retN (fun _ => 0) [11] rfl rfl rfl rfl rfl ?_)
    rw [locksOfTx_1 h0]; exact ⟨rfl, rfl⟩
  · have h0 := bF h0
    refine cx_skip ?_
    refine cx_keep rfl rfl ?_
    refine cx_seq ?_
    refine cx_seq ?_
    refine cx_ops ?_
    refine ax_q (q_mov rfl) ?_
    first | refine ax_call rfl (vc_pure0 (c_l01In  ) hP rfl rfl ?_) | refine ax_call rfl (vc_lend0 (c_l01In  ) hP (by repeat (first | exact lal_id _ rfl | exact LAL.nil | refine LAL.cons ?_ ?_ | exact la_id _ rfl | exact LA.lend (lend_whole rfl (by first | (simp; done) | (rw [List.length_map]; rfl))) | refine LA.agg ?_ | refine LA.fn ?_ | refine LA.lend ?_ | exact Lend.d _ | exact Lend.zs _ | exact lend_whole rfl (by first | (simp; done) | (rw [List.length_map]; rfl)) | refine Lend.ptr rfl ?_ | refine Lend.fn ?_ | exact LendL.nil | refine LendL.cons ?_ ?_)) rfl rfl ?_)
    refine ax_q (q_not rfl) ?_
    refine ax_nil ?_
    refine cx_keep rfl rfl ?_
    refine cx_cond rfl (fun h1 => ?_) (fun h1 => ?_)
    · have h1 := bT h1
      refine cx_seq ?_
      refine cx_ops ?_
      refine ax_e (e_bslice rfl (by decide) rfl rfl) ?_
      refine ax_q (q_mov rfl) ?_
      refine ax_q (q_mov rfl) ?_
      refine ax_nil ?_
      refine cx_keep rfl rfl ?_
      refine cx_ret (retN (fun _ => 0) [15] rfl rfl rfl rfl rfl ?_)
      rw [locksOfTx_2 h0 h1]; exact ⟨rfl, rfl⟩
    · have h1 := bF h1
      refine cx_skip ?_
      refine cx_keep rfl rfl ?_
      refine cx_seq ?_
      refine cx_ops ?_
      refine ax_e (e_bslice rfl (by decide) rfl rfl) ?_
      refine ax_q (q_mov rfl) ?_
      refine ax_nil ?_
      refine cx_keep rfl rfl ?_
      refine cx_seq ?_
      refine cx_seq ?_
      refine cx_ops ?_
      refine ax_q (q_mov rfl) ?_
      refine ax_nil ?_
      refine cx_keep rfl rfl ?_
      refine cx_block ?_
      refine cx_loopU (fun n k => k ≤ l.Held.length ∧ n = l.Held.length - k) (fun k : Nat => [(6, .osl 16 4 0 ((l.Held.take k).filter q).length), (7, int k)]) (fun k => [(2, .box [.d (.sl 4 (l.Held.map GLock.row)), .d (.sl 2 (l.Waits.map GWait.row))]), (16, .rows 4 (((l.Held.take k).filter q).map GLock.row))]) ⟨_, 0, ⟨Nat.zero_le _, rfl⟩, by repeat (first | exact trivial | refine ⟨rfl, ?_⟩ | refine ⟨?_, ?_⟩)⟩ ?_
      rintro n k ⟨hk, rfl⟩
      refine cx_seq ?_
      refine cx_seq ?_
      refine cx_ops ?_
      refine ax_q (q_mov rfl) ?_
      first | refine ax_q (q_fadr_ptr rfl) ?_ | refine ax_q (q_fadr_rptr rfl) ?_ | refine ax_q (q_fadr_ip rfl) ?_
      first | refine ax_q (q_load1_ptr rfl rfl rfl) ?_ | refine ax_q (q_load1_ip rfl) ?_ | refine ax_q (q_load1_rptr rfl rfl rfl rfl) ?_ | refine ax_q (q_load1_rptr rfl rfl (by assumption) rfl) ?_ | refine ax_q (q_load1_rptr rfl rfl (mapAt (by first | assumption | omega)) rfl) ?_
      first | refine ax_q (q_lenS_map rfl) ?_ | refine ax_q (q_lenS_osl rfl) ?_ | refine ax_q (q_lenS_zs rfl) ?_ | refine ax_q (q_lenS rfl) ?_
      refine ax_q (q_ibin rfl rfl rfl) ?_
      refine ax_nil ?_
      refine cx_keep rfl rfl ?_
      refine cx_cond rfl (fun h2 => ?_) (fun h2 => ?_)
      · have h2 := dT h2
        have h2x : k < l.Held.length := by omega
        have hfl := @filt_le _ q l.Held k
        refine cx_skip ?_
        refine cx_keep rfl rfl ?_
        refine cx_seq ?_
        refine cx_block ?_
        refine cx_seq ?_
        refine cx_ops ?_
        first | refine ax_q (q_fadr_ptr rfl) ?_ | refine ax_q (q_fadr_rptr rfl) ?_ | refine ax_q (q_fadr_ip rfl) ?_
        first | refine ax_q (q_load1_ptr rfl rfl rfl) ?_ | refine ax_q (q_load1_ip rfl) ?_ | refine ax_q (q_load1_rptr rfl rfl rfl rfl) ?_ | refine ax_q (q_load1_rptr rfl rfl (by assumption) rfl) ?_ | refine ax_q (q_load1_rptr rfl rfl (mapAt (by first | assumption | omega)) rfl) ?_
        refine ax_q (q_mov rfl) ?_
        refine ax_q (q_ix rfl rfl (mapAt h2x)) ?_
        first | refine ax_q (q_fadr_ptr rfl) ?_ | refine ax_q (q_fadr_rptr rfl) ?_ | refine ax_q (q_fadr_ip rfl) ?_
        first | refine ax_q (q_load1_ptr rfl rfl rfl) ?_ | refine ax_q (q_load1_ip rfl) ?_ | refine ax_q (q_load1_rptr rfl rfl rfl rfl) ?_ | refine ax_q (q_load1_rptr rfl rfl (by assumption) rfl) ?_ | refine ax_q (q_load1_rptr rfl rfl (mapAt (by first | assumption | omega)) rfl) ?_
        refine ax_q (q_mov rfl) ?_
        refine ax_q (q_ibin rfl rfl rfl) ?_
        refine ax_nil ?_
        refine cx_keep rfl rfl ?_
        refine cx_cond rfl (fun h3 => ?_) (fun h3 => ?_)
        · have h3 := dT h3
          have e1 := filt_succ (q := q) h2x (by show (!(!decide _)) = true; rw [decide_eq_true h3]; rfl)
          refine cx_ops ?_
          refine ax_q (q_mov rfl) ?_
          first | refine ax_q (q_fadr_ptr rfl) ?_ | refine ax_q (q_fadr_rptr rfl) ?_ | refine ax_q (q_fadr_ip rfl) ?_
          first | refine ax_q (q_load1_ptr rfl rfl rfl) ?_ | refine ax_q (q_load1_ip rfl) ?_ | refine ax_q (q_load1_rptr rfl rfl rfl rfl) ?_ | refine ax_q (q_load1_rptr rfl rfl (by assumption) rfl) ?_ | refine ax_q (q_load1_rptr rfl rfl (mapAt (by first | assumption | omega)) rfl) ?_
          refine ax_q (q_mov rfl) ?_
          refine ax_q (q_ix rfl rfl (mapAt h2x)) ?_
          first | refine ax_q (q_ldN rfl rfl rfl) ?_ | refine ax_q (q_loadN_ip rfl (Nat.le_refl _)) ?_ | refine ax_q (q_loadN_ip rfl (by decide)) ?_ | refine ax_q (q_loadN_rptr rfl rfl (by assumption) (by decide)) ?_ | refine ax_q (q_loadN_rptr rfl rfl (mapAt (by first | assumption | omega)) (by decide)) ?_
          refine ax_e (e_bslice rfl (by decide) rfl rfl) ?_
          refine ax_e (e_appn (n' := ((l.Held.take (k + 1)).filter q).length) (rs' := ((l.Held.take (k + 1)).filter q).map GLock.row) rfl rfl (by simp) rfl (src_osl rfl (by simp)) (.inl (by decide)) (hbnd (by omega) (by simp) (by decide)) (by rw [e1]; simp) (by rw [e1]; exact app1 rfl)) ?_
          refine ax_q (q_mov rfl) ?_
          refine ax_nil ?_
          refine cx_keep rfl rfl ?_
          refine cx_ops ?_
          refine ax_q (q_mov rfl) ?_
          refine ax_qe (r' := int ((k + 1 : Nat) : Int)) (q_ibin rfl rfl rfl) (by rw [wi (by omega) (by omega)]; rfl) ?_
          refine ax_q (q_mov rfl) ?_
          refine ax_nil ?_
          exact ⟨_, k + 1, by omega, ⟨by omega, rfl⟩, by repeat (first | exact trivial | refine ⟨rfl, ?_⟩ | refine ⟨?_, ?_⟩)⟩
        · have h3 := dF h3
          have e1 := filt_same (q := q) h2x (by show (!(!decide _)) = false; rw [decide_eq_false h3]; rfl)
          rw [← e1]
          refine cx_skip ?_
          refine cx_keep rfl rfl ?_
          refine cx_ops ?_
          refine ax_q (q_mov rfl) ?_
          refine ax_qe (r' := int ((k + 1 : Nat) : Int)) (q_ibin rfl rfl rfl) (by rw [wi (by omega) (by omega)]; rfl) ?_
          refine ax_q (q_mov rfl) ?_
          refine ax_nil ?_
          exact ⟨_, k + 1, by omega, ⟨by omega, rfl⟩, by repeat (first | exact trivial | refine ⟨rfl, ?_⟩ | refine ⟨?_, ?_⟩)⟩
      · have h2 := dF h2
        have h2x : k = l.Held.length := by omega
        subst h2x
        rw [List.take_length]
        refine cx_exit rfl ?_
        refine cx_keep rfl rfl ?_
        refine cx_seq ?_
        refine cx_ops ?_
        refine ax_q (q_mov rfl) ?_
        refine ax_q (q_mov rfl) ?_
        refine ax_q (q_mov rfl) ?_
        refine ax_nil ?_
        refine cx_keep rfl rfl ?_
        refine cx_ret (retN (fun _ => 0) [16] rfl rfl rfl rfl rfl ?_)
        rw [locksOfTx_3 h0 h1]; exact ⟨rfl, rfl⟩

end Go.Proofs.Ytljbgclkdfeegaa
