/- The walks: what each function computes, as a contract without a world (part 1). -/
import Derived.Test.YtgfabnojbjnepaaProg
import Derived.Test.YtgfabnojbjnepaaW0
namespace Go.Proofs.Ytgfabnojbjnepaa
open Go Go.AM
set_option maxRecDepth 10000
set_option linter.unusedVariables false
set_option linter.unusedSimpArgs false
/- loop.example/g00332/impl.checkLists -/
def k_c_checkLists : XCode :=
 .seq (.ops [.op (some 2) (.mov (.k (.nils 2))),
   .op (some 3) (.mov (.k (.nils 2)))])
 (.keep [0] (.seq (.ops [.op (some 7) (.mov (.t 0)),
   .op (some 8) (.s2b (.t 7)),
   .op (some 9) (.build [.nils 1, .bool false] [(0, 1, .t 8)]),
   .op (some 10) (.box (.t 9)),
   .op (some 11) (.bslice 2 []),
   .op (some 12) (.bslice 2 []),
   .op (some 4) (.mov (.t 10)),
   .op (some 5) (.mov (.t 11)),
   .op (some 6) (.mov (.t 12))])
 (.keep [4, 5, 6] (.seq (.seq (.ops [.op (some 13) (.mov (.t 4)),
   .call (some 14) 43 [.t 13],
   .op (some 15) (.mov (.k (.int .i64 0)))])
  (.keep [4, 5, 6, 14, 15] (.block 0 (.loop (.seq (.ops [.op (some 16) (.bin .lss (.t 15) (.t 14))])
   (.keep [4, 5, 6, 14, 15, 16] (.seq (.cond (.t 16)
    (.skip)
    (.exit 0))
   (.keep [4, 5, 6, 14, 15] (.seq (.block 1 (.ops [.op (some 17) (.mov (.t 5)),
     .op (some 18) (.mov (.t 4)),
     .call (some 19) 43 [.t 18],
     .op (some 20) (.mov (.t 4)),
     .call (some 21) 43 [.t 20],
     .op (some 22) (.build [.int .i64 0, .int .i64 0] [(0, 1, .t 19), (1, 1, .t 21)]),
     .op (some 23) (.bslice 2 [.t 22]),
     .op (some 24) (.app 2 16 [.int .i64 0, .int .i64 0] (.t 17) (.t 23)),
     .op (some 5) (.mov (.t 24))]))
   (.keep [4, 5, 6, 14, 15] (.ops [.op (some 25) (.bin .add (.t 15) (.k (.int .i64 1))),
    .op (some 15) (.mov (.t 25))])))))))))))
 (.keep [4, 5, 6] (.seq (.seq (.ops [.op (some 26) (.mov (.t 4)),
   .call (some 27) 43 [.t 26],
   .op (some 28) (.mov (.k (.int .i64 0)))])
  (.keep [4, 5, 6, 27, 28] (.block 2 (.loop (.seq (.ops [.op (some 29) (.bin .lss (.t 28) (.t 27))])
   (.keep [4, 5, 6, 27, 28, 29] (.seq (.cond (.t 29)
    (.skip)
    (.exit 2))
   (.keep [4, 5, 6, 27, 28] (.seq (.block 3 (.ops [.op (some 30) (.mov (.t 6)),
     .op (some 31) (.mov (.t 4)),
     .call (some 32) 43 [.t 31],
     .op (some 33) (.mov (.t 4)),
     .call (some 34) 43 [.t 33],
     .op (some 35) (.build [.int .i64 0, .int .i64 0] [(0, 1, .t 32), (1, 1, .t 34)]),
     .op (some 36) (.bslice 2 [.t 35]),
     .op (some 37) (.app 2 16 [.int .i64 0, .int .i64 0] (.t 30) (.t 36)),
     .op (some 6) (.mov (.t 37))]))
   (.keep [4, 5, 6, 27, 28] (.ops [.op (some 38) (.bin .add (.t 28) (.k (.int .i64 1))),
    .op (some 28) (.mov (.t 38))])))))))))))
 (.keep [5, 6] (.seq (.ops [.op (some 39) (.mov (.t 5)),
   .op (some 40) (.mov (.t 6)),
   .op (some 2) (.mov (.t 39)),
   .op (some 3) (.mov (.t 40))])
 (.keep [2, 3] (.ret))))))))))
theorem k_c_checkLists_fits : fitsF Try.prog 34 ⟨41, k_c_checkLists, [.t 2, .t 3]⟩ = true := by kernel_rfl
theorem c_checkLists {t : Str} {l1 l2 : List Pr} (hl : t.length ≤ 1048576) (hr : readC t = some (l1, l2)) : Con Try.prog noMv 34 [str t] [] (fun r h => r = .tup [.osl 0 2 0 l1.length, .osl 1 2 0 l2.length] ∧ h = [(0, .rows 2 (l1.map prRow)), (1, .rows 2 (l2.map prRow))]) := by
 refine con_of2 k_c_checkLists_fits rfl fun C hP hmv => ?_
 unfold k_c_checkLists
 obtain ⟨n1, n2, s1, s2, rfl, e1, e2, e4, e5⟩ := readC_parts hr
 have hb1 := n1.toNat_lt
 have hb2 := n2.toNat_lt
 have hsl1 := prs_len e1
 simp only [List.length_cons] at hsl1
 simp only [List.length_cons] at hl
 refine cx_seq ?_
 refine cx_ops ?_
 refine ax_q (q_mov rfl) ?_
 refine ax_q (q_mov rfl) ?_
 refine ax_nil ?_
 refine cx_keep rfl rfl ?_
 refine cx_seq ?_
 refine cx_ops ?_
 refine ax_q (q_mov rfl) ?_
 refine ax_e (e_s2b rfl (by decide) rfl rfl) ?_
 refine ax_wk (wk_frz 8 8 rfl rfl (.whole (by simp)) rfl) ?_
 refine ax_q (q_build rfl) ?_
 refine ax_e (e_box rfl rfl (by decide) rfl rfl rfl) ?_
 refine ax_e (e_bslice rfl (by decide) rfl rfl) ?_
 refine ax_e (e_bslice rfl (by decide) rfl rfl) ?_
 refine ax_q (q_mov rfl) ?_
 refine ax_q (q_mov rfl) ?_
 refine ax_q (q_mov rfl) ?_
 refine ax_nil ?_
 refine cx_keep rfl rfl ?_
 refine cx_seq ?_
 refine cx_seq ?_
 refine cx_ops ?_
 refine ax_q (q_mov rfl) ?_
 refine ax_call rfl (vcall_own (c_num (r0 := ⟨n1 :: s1, false⟩) ?_) hP hmv false (fun _ => 10) [1000] ⟨rfl, rfl, rfl, rfl, ⟨rfl, trivial⟩, rfl, rfl, rfl⟩ (.pass rfl rfl .nil) ?_)
 ·
  first | assumption | omega | (simp; done) | (simp; omega)
 rintro r h ⟨rfl, rfl⟩
 refine ⟨fun _ => 10, [], ⟨rfl, rfl, rfl, rfl, mem1 rfl, rfl, rfl, fun h => absurd h Bool.false_ne_true⟩, ?_⟩
 rw [numF_cons, ← e4]
 refine ax_q (q_mov rfl) ?_
 refine ax_nil ?_
 refine cx_keep rfl rfl ?_
 refine cx_block ?_
 refine cx_loopU (fun m (p : Nat × Str) => p.1 ≤ l1.length ∧ m = l1.length - p.1 ∧ p.2.length ≤ 1048576 ∧ prs (l1.length - p.1) p.2 = some (l1.drop p.1, n2 :: s2)) (fun p => [(15, int (p.1 : Nat)), (5, .osl 11 2 0 (l1.take p.1).length)]) (fun p => [(10, (⟨p.2, false⟩ : Rd).box), (11, .rows 2 ((l1.take p.1).map prRow)), (12, .rows 2 [])])
  ⟨_, (0, s1), ⟨Nat.zero_le _, rfl, by simp only; omega, by simp only [Nat.sub_zero, List.drop_zero]; exact e1⟩, by repeat (first | exact trivial | refine ⟨rfl, ?_⟩ | refine ⟨?_, ?_⟩)⟩ ?_
 rintro m ⟨k, u⟩ ⟨hk, rfl, hu, hp⟩
 simp only at hk hu hp ⊢
 refine cx_seq ?_
 refine cx_ops ?_
 refine ax_q (q_ibin rfl rfl rfl) ?_
 refine ax_nil ?_
 refine cx_keep rfl rfl ?_
 refine cx_seq ?_
 refine cx_cond rfl (fun h0 => ?_) (fun h0 => ?_)
 ·
  have h0 := dT h0
  have hkx : k < l1.length := by omega
  obtain ⟨c1, c2, u2, rfl, hq, hp2⟩ := prs_step (l := l1) (k := k) hkx hp
  simp only [List.length_cons] at hu
  refine cx_skip ?_
  refine cx_keep rfl rfl ?_
  refine cx_seq ?_
  refine cx_block ?_
  refine cx_ops ?_
  refine ax_q (q_mov rfl) ?_
  refine ax_q (q_mov rfl) ?_
  refine ax_call rfl (vcall_own (c_num (r0 := ⟨c1 :: c2 :: u2, false⟩) ?_) hP hmv false (fun _ => 10) [1000] ⟨rfl, rfl, rfl, rfl, ⟨rfl, trivial⟩, rfl, rfl, rfl⟩ (.pass rfl rfl .nil) ?_)
  ·
   first | assumption | omega | (simp; done) | (simp; omega)
  rintro r h ⟨rfl, rfl⟩
  refine ⟨fun _ => 10, [], ⟨rfl, rfl, rfl, rfl, mem1 rfl, rfl, rfl, fun h => absurd h Bool.false_ne_true⟩, ?_⟩
  rw [numF_cons]
  refine ax_q (q_mov rfl) ?_
  refine ax_call rfl (vcall_own (c_num (r0 := ⟨c2 :: u2, false⟩) ?_) hP hmv false (fun _ => 10) [1000] ⟨rfl, rfl, rfl, rfl, ⟨rfl, trivial⟩, rfl, rfl, rfl⟩ (.pass rfl rfl .nil) ?_)
  ·
   first | assumption | omega | (simp; done) | (simp; omega)
  rintro r h ⟨rfl, rfl⟩
  refine ⟨fun _ => 10, [], ⟨rfl, rfl, rfl, rfl, mem1 rfl, rfl, rfl, fun h => absurd h Bool.false_ne_true⟩, ?_⟩
  rw [numF_cons]
  refine ax_q (q_build rfl) ?_
  refine ax_e (e_bslice rfl (by decide) rfl rfl) ?_
  refine ax_e (e_appn (n' := (l1.take (k + 1)).length) (rs' := (l1.take (k + 1)).map prRow) rfl rfl (by simp) rfl (src_osl rfl (by simp)) (.inl (by decide)) (hbnd (by simp only [List.length_take]; omega) (by simp) (by decide)) (by simp only [List.drop_zero, Nat.min_self, List.length_take, List.length_cons, List.length_nil, Nat.min_eq_left (show k ≤ l1.length by omega), Nat.min_eq_left (show k + 1 ≤ l1.length by omega)]) ((congrArg (· ++ _) (List.take_of_length_le (by simp))).trans (take_pr hq))) ?_
  refine ax_q (q_mov rfl) ?_
  refine ax_nil ?_
  refine cx_keep rfl rfl ?_
  refine cx_ops ?_
  refine ax_qe (r' := int ((k + 1 : Nat) : Int)) (q_ibin rfl rfl rfl) (by rw [wi (by omega) (by omega)]; rfl) ?_
  refine ax_q (q_mov rfl) ?_
  refine ax_nil ?_
  exact ⟨_, (k + 1, u2), by omega, ⟨by simp only; omega, rfl, by simp only; omega, hp2⟩, by repeat (first | exact trivial | refine ⟨rfl, ?_⟩ | refine ⟨?_, ?_⟩)⟩
 ·
  have h0 := dF h0
  obtain rfl : k = l1.length := by omega
  obtain rfl : u = n2 :: s2 := by rw [Nat.sub_self] at hp; exact (prs_stop hp)
  rw [List.take_length]
  refine cx_exit rfl ?_
  refine cx_keep rfl rfl ?_
  refine cx_seq ?_
  refine cx_seq ?_
  refine cx_ops ?_
  refine ax_q (q_mov rfl) ?_
  refine ax_call rfl (vcall_own (c_num (r0 := ⟨n2 :: s2, false⟩) ?_) hP hmv false (fun _ => 10) [1000] ⟨rfl, rfl, rfl, rfl, ⟨rfl, trivial⟩, rfl, rfl, rfl⟩ (.pass rfl rfl .nil) ?_)
  ·
   first | assumption | omega | (simp; done) | (simp; omega)
  rintro r h ⟨rfl, rfl⟩
  refine ⟨fun _ => 10, [], ⟨rfl, rfl, rfl, rfl, mem1 rfl, rfl, rfl, fun h => absurd h Bool.false_ne_true⟩, ?_⟩
  rw [numF_cons, ← e5]
  refine ax_q (q_mov rfl) ?_
  refine ax_nil ?_
  refine cx_keep rfl rfl ?_
  refine cx_block ?_
  refine cx_loopU (fun m (p : Nat × Str) => p.1 ≤ l2.length ∧ m = l2.length - p.1 ∧ p.2.length ≤ 1048576 ∧ prs (l2.length - p.1) p.2 = some (l2.drop p.1, ([] : Str))) (fun p => [(28, int (p.1 : Nat)), (6, .osl 12 2 0 (l2.take p.1).length)]) (fun p => [(10, (⟨p.2, false⟩ : Rd).box), (12, .rows 2 ((l2.take p.1).map prRow)), (11, .rows 2 (l1.map prRow))])
   ⟨_, (0, s2), ⟨Nat.zero_le _, rfl, by simp only; omega, by simp only [Nat.sub_zero, List.drop_zero]; exact e2⟩, by repeat (first | exact trivial | refine ⟨rfl, ?_⟩ | refine ⟨?_, ?_⟩)⟩ ?_
  rintro m ⟨k, u⟩ ⟨hk, rfl, hu, hp⟩
  simp only at hk hu hp ⊢
  refine cx_seq ?_
  refine cx_ops ?_
  refine ax_q (q_ibin rfl rfl rfl) ?_
  refine ax_nil ?_
  refine cx_keep rfl rfl ?_
  refine cx_seq ?_
  refine cx_cond rfl (fun h1 => ?_) (fun h1 => ?_)
  ·
   have h1 := dT h1
   have hkx : k < l2.length := by omega
   obtain ⟨c1, c2, u2, rfl, hq, hp2⟩ := prs_step (l := l2) (k := k) hkx hp
   simp only [List.length_cons] at hu
   refine cx_skip ?_
   refine cx_keep rfl rfl ?_
   refine cx_seq ?_
   refine cx_block ?_
   refine cx_ops ?_
   refine ax_q (q_mov rfl) ?_
   refine ax_q (q_mov rfl) ?_
   refine ax_call rfl (vcall_own (c_num (r0 := ⟨c1 :: c2 :: u2, false⟩) ?_) hP hmv false (fun _ => 10) [1000] ⟨rfl, rfl, rfl, rfl, ⟨rfl, trivial⟩, rfl, rfl, rfl⟩ (.pass rfl rfl .nil) ?_)
   ·
    first | assumption | omega | (simp; done) | (simp; omega)
   rintro r h ⟨rfl, rfl⟩
   refine ⟨fun _ => 10, [], ⟨rfl, rfl, rfl, rfl, mem1 rfl, rfl, rfl, fun h => absurd h Bool.false_ne_true⟩, ?_⟩
   rw [numF_cons]
   refine ax_q (q_mov rfl) ?_
   refine ax_call rfl (vcall_own (c_num (r0 := ⟨c2 :: u2, false⟩) ?_) hP hmv false (fun _ => 10) [1000] ⟨rfl, rfl, rfl, rfl, ⟨rfl, trivial⟩, rfl, rfl, rfl⟩ (.pass rfl rfl .nil) ?_)
   ·
    first | assumption | omega | (simp; done) | (simp; omega)
   rintro r h ⟨rfl, rfl⟩
   refine ⟨fun _ => 10, [], ⟨rfl, rfl, rfl, rfl, mem1 rfl, rfl, rfl, fun h => absurd h Bool.false_ne_true⟩, ?_⟩
   rw [numF_cons]
   refine ax_q (q_build rfl) ?_
   refine ax_e (e_bslice rfl (by decide) rfl rfl) ?_
   refine ax_e (e_appn (n' := (l2.take (k + 1)).length) (rs' := (l2.take (k + 1)).map prRow) rfl rfl (by simp) rfl (src_osl rfl (by simp)) (.inl (by decide)) (hbnd (by simp only [List.length_take]; omega) (by simp) (by decide)) (by simp only [List.drop_zero, Nat.min_self, List.length_take, List.length_cons, List.length_nil, Nat.min_eq_left (show k ≤ l2.length by omega), Nat.min_eq_left (show k + 1 ≤ l2.length by omega)]) ((congrArg (· ++ _) (List.take_of_length_le (by simp))).trans (take_pr hq))) ?_
   refine ax_q (q_mov rfl) ?_
   refine ax_nil ?_
   refine cx_keep rfl rfl ?_
   refine cx_ops ?_
   refine ax_qe (r' := int ((k + 1 : Nat) : Int)) (q_ibin rfl rfl rfl) (by rw [wi (by omega) (by omega)]; rfl) ?_
   refine ax_q (q_mov rfl) ?_
   refine ax_nil ?_
   exact ⟨_, (k + 1, u2), by omega, ⟨by simp only; omega, rfl, by simp only; omega, hp2⟩, by repeat (first | exact trivial | refine ⟨rfl, ?_⟩ | refine ⟨?_, ?_⟩)⟩
  ·
   have h1 := dF h1
   obtain rfl : k = l2.length := by omega
   obtain rfl : u = ([] : Str) := by rw [Nat.sub_self] at hp; exact (prs_stop hp)
   rw [List.take_length]
   refine cx_exit rfl ?_
   refine cx_keep rfl rfl ?_
   refine cx_seq ?_
   refine cx_ops ?_
   refine ax_q (q_mov rfl) ?_
   refine ax_q (q_mov rfl) ?_
   refine ax_q (q_mov rfl) ?_
   refine ax_q (q_mov rfl) ?_
   refine ax_nil ?_
   refine cx_keep rfl rfl ?_
   refine cx_ret (retN (fun e => bif Nat.beq e 12 then 1 else 0) [11, 12] rfl rfl rfl rfl rfl ?_)
   exact ⟨rfl, rfl⟩


/- slices.IndexFunc[[]loop.example/g00332/impl.Tx,loop.example/g00332/impl.Tx] -/
def k_c_IndexFunc_Tx : XCode :=
 .seq (.ops [.op (some 4) (.mov (.k (.int .i64 0)))])
 (.keep [0, 1] (.seq (.seq (.ops [.op (some 6) (.mov (.t 0)),
   .op (some 7) (.lenS (.t 6)),
   .op (some 8) (.mov (.k (.int .i64 0)))])
  (.keep [0, 1, 7, 8] (.block 0 (.loop (.seq (.ops [.op (some 9) (.bin .lss (.t 8) (.t 7))])
   (.keep [0, 1, 7, 8, 9] (.seq (.cond (.t 9)
    (.skip)
    (.exit 0))
   (.keep [0, 1, 7, 8] (.seq (.block 1 (.seq (.ops [.op (some 10) (.mov (.t 8)),
     .op (some 5) (.mov (.t 10))])
    (.keep [0, 1, 5, 7, 8] (.seq (.ops [.op (some 11) (.mov (.t 1)),
     .op (some 12) (.mov (.t 0)),
     .op (some 13) (.mov (.t 5)),
     .op (some 14) (.iadr 2 (.t 12) (.t 13)),
     .op (some 15) (.loadN 2 (.t 14)),
     .callv (some 16) (.t 11) [.t 15]])
    (.keep [0, 1, 5, 7, 8, 16] (.cond (.t 16)
    (.seq (.ops [.op (some 17) (.mov (.t 5)),
      .op (some 4) (.mov (.t 17))])
     (.keep [4] (.ret)))
    (.skip)))))))
   (.keep [0, 1, 7, 8] (.ops [.op (some 18) (.bin .add (.t 8) (.k (.int .i64 1))),
    .op (some 8) (.mov (.t 18))])))))))))))
 (.keep [] (.seq (.ops [.op (some 4) (.mov (.k (.int .i64 (-1))))])
 (.keep [4] (.ret))))))
theorem k_c_IndexFunc_Tx_fits : fitsF Try.prog 44 ⟨19, k_c_IndexFunc_Tx, [.t 4]⟩ = true := by kernel_rfl
theorem c_IndexFunc_Tx {xs : List GTx} {f : Nat} {ds : List D} (p : GTx → Bool) (hw : xs.length ≤ 9223372036854775807) (hb : hasBody Try.prog f = true) (hf : ∀ s ∈ xs, Con Try.prog noMv f (s.av :: ds.map AV.d) [] (fun r h => r = bool (p s) ∧ h = [])) : Con Try.prog noMv 44 [.d (.sl 2 (xs.map GTx.row)), .d (.fn (.func f) ds)] [] (fun r h => r = int (idxOf p xs 0) ∧ h = []) := by
 refine con_of2 k_c_IndexFunc_Tx_fits rfl fun C hP hmv => ?_
 unfold k_c_IndexFunc_Tx
 refine cx_seq ?_
 refine cx_ops ?_
 refine ax_q (q_mov rfl) ?_
 refine ax_nil ?_
 refine cx_keep rfl rfl ?_
 refine cx_seq ?_
 refine cx_seq ?_
 refine cx_ops ?_
 refine ax_q (q_mov rfl) ?_
 first | refine ax_q (q_lenS_map rfl) ?_ | refine ax_q (q_lenS_osl rfl) ?_ | refine ax_q (q_lenS_zs rfl) ?_ | refine ax_q (q_lenS rfl) ?_
 refine ax_q (q_mov rfl) ?_
 refine ax_nil ?_
 refine cx_keep rfl rfl ?_
 refine cx_block ?_
 refine cx_loopU (fun n k => k ≤ xs.length ∧ n = xs.length - k ∧ ∀ i, i < k → ∀ x, xs[i]? = some x → p x = false) (fun k : Nat => [(8, int k)]) (fun _ => []) ⟨_, 0, ⟨by omega, rfl, fun i hi => by omega⟩, by repeat (first | exact trivial | refine ⟨rfl, ?_⟩ | refine ⟨?_, ?_⟩)⟩ ?_
 rintro n k ⟨hk, rfl, ht⟩
 refine cx_seq ?_
 refine cx_ops ?_
 refine ax_q (q_ibin rfl rfl rfl) ?_
 refine ax_nil ?_
 refine cx_keep rfl rfl ?_
 refine cx_seq ?_
 refine cx_cond rfl (fun h0 => ?_) (fun h0 => ?_)
 ·
  have h0 := dT h0
  have h0x : k < xs.length := by omega
  refine cx_skip ?_
  refine cx_keep rfl rfl ?_
  refine cx_seq ?_
  refine cx_block ?_
  refine cx_seq ?_
  refine cx_ops ?_
  refine ax_q (q_mov rfl) ?_
  refine ax_q (q_mov rfl) ?_
  refine ax_nil ?_
  refine cx_keep rfl rfl ?_
  refine cx_seq ?_
  refine cx_ops ?_
  refine ax_q (q_mov rfl) ?_
  refine ax_q (q_mov rfl) ?_
  refine ax_q (q_mov rfl) ?_
  refine ax_q (q_ix rfl rfl (mapAt h0x)) ?_
  first | refine ax_q (q_ldN rfl rfl rfl) ?_ | refine ax_q (q_loadN_ip rfl (Nat.le_refl _)) ?_ | refine ax_q (q_loadN_ip rfl (by decide)) ?_ | refine ax_q (q_loadN_rptr rfl rfl (by assumption) (by decide)) ?_ | refine ax_q (q_loadN_rptr rfl rfl (mapAt (by first | assumption | omega)) (by decide)) ?_
  refine ax_callvD rfl (by rw [hP]; exact hb) rfl (vc_pure0 (hf _ (List.getElem_mem h0x)) hP (refs_cons rfl ds) rfl ?_)
  refine ax_nil ?_
  refine cx_keep rfl rfl ?_
  refine cx_cond rfl (fun h1 => ?_) (fun h1 => ?_)
  ·
   skip
   refine cx_seq ?_
   refine cx_ops ?_
   refine ax_q (q_mov rfl) ?_
   refine ax_q (q_mov rfl) ?_
   refine ax_nil ?_
   refine cx_keep rfl rfl ?_
   refine cx_ret (ret0 rfl rfl ?_)
   exact ⟨by rw [idxOf_hit h0x ht h1]; rfl, rfl⟩
  ·
   skip
   refine cx_skip ?_
   refine cx_keep rfl rfl ?_
   refine cx_ops ?_
   refine ax_qe (r' := int ((k + 1 : Nat) : Int)) (q_ibin rfl rfl rfl) (by rw [wi (by omega) (by omega)]; rfl) ?_
   refine ax_q (q_mov rfl) ?_
   refine ax_nil ?_
   exact ⟨_, k + 1, by omega, ⟨by omega, rfl, before_step h0x ht h1⟩, by repeat (first | exact trivial | refine ⟨rfl, ?_⟩ | refine ⟨?_, ?_⟩)⟩
 ·
  have h0 := dF h0
  have h0x : k = xs.length := by omega
  refine cx_exit rfl ?_
  refine cx_keep rfl rfl ?_
  refine cx_seq ?_
  refine cx_ops ?_
  refine ax_q (q_mov rfl) ?_
  refine ax_nil ?_
  refine cx_keep rfl rfl ?_
  refine cx_ret (ret0 rfl rfl ?_)
  exact ⟨by rw [idxOf_none (fun i hi => ht i (by omega))]; rfl, rfl⟩


/- slices.DeleteFunc[[]loop.example/g00332/impl.Tx,loop.example/g00332/impl.Tx] -/
def k_c_DeleteFunc_Tx : XCode :=
 .seq (.ops [.op (some 4) (.mov (.k (.nils 2)))])
 (.keep [0, 1] (.seq (.ops [.op (some 8) (.mov (.t 0)),
   .op (some 9) (.mov (.t 1)),
   .call (some 10) 44 [.t 8, .t 9],
   .op (some 5) (.mov (.t 10))])
 (.keep [0, 1, 5] (.seq (.seq (.ops [.op (some 11) (.mov (.t 5)),
   .op (some 12) (.bin .eql (.t 11) (.k (.int .i64 (-1))))])
  (.keep [0, 1, 5, 12] (.cond (.t 12)
  (.seq (.ops [.op (some 13) (.mov (.t 0)),
    .op (some 4) (.mov (.t 13))])
   (.keep [4] (.ret)))
  (.skip))))
 (.keep [0, 1, 5] (.seq (.seq (.ops [.op (some 14) (.mov (.t 5)),
   .op (some 15) (.bin .add (.t 14) (.k (.int .i64 1))),
   .op (some 6) (.mov (.t 15))])
  (.keep [0, 1, 5, 6] (.block 0 (.loop (.seq (.seq (.ops [.op (some 16) (.mov (.t 6)),
     .op (some 17) (.mov (.t 0)),
     .op (some 18) (.lenS (.t 17)),
     .op (some 19) (.bin .lss (.t 16) (.t 18))])
   (.keep [0, 1, 5, 6, 19] (.cond (.t 19)
    (.skip)
    (.exit 0))))
   (.keep [0, 1, 5, 6] (.seq (.block 1 (.seq (.ops [.op (some 22) (.mov (.t 0)),
     .op (some 23) (.mov (.t 6)),
     .op (some 24) (.iadr 2 (.t 22) (.t 23)),
     .op (some 25) (.loadN 2 (.t 24)),
     .op (some 7) (.alloc [.int .i64 0, .int .i64 0]),
     .op none (.store 2 (.t 7) (.t 25))])
    (.keep [0, 1, 5, 6, 7] (.seq (.ops [.op (some 26) (.mov (.t 1)),
     .op (some 27) (.loadN 2 (.t 7)),
     .callv (some 28) (.t 26) [.t 27],
     .op (some 29) (.not (.t 28))])
    (.keep [0, 1, 5, 6, 7, 29] (.cond (.t 29)
    (.seq (.ops [.op (some 30) (.mov (.t 0)),
      .op (some 31) (.mov (.t 5)),
      .op (some 32) (.loadN 2 (.t 7)),
      .op (some 33) (.iadr 2 (.t 30) (.t 31)),
      .op none (.store 2 (.t 33) (.t 32))])
     (.keep [0, 1, 5, 6] (.ops [.op (some 34) (.mov (.t 5)),
      .op (some 35) (.bin .add (.t 34) (.k (.int .i64 1))),
      .op (some 5) (.mov (.t 35))])))
    (.skip)))))))
   (.keep [0, 1, 5, 6] (.ops [.op (some 20) (.mov (.t 6)),
    .op (some 21) (.bin .add (.t 20) (.k (.int .i64 1))),
    .op (some 6) (.mov (.t 21))])))))))))
 (.keep [0, 5] (.seq (.ops [.op (some 36) (.mov (.t 0)),
   .op (some 37) (.mov (.t 5)),
   .op (some 38) (.slc 2 (.t 36) (some (.t 37)) none none),
   .op none (.clr 2 [.int .i64 0, .int .i64 0] (.t 38))])
 (.keep [0, 5] (.seq (.ops [.op (some 39) (.mov (.t 0)),
   .op (some 40) (.mov (.t 5)),
   .op (some 41) (.slc 2 (.t 39) none (some (.t 40)) none),
   .op (some 4) (.mov (.t 41))])
 (.keep [4] (.ret))))))))))))
theorem k_c_DeleteFunc_Tx_fits : fitsF Try.prog 35 ⟨42, k_c_DeleteFunc_Tx, [.t 4]⟩ = true := by kernel_rfl
theorem c_DeleteFunc_Tx {xs : List GTx} {f : Nat} {ds : List D} (p : GTx → Bool) (hw : xs.length ≤ 1048576) (hb : hasBody Try.prog f = true) (hf : ∀ s ∈ xs, Con Try.prog noMv f (s.av :: ds.map AV.d) [] (fun r h => r = bool (p s) ∧ h = [])) : Con Try.prog noMv 35 [.osl 1000 2 0 xs.length, .d (.fn (.func f) ds)] [(1000, .rows 2 (xs.map GTx.row))] (fun r h => r = .osl 1000 2 0 (xs.filter (fun x => !p x)).length ∧ h = [(1000, .rows 2 ((xs.filter (fun x => !p x)).map GTx.row))]) := by
 refine con_of2 k_c_DeleteFunc_Tx_fits rfl fun C hP hmv => ?_
 unfold k_c_DeleteFunc_Tx
 refine cx_seq ?_
 refine cx_ops ?_
 refine ax_q (q_mov rfl) ?_
 refine ax_nil ?_
 refine cx_keep rfl rfl ?_
 refine cx_seq ?_
 refine cx_ops ?_
 refine ax_q (q_mov rfl) ?_
 refine ax_q (q_mov rfl) ?_
 refine ax_call rfl (vc_lend0 (c_IndexFunc_Tx (xs := xs) p (by omega) hb hf) hP (.cons (.lend (lend_whole rfl (by simp))) (.cons (.d _) .nil)) rfl rfl ?_)
 refine ax_q (q_mov rfl) ?_
 refine ax_nil ?_
 refine cx_keep rfl rfl ?_
 refine cx_seq ?_
 refine cx_seq ?_
 refine cx_ops ?_
 refine ax_q (q_mov rfl) ?_
 refine ax_q (q_ibin rfl rfl rfl) ?_
 refine ax_nil ?_
 refine cx_keep rfl rfl ?_
 refine cx_cond rfl (fun h0 => ?_) (fun h0 => ?_)
 ·
  have h0 := dT h0
  refine cx_seq ?_
  refine cx_ops ?_
  refine ax_q (q_mov rfl) ?_
  refine ax_q (q_mov rfl) ?_
  refine ax_nil ?_
  refine cx_keep rfl rfl ?_
  have e := filter_all (idxOf_neg h0)
  refine cx_ret (retN id [1000] rfl rfl rfl rfl rfl ?_)
  rw [e]
  exact ⟨rfl, rfl⟩
 ·
  have h0 := dF h0
  obtain ⟨i, hi0, hi, hpi, hbi⟩ := idxOf_some h0
  obtain ⟨e1, e2⟩ := strk_first hi hpi hbi
  have e3 : ((xs.take (i + 1)).filter (fun x => !p x)).length = i := by rw [e2, List.length_take]; omega
  rw [hi0]
  refine cx_skip ?_
  refine cx_keep rfl rfl ?_
  refine cx_seq ?_
  refine cx_seq ?_
  refine cx_ops ?_
  refine ax_q (q_mov rfl) ?_
  refine ax_qe (r' := int ((i + 1 : Nat) : Int)) (q_ibin rfl rfl rfl) (by rw [wi (by omega) (by omega)]; rfl) ?_
  refine ax_q (q_mov rfl) ?_
  refine ax_nil ?_
  refine cx_keep rfl rfl ?_
  refine cx_block ?_
  refine cx_loopU (fun n (s : Nat × List GTx) => s.1 ≤ xs.length ∧ n = xs.length - s.1 ∧ ((xs.take s.1).filter (fun x => !p x)).length + s.2.length = s.1 ∧ 0 < s.2.length) (fun s => [(5, int ((xs.take s.1).filter (fun x => !p x)).length), (6, int s.1)]) (fun s => [(1000, .rows 2 ((strk p xs s.1 s.2).map GTx.row))])
   ⟨_, (i + 1, [xs[i]]), ⟨by simp only; omega, rfl, by simp only [e3, List.length_singleton], by simp⟩, by rw [e3, e1]; exact by repeat (first | exact trivial | refine ⟨rfl, ?_⟩ | refine ⟨?_, ?_⟩)⟩ ?_
  rintro n ⟨j, mid⟩ ⟨hj, rfl, hm, hm0⟩
  simp only at hj hm hm0 ⊢
  have hsl := strk_len hm hj
  refine cx_seq ?_
  refine cx_seq ?_
  refine cx_ops ?_
  refine ax_q (q_mov rfl) ?_
  refine ax_q (q_mov rfl) ?_
  first | refine ax_q (q_lenS_map rfl) ?_ | refine ax_q (q_lenS_osl rfl) ?_ | refine ax_q (q_lenS_zs rfl) ?_ | refine ax_q (q_lenS rfl) ?_
  refine ax_q (q_ibin rfl rfl rfl) ?_
  refine ax_nil ?_
  refine cx_keep rfl rfl ?_
  refine cx_cond rfl (fun h1 => ?_) (fun h1 => ?_)
  ·
   have h1 := dT h1
   have h1x : j < xs.length := by omega
   refine cx_skip ?_
   refine cx_keep rfl rfl ?_
   refine cx_seq ?_
   refine cx_block ?_
   refine cx_seq ?_
   refine cx_ops ?_
   refine ax_q (q_mov rfl) ?_
   refine ax_q (q_mov rfl) ?_
   refine ax_q (q_ixo rfl rfl (by omega)) ?_
   refine ax_q (q_loadN_rptr rfl rfl (show ((strk p xs j mid).map GTx.row)[j]? = some (GTx.row xs[j]) from by rw [List.getElem?_map, strk_at hm h1x]; rfl) (by decide)) ?_
   refine ax_e (e_alloc (by decide) rfl rfl) ?_
   refine ax_e (e_st rfl rfl rfl rfl rfl rfl rfl) ?_
   refine ax_nil ?_
   refine cx_keep rfl rfl ?_
   refine cx_seq ?_
   refine cx_ops ?_
   refine ax_q (q_mov rfl) ?_
   refine ax_q (q_ldN rfl rfl rfl) ?_
   refine ax_callvD rfl (by rw [hP]; exact hb) rfl (vc_pure0 (hf _ (List.getElem_mem h1x)) hP (refs_cons rfl ds) rfl ?_)
   refine ax_q (q_not rfl) ?_
   refine ax_nil ?_
   refine cx_keep rfl rfl ?_
   refine cx_cond rfl (fun h2 => ?_) (fun h2 => ?_)
   ·
    have h2 := bT h2
    obtain ⟨m, mid, rfl⟩ : ∃ m r, mid = m :: r := ⟨mid.head (by intro h; rw [h] at hm0; simp at hm0), mid.tail, by simp⟩
    have e6 : ((xs.take (j + 1)).filter (fun x => !p x)).length = ((xs.take j).filter (fun x => !p x)).length + 1 := by rw [take_filter_keep h1x h2, List.length_append]; rfl
    have hml : (m :: mid).length = mid.length + 1 := rfl
    have hq : ((xs.take j).filter (fun x => !p x)).length < xs.length := by omega
    have e5 := strk_set (row := GTx.row) (m := m) (mid := mid) h1x h2 rfl
    refine cx_seq ?_
    refine cx_ops ?_
    refine ax_q (q_mov rfl) ?_
    refine ax_q (q_mov rfl) ?_
    refine ax_q (q_ldN rfl rfl rfl) ?_
    refine ax_q (q_ixo rfl rfl hq) ?_
    refine ax_e (e_str (q := GTx.row xs[j]) (row := GTx.row (strk p xs j (m :: mid))[((xs.take j).filter (fun x => !p x)).length]) rfl rfl rfl rfl rfl rfl (mapAt (by rw [hsl]; exact hq)) rfl rfl e5) ?_
    refine ax_nil ?_
    refine cx_keep rfl rfl ?_
    refine cx_ops ?_
    refine ax_q (q_mov rfl) ?_
    refine ax_qe (r' := int ((((xs.take j).filter (fun x => !p x)).length + 1 : Nat) : Int)) (q_ibin rfl rfl rfl) (by rw [wi (by omega) (by omega)]; rfl) ?_
    refine ax_q (q_mov rfl) ?_
    refine ax_nil ?_
    refine cx_keep rfl rfl ?_
    refine cx_ops ?_
    refine ax_q (q_mov rfl) ?_
    refine ax_qe (r' := int ((j + 1 : Nat) : Int)) (q_ibin rfl rfl rfl) (by rw [wi (by omega) (by omega)]; rfl) ?_
    refine ax_q (q_mov rfl) ?_
    refine ax_nil ?_
    exact ⟨_, (j + 1, mid ++ [xs[j]]), by simp only; omega, ⟨by simp only; omega, rfl, by simp only [e6, List.length_append, List.length_singleton]; omega, by simp⟩, by simp only [e6]; exact by repeat (first | exact trivial | refine ⟨rfl, ?_⟩ | refine ⟨?_, ?_⟩)⟩
   ·
    have h2 := bF h2
    have e6 : ((xs.take (j + 1)).filter (fun x => !p x)).length = ((xs.take j).filter (fun x => !p x)).length := by rw [take_filter_drop h1x h2]
    have e5 := strk_drop (mid := mid) h1x h2
    rw [e5]
    refine cx_skip ?_
    refine cx_keep rfl rfl ?_
    refine cx_ops ?_
    refine ax_q (q_mov rfl) ?_
    refine ax_qe (r' := int ((j + 1 : Nat) : Int)) (q_ibin rfl rfl rfl) (by rw [wi (by omega) (by omega)]; rfl) ?_
    refine ax_q (q_mov rfl) ?_
    refine ax_nil ?_
    exact ⟨_, (j + 1, mid ++ [xs[j]]), by simp only; omega, ⟨by simp only; omega, rfl, by simp only [e6, List.length_append, List.length_singleton]; omega, by simp⟩, by simp only [e6]; exact by repeat (first | exact trivial | refine ⟨rfl, ?_⟩ | refine ⟨?_, ?_⟩)⟩
  ·
   have h1 := dF h1
   have h1x : j = xs.length := by omega
   subst h1x
   rw [List.take_length] at hm ⊢
   refine cx_exit rfl ?_
   refine cx_keep rfl rfl ?_
   refine cx_seq ?_
   refine cx_ops ?_
   refine ax_q (q_mov rfl) ?_
   refine ax_q (q_mov rfl) ?_
   refine ax_qe (r' := .osl 1000 2 (xs.filter (fun x => !p x)).length (xs.length - (xs.filter (fun x => !p x)).length)) (q_slc_osl rfl rfl rfl (by omega) (by omega) (by omega)) (oslE (by omega) (by omega)) ?_
   refine ax_ee (e_clr (row := [.int .i64 0, .int .i64 0]) rfl rfl (by rw [List.length_map, hsl]; omega) rfl) rfl ?_
   refine ax_nil ?_
   refine cx_keep rfl rfl ?_
   refine cx_seq ?_
   refine cx_ops ?_
   refine ax_q (q_mov rfl) ?_
   refine ax_q (q_mov rfl) ?_
   refine ax_qe (r' := .osl 1000 2 0 (xs.filter (fun x => !p x)).length) (q_slc_osl rfl rfl rfl (by omega) (by omega) (by omega)) (oslE (by omega) (by omega)) ?_
   refine ax_q (q_mov rfl) ?_
   refine ax_nil ?_
   refine cx_keep rfl rfl ?_
   refine cx_wk (wk_rows 1000 (rs' := (xs.filter (fun x => !p x)).map GTx.row) rfl strk_end) ?_
   refine cx_ret (retN id [1000] rfl rfl rfl rfl rfl ?_)
   exact ⟨rfl, rfl⟩


/- loop.example/g00332/impl.analyze$1 -/
def k_c_analyze1 : XCode :=
 .seq (.ops [.op (some 2) (.box (.t 0)),
   .op (some 3) (.mov (.k (.bool false)))])
 (.keep [1, 2] (.seq (.ops [.op (some 4) (.fadr (.t 2) 0),
   .op (some 5) (.load1 (.t 4)),
   .op (some 6) (.fadr (.t 1) 2),
   .op (some 7) (.load1 (.t 6)),
   .op (some 8) (.bin .eql (.t 5) (.t 7)),
   .op (some 3) (.mov (.t 8))])
 (.keep [3] (.ret))))
theorem k_c_analyze1_fits : fitsF Try.prog 36 ⟨9, k_c_analyze1, [.t 3]⟩ = true := by kernel_rfl
theorem c_analyze1 {a : GTx} {x : GLogRecord} : Con Try.prog noMv 36 [a.av, .d (.ip x.row)] [] (fun r h => r = bool (decide (a.Id = x.Tx)) ∧ h = []) := by
 refine con_of2 k_c_analyze1_fits rfl fun C hP hmv => ?_
 unfold k_c_analyze1
 refine cx_seq ?_
 refine cx_ops ?_
 refine ax_e (e_box rfl rfl (by decide) rfl rfl rfl) ?_
 refine ax_q (q_mov rfl) ?_
 refine ax_nil ?_
 refine cx_keep rfl rfl ?_
 refine cx_seq ?_
 refine cx_ops ?_
 refine ax_q (q_fadr_ptr rfl) ?_
 refine ax_q (q_load1_ptr rfl rfl rfl) ?_
 first | refine ax_q (q_fadr_ptr rfl) ?_ | refine ax_q (q_fadr_rptr rfl) ?_ | refine ax_q (q_fadr_ip rfl) ?_
 first | refine ax_q (q_load1_ptr rfl rfl rfl) ?_ | refine ax_q (q_load1_ip rfl) ?_ | refine ax_q (q_load1_rptr rfl rfl rfl rfl) ?_ | refine ax_q (q_load1_rptr rfl rfl (by assumption) rfl) ?_ | refine ax_q (q_load1_rptr rfl rfl (mapAt (by first | assumption | omega)) rfl) ?_
 refine ax_q (q_ibin rfl rfl rfl) ?_
 refine ax_q (q_mov rfl) ?_
 refine ax_nil ?_
 refine cx_keep rfl rfl ?_
 refine cx_ret (ret0 rfl rfl ?_)
 exact ⟨rfl, rfl⟩


/- slices.BinarySearchFunc[[]loop.example/g00332/impl.Dirty,loop.example/g00332/impl.Dirty,loop.example/g00332/impl.Dirty] -/
def k_c_BSF_Dirty : XCode :=
 .seq (.ops [.op (some 4) (.box (.t 1)),
   .op (some 6) (.mov (.k (.int .i64 0))),
   .op (some 7) (.mov (.k (.bool false)))])
 (.keep [0, 2, 4] (.seq (.ops [.op (some 12) (.mov (.t 0)),
   .op (some 13) (.lenS (.t 12)),
   .op (some 8) (.mov (.t 13))])
 (.keep [0, 2, 4, 8] (.seq (.ops [.op (some 14) (.mov (.t 8)),
   .op (some 9) (.mov (.k (.int .i64 0))),
   .op (some 10) (.mov (.t 14))])
 (.keep [0, 2, 4, 8, 9, 10] (.seq (.block 0 (.loop (.seq (.seq (.ops [.op (some 15) (.mov (.t 9)),
     .op (some 16) (.mov (.t 10)),
     .op (some 17) (.bin .lss (.t 15) (.t 16))])
   (.keep [0, 2, 4, 8, 9, 10, 17] (.cond (.t 17)
    (.skip)
    (.exit 0))))
   (.keep [0, 2, 4, 8, 9, 10] (.block 1 (.seq (.ops [.op (some 18) (.mov (.t 9)),
     .op (some 19) (.mov (.t 10)),
     .op (some 20) (.bin .add (.t 18) (.t 19)),
     .op (some 21) (.conv .u64 (.t 20)),
     .op (some 22) (.bin .shr (.t 21) (.k (.int .u64 1))),
     .op (some 23) (.conv .i64 (.t 22)),
     .op (some 11) (.mov (.t 23))])
   (.keep [0, 2, 4, 8, 9, 10, 11] (.seq (.draw [.op (some 24) (.mov (.t 2)),
     .op (some 25) (.mov (.t 0)),
     .op (some 26) (.mov (.t 11)),
     .op (some 27) (.iadr 2 (.t 25) (.t 26)),
     .op (some 28) (.loadN 2 (.t 27)),
     .op (some 29) (.loadN 2 (.t 4)),
     .callv (some 30) (.t 24) [.t 28, .t 29],
     .op (some 31) (.bin .lss (.t 30) (.k (.int .i64 0)))])
   (.keep [0, 2, 4, 8, 9, 10, 11, 31] (.cond (.t 31)
    (.ops [.op (some 32) (.mov (.t 11)),
     .op (some 33) (.bin .add (.t 32) (.k (.int .i64 1))),
     .op (some 9) (.mov (.t 33))])
    (.ops [.op (some 34) (.mov (.t 11)),
     .op (some 10) (.mov (.t 34))])))))))))))
 (.keep [0, 2, 4, 8, 9] (.seq (.draw [.op (some 35) (.mov (.t 9)),
   .op (some 36) (.mov (.t 9)),
   .op (some 37) (.mov (.t 8)),
   .op (some 38) (.bin .lss (.t 36) (.t 37)),
   .op (some 39) (.mov (.t 38)),
   .andor 48 true 4 39 [.op (some 40) (.mov (.t 2)), .op (some 41) (.mov (.t 0)), .op (some 42) (.mov (.t 9)), .op (some 43) (.iadr 2 (.t 41) (.t 42)), .op (some 44) (.loadN 2 (.t 43)), .op (some 45) (.loadN 2 (.t 4)), .callv (some 46) (.t 40) [.t 44, .t 45], .op (some 47) (.bin .eql (.t 46) (.k (.int .i64 0)))] (.t 47),
   .op (some 6) (.mov (.t 35)),
   .op (some 7) (.mov (.t 48))])
 (.keep [6, 7] (.ret))))))))))
theorem k_c_BSF_Dirty_fits : fitsF Try.prog 45 ⟨49, k_c_BSF_Dirty, [.t 6, .t 7]⟩ = true := by kernel_rfl
theorem c_BSF_Dirty {xs : List GDirty} {f : Nat} {ds : List D} {y : GDirty} (p : GDirty → Int) {k : Nat} (hk : k ≤ xs.length) (hl : xs.length ≤ 1000000) (hb : hasBody Try.prog f = true) (hf : ∀ s ∈ xs, Con Try.prog noMv f (s.av :: y.av :: ds.map AV.d) [] (fun r h => r = int (p s) ∧ h = [])) (q1 : ∀ j (h : j < xs.length), j < k → p xs[j] < 0) (q2 : ∀ j (h : j < xs.length), k ≤ j → 0 ≤ p xs[j]) : Con Try.prog noMv 45 [.d (.sl 2 (xs.map GDirty.row)), y.av, .d (.fn (.func f) ds)] [] (fun r h => r = .tup [int (k : Nat), bool (hitA p xs k)] ∧ h = []) := by
 refine con_of2 k_c_BSF_Dirty_fits rfl fun C hP hmv => ?_
 unfold k_c_BSF_Dirty
 refine cx_seq ?_
 refine cx_ops ?_
 refine ax_e (e_box rfl rfl (by decide) rfl rfl rfl) ?_
 refine ax_q (q_mov rfl) ?_
 refine ax_q (q_mov rfl) ?_
 refine ax_nil ?_
 refine cx_keep rfl rfl ?_
 refine cx_seq ?_
 refine cx_ops ?_
 refine ax_q (q_mov rfl) ?_
 first | refine ax_q (q_lenS_map rfl) ?_ | refine ax_q (q_lenS_osl rfl) ?_ | refine ax_q (q_lenS_zs rfl) ?_ | refine ax_q (q_lenS rfl) ?_
 refine ax_q (q_mov rfl) ?_
 refine ax_nil ?_
 refine cx_keep rfl rfl ?_
 refine cx_seq ?_
 refine cx_ops ?_
 refine ax_q (q_mov rfl) ?_
 refine ax_q (q_mov rfl) ?_
 refine ax_q (q_mov rfl) ?_
 refine ax_nil ?_
 refine cx_keep rfl rfl ?_
 refine cx_seq ?_
 refine cx_block ?_
 refine cx_loopU (fun n (p : Nat × Nat) => p.1 ≤ k ∧ k ≤ p.2 ∧ p.2 ≤ xs.length ∧ n = p.2 - p.1) (fun p => [(9, int (p.1 : Nat)), (10, int (p.2 : Nat))]) (fun _ => [(4, .box (y.row.map .d))]) ⟨_, (0, xs.length), ⟨Nat.zero_le _, hk, Nat.le_refl _, rfl⟩, by repeat (first | exact trivial | refine ⟨rfl, ?_⟩ | refine ⟨?_, ?_⟩)⟩ ?_
 rintro n ⟨i, j⟩ ⟨hi, hj, hjl, rfl⟩
 simp only at hi hj hjl ⊢
 refine cx_seq ?_
 refine cx_seq ?_
 refine cx_ops ?_
 refine ax_q (q_mov rfl) ?_
 refine ax_q (q_mov rfl) ?_
 refine ax_q (q_ibin rfl rfl rfl) ?_
 refine ax_nil ?_
 refine cx_keep rfl rfl ?_
 refine cx_cond rfl (fun h0 => ?_) (fun h0 => ?_)
 ·
  have h0 := dT h0
  have hij : i < j := by omega
  have hh : (i + j) / 2 < xs.length := by omega
  refine cx_skip ?_
  refine cx_keep rfl rfl ?_
  refine cx_block ?_
  refine cx_seq ?_
  refine cx_ops ?_
  refine ax_q (q_mov rfl) ?_
  refine ax_q (q_mov rfl) ?_
  refine ax_qe (r' := int ((i + j : Nat) : Int)) (q_ibin rfl rfl rfl) (by rw [wi (by omega) (by omega)]; rfl) ?_
  refine ax_qe (r' := .d (.int .u64 ((i + j : Nat) : Int))) (q_conv rfl) (u64N (by omega)) ?_
  refine ax_qe (r' := .d (.int .u64 (((i + j) / 2 : Nat) : Int))) (q_ishf rfl rfl rfl (by omega)) (shrN) ?_
  refine ax_qe (r' := int (((i + j) / 2 : Nat) : Int)) (q_conv rfl) (i64N (by omega)) ?_
  refine ax_q (q_mov rfl) ?_
  refine ax_nil ?_
  refine cx_keep rfl rfl ?_
  refine cx_seq ?_
  refine cx_draw ?_
  refine ax_q (q_mov rfl) ?_
  refine ax_q (q_mov rfl) ?_
  refine ax_q (q_mov rfl) ?_
  refine ax_q (q_ix rfl rfl (mapAt hh)) ?_
  first | refine ax_q (q_ldN rfl rfl rfl) ?_ | refine ax_q (q_loadN_ip rfl (Nat.le_refl _)) ?_ | refine ax_q (q_loadN_ip rfl (by decide)) ?_ | refine ax_q (q_loadN_rptr rfl rfl (by assumption) (by decide)) ?_ | refine ax_q (q_loadN_rptr rfl rfl (mapAt (by first | assumption | omega)) (by decide)) ?_
  refine ax_q (q_ldN rfl rfl rfl) ?_
  refine ax_callvqD rfl (by rw [hP]; exact hb) rfl (hf _ (List.getElem_mem hh)) hP (lal_id _ (plain_cons2 rfl rfl ds)) rfl ?_
  refine ax_q (q_ibin rfl rfl rfl) ?_
  refine ax_nil ?_
  refine cx_keep rfl rfl ?_
  refine cx_cond rfl (fun h1 => ?_) (fun h1 => ?_)
  ·
   have h1 := dT h1
   refine cx_ops ?_
   refine ax_q (q_mov rfl) ?_
   refine ax_qe (r' := int (((i + j) / 2 + 1 : Nat) : Int)) (q_ibin rfl rfl rfl) (by rw [wi (by omega) (by omega)]; rfl) ?_
   refine ax_q (q_mov rfl) ?_
   refine ax_nil ?_
   exact ⟨_, ((i + j) / 2 + 1, j), by simp only; omega, ⟨by simp only; exact Nat.lt_of_not_le (fun h => by have := q2 _ hh h; omega), by simp only; omega, by simp only; omega, rfl⟩, by repeat (first | exact trivial | refine ⟨rfl, ?_⟩ | refine ⟨?_, ?_⟩)⟩
  ·
   have h1 := dF h1
   refine cx_ops ?_
   refine ax_q (q_mov rfl) ?_
   refine ax_q (q_mov rfl) ?_
   refine ax_nil ?_
   exact ⟨_, (i, (i + j) / 2), by simp only; omega, ⟨by simp only; omega, by simp only; exact Nat.le_of_not_lt (fun h => by have := q1 _ hh h; omega), by simp only; omega, rfl⟩, by repeat (first | exact trivial | refine ⟨rfl, ?_⟩ | refine ⟨?_, ?_⟩)⟩
 ·
  have h0 := dF h0
  have hij : i = k := by omega
  subst hij
  refine cx_exit rfl ?_
  refine cx_keep rfl rfl ?_
  refine cx_seq ?_
  refine cx_draw ?_
  refine ax_q (q_mov rfl) ?_
  refine ax_q (q_mov rfl) ?_
  refine ax_q (q_mov rfl) ?_
  refine ax_q (q_ibin rfl rfl rfl) ?_
  refine ax_q (q_mov rfl) ?_
  apply ax_and rfl rfl
  ·
   intro g
   have g := dT g
   refine ax_q (q_mov rfl) ?_
   refine ax_q (q_mov rfl) ?_
   refine ax_q (q_mov rfl) ?_
   have hg : i < xs.length := by omega
   refine ax_q (q_ix rfl rfl (mapAt hg)) ?_
   first | refine ax_q (q_ldN rfl rfl rfl) ?_ | refine ax_q (q_loadN_ip rfl (Nat.le_refl _)) ?_ | refine ax_q (q_loadN_ip rfl (by decide)) ?_ | refine ax_q (q_loadN_rptr rfl rfl (by assumption) (by decide)) ?_ | refine ax_q (q_loadN_rptr rfl rfl (mapAt (by first | assumption | omega)) (by decide)) ?_
   refine ax_q (q_ldN rfl rfl rfl) ?_
   refine ax_callvqD rfl (by rw [hP]; exact hb) rfl (hf _ (List.getElem_mem hg)) hP (lal_id _ (plain_cons2 rfl rfl ds)) rfl ?_
   refine ax_qe (r' := bool (hitA p xs i)) (q_ibin rfl rfl rfl) (by rw [hitA_1 hg]) ?_
   exact ax_nil ⟨rfl, by repeat (first | exact trivial | refine ⟨rfl, ?_⟩ | refine ⟨?_, ?_⟩)⟩
  refine ax_q (q_mov rfl) ?_
  refine ax_q (q_mov rfl) ?_
  refine ax_nil ?_
  refine cx_keep rfl rfl ?_
  refine cx_ret (ret0 rfl rfl ?_)
  exact ⟨by rw [hitA_and]; rfl, rfl⟩


/- cmp.isNaN[int] -/
def k_c_isNaN_int : XCode :=
 .seq (.ops [.op (some 2) (.mov (.k (.bool false)))])
 (.keep [0] (.seq (.ops [.op (some 3) (.mov (.t 0)),
   .op (some 4) (.mov (.t 0)),
   .op (some 5) (.bin .neq (.t 3) (.t 4)),
   .op (some 2) (.mov (.t 5))])
 (.keep [2] (.ret))))
theorem k_c_isNaN_int_fits : fitsF Try.prog 55 ⟨6, k_c_isNaN_int, [.t 2]⟩ = true := by kernel_rfl
theorem c_isNaN_int {x : Int} : Con Try.prog noMv 55 [int x] [] (fun r h => r = bool false ∧ h = []) := by
 refine con_of2 k_c_isNaN_int_fits rfl fun C hP hmv => ?_
 unfold k_c_isNaN_int
 refine cx_seq ?_
 refine cx_ops ?_
 refine ax_q (q_mov rfl) ?_
 refine ax_nil ?_
 refine cx_keep rfl rfl ?_
 refine cx_seq ?_
 refine cx_ops ?_
 refine ax_q (q_mov rfl) ?_
 refine ax_q (q_mov rfl) ?_
 refine ax_q (q_ibin rfl rfl rfl) ?_
 refine ax_q (q_mov rfl) ?_
 refine ax_nil ?_
 refine cx_keep rfl rfl ?_
 refine cx_ret (ret0 rfl rfl ?_)
 exact ⟨by simp; rfl, rfl⟩


/- cmp.Compare[int] -/
def k_c_Compare_int : XCode :=
 .seq (.ops [.op (some 4) (.mov (.k (.int .i64 0)))])
 (.keep [0, 1] (.seq (.ops [.op (some 7) (.mov (.t 0)),
   .call (some 8) 55 [.t 7],
   .op (some 5) (.mov (.t 8))])
 (.keep [0, 1, 5] (.seq (.ops [.op (some 9) (.mov (.t 1)),
   .call (some 10) 55 [.t 9],
   .op (some 6) (.mov (.t 10))])
 (.keep [0, 1, 5, 6] (.seq (.seq (.ops [.op (some 11) (.mov (.t 5))])
  (.keep [0, 1, 6, 11] (.cond (.t 11)
  (.seq (.seq (.ops [.op (some 12) (.mov (.t 6))])
   (.keep [12] (.cond (.t 12)
    (.seq (.ops [.op (some 4) (.mov (.k (.int .i64 0)))])
    (.keep [4] (.ret)))
    (.skip))))
   (.keep [] (.seq (.ops [.op (some 4) (.mov (.k (.int .i64 (-1))))])
   (.keep [4] (.ret)))))
  (.skip))))
 (.keep [0, 1, 6] (.seq (.seq (.ops [.op (some 13) (.mov (.t 6))])
  (.keep [0, 1, 13] (.cond (.t 13)
  (.seq (.ops [.op (some 4) (.mov (.k (.int .i64 1)))])
   (.keep [4] (.ret)))
  (.skip))))
 (.keep [0, 1] (.seq (.seq (.ops [.op (some 14) (.mov (.t 0)),
   .op (some 15) (.mov (.t 1)),
   .op (some 16) (.bin .lss (.t 14) (.t 15))])
  (.keep [0, 1, 16] (.cond (.t 16)
  (.seq (.ops [.op (some 4) (.mov (.k (.int .i64 (-1))))])
   (.keep [4] (.ret)))
  (.skip))))
 (.keep [0, 1] (.seq (.seq (.ops [.op (some 17) (.mov (.t 0)),
   .op (some 18) (.mov (.t 1)),
   .op (some 19) (.bin .gtr (.t 17) (.t 18))])
  (.keep [19] (.cond (.t 19)
  (.seq (.ops [.op (some 4) (.mov (.k (.int .i64 1)))])
   (.keep [4] (.ret)))
  (.skip))))
 (.keep [] (.seq (.ops [.op (some 4) (.mov (.k (.int .i64 0)))])
 (.keep [4] (.ret))))))))))))))))
theorem k_c_Compare_int_fits : fitsF Try.prog 47 ⟨20, k_c_Compare_int, [.t 4]⟩ = true := by kernel_rfl
theorem c_Compare_int {a b : Int} : Con Try.prog noMv 47 [int a, int b] [] (fun r h => r = int (cmpI a b) ∧ h = []) := by
 refine con_of2 k_c_Compare_int_fits rfl fun C hP hmv => ?_
 unfold k_c_Compare_int
 refine cx_seq ?_
 refine cx_ops ?_
 refine ax_q (q_mov rfl) ?_
 refine ax_nil ?_
 refine cx_keep rfl rfl ?_
 refine cx_seq ?_
 refine cx_ops ?_
 refine ax_q (q_mov rfl) ?_
 first | refine ax_call rfl (vc_pure0 (c_isNaN_int  ) hP rfl rfl ?_) | refine ax_call rfl (vc_lend0 (c_isNaN_int  ) hP (by repeat (first | exact lal_id _ rfl | exact LAL.nil | refine LAL.cons ?_ ?_ | exact la_id _ rfl | exact LA.lend (lend_whole rfl (by first | (simp; done) | (rw [List.length_map]; rfl))) | refine LA.agg ?_ | refine LA.fn ?_ | refine LA.lend ?_ | exact Lend.d _ | exact Lend.zs _ | exact lend_whole rfl (by first | (simp; done) | (rw [List.length_map]; rfl)) | refine Lend.ptr rfl ?_ | refine Lend.fn ?_ | exact LendL.nil | refine LendL.cons ?_ ?_)) rfl rfl ?_)
 refine ax_q (q_mov rfl) ?_
 refine ax_nil ?_
 refine cx_keep rfl rfl ?_
 refine cx_seq ?_
 refine cx_ops ?_
 refine ax_q (q_mov rfl) ?_
 first | refine ax_call rfl (vc_pure0 (c_isNaN_int  ) hP rfl rfl ?_) | refine ax_call rfl (vc_lend0 (c_isNaN_int  ) hP (by repeat (first | exact lal_id _ rfl | exact LAL.nil | refine LAL.cons ?_ ?_ | exact la_id _ rfl | exact LA.lend (lend_whole rfl (by first | (simp; done) | (rw [List.length_map]; rfl))) | refine LA.agg ?_ | refine LA.fn ?_ | refine LA.lend ?_ | exact Lend.d _ | exact Lend.zs _ | exact lend_whole rfl (by first | (simp; done) | (rw [List.length_map]; rfl)) | refine Lend.ptr rfl ?_ | refine Lend.fn ?_ | exact LendL.nil | refine LendL.cons ?_ ?_)) rfl rfl ?_)
 refine ax_q (q_mov rfl) ?_
 refine ax_nil ?_
 refine cx_keep rfl rfl ?_
 refine cx_seq ?_
 refine cx_seq ?_
 refine cx_ops ?_
 refine ax_q (q_mov rfl) ?_
 refine ax_nil ?_
 refine cx_keep rfl rfl ?_
 refine cx_cond rfl (fun h0 => ?_) (fun h0 => ?_)
 ·
  skip
  exact absurd h0 Bool.false_ne_true
 ·
  skip
  refine cx_skip ?_
  refine cx_keep rfl rfl ?_
  refine cx_seq ?_
  refine cx_seq ?_
  refine cx_ops ?_
  refine ax_q (q_mov rfl) ?_
  refine ax_nil ?_
  refine cx_keep rfl rfl ?_
  refine cx_cond rfl (fun h2 => ?_) (fun h2 => ?_)
  ·
   skip
   exact absurd h2 Bool.false_ne_true
  ·
   skip
   refine cx_skip ?_
   refine cx_keep rfl rfl ?_
   refine cx_seq ?_
   refine cx_seq ?_
   refine cx_ops ?_
   refine ax_q (q_mov rfl) ?_
   refine ax_q (q_mov rfl) ?_
   refine ax_q (q_ibin rfl rfl rfl) ?_
   refine ax_nil ?_
   refine cx_keep rfl rfl ?_
   refine cx_cond rfl (fun h3 => ?_) (fun h3 => ?_)
   ·
    have h3 := dT h3
    refine cx_seq ?_
    refine cx_ops ?_
    refine ax_q (q_mov rfl) ?_
    refine ax_nil ?_
    refine cx_keep rfl rfl ?_
    refine cx_ret (ret0 rfl rfl ?_)
    exact ⟨by rw [show cmpI a b = -1 from by unfold cmpI; rw [if_neg (by omega), if_pos h3]]; rfl, rfl⟩
   ·
    have h3 := dF h3
    refine cx_skip ?_
    refine cx_keep rfl rfl ?_
    refine cx_seq ?_
    refine cx_seq ?_
    refine cx_ops ?_
    refine ax_q (q_mov rfl) ?_
    refine ax_q (q_mov rfl) ?_
    refine ax_q (q_ibin rfl rfl rfl) ?_
    refine ax_nil ?_
    refine cx_keep rfl rfl ?_
    refine cx_cond rfl (fun h4 => ?_) (fun h4 => ?_)
    ·
     have h4 := dT h4
     refine cx_seq ?_
     refine cx_ops ?_
     refine ax_q (q_mov rfl) ?_
     refine ax_nil ?_
     refine cx_keep rfl rfl ?_
     refine cx_ret (ret0 rfl rfl ?_)
     exact ⟨by rw [show cmpI a b = 1 from by unfold cmpI; rw [if_neg (by omega), if_neg h3]]; rfl, rfl⟩
    ·
     have h4 := dF h4
     refine cx_skip ?_
     refine cx_keep rfl rfl ?_
     refine cx_seq ?_
     refine cx_ops ?_
     refine ax_q (q_mov rfl) ?_
     refine ax_nil ?_
     refine cx_keep rfl rfl ?_
     refine cx_ret (ret0 rfl rfl ?_)
     exact ⟨by rw [show cmpI a b = 0 from by unfold cmpI; rw [if_pos (by omega)]]; rfl, rfl⟩


/- loop.example/g00332/impl.putDirty$1 -/
def k_c_putDirty1 : XCode :=
 .seq (.ops [.op (some 2) (.box (.t 0)),
   .op (some 3) (.box (.t 1)),
   .op (some 4) (.mov (.k (.int .i64 0)))])
 (.keep [2, 3] (.seq (.ops [.op (some 5) (.fadr (.t 2) 0),
   .op (some 6) (.load1 (.t 5)),
   .op (some 7) (.fadr (.t 3) 0),
   .op (some 8) (.load1 (.t 7)),
   .call (some 9) 47 [.t 6, .t 8],
   .op (some 4) (.mov (.t 9))])
 (.keep [4] (.ret))))
theorem k_c_putDirty1_fits : fitsF Try.prog 46 ⟨10, k_c_putDirty1, [.t 4]⟩ = true := by kernel_rfl
theorem c_putDirty1 {a b : GDirty} : Con Try.prog noMv 46 [a.av, b.av] [] (fun r h => r = int (cmpI a.No b.No) ∧ h = []) := by
 refine con_of2 k_c_putDirty1_fits rfl fun C hP hmv => ?_
 unfold k_c_putDirty1
 refine cx_seq ?_
 refine cx_ops ?_
 refine ax_e (e_box rfl rfl (by decide) rfl rfl rfl) ?_
 refine ax_e (e_box rfl rfl (by decide) rfl rfl rfl) ?_
 refine ax_q (q_mov rfl) ?_
 refine ax_nil ?_
 refine cx_keep rfl rfl ?_
 refine cx_seq ?_
 refine cx_ops ?_
 refine ax_q (q_fadr_ptr rfl) ?_
 refine ax_q (q_load1_ptr rfl rfl rfl) ?_
 refine ax_q (q_fadr_ptr rfl) ?_
 refine ax_q (q_load1_ptr rfl rfl rfl) ?_
 first | refine ax_call rfl (vc_pure0 (c_Compare_int  ) hP rfl rfl ?_) | refine ax_call rfl (vc_lend0 (c_Compare_int  ) hP (by repeat (first | exact lal_id _ rfl | exact LAL.nil | refine LAL.cons ?_ ?_ | exact la_id _ rfl | exact LA.lend (lend_whole rfl (by first | (simp; done) | (rw [List.length_map]; rfl))) | refine LA.agg ?_ | refine LA.fn ?_ | refine LA.lend ?_ | exact Lend.d _ | exact Lend.zs _ | exact lend_whole rfl (by first | (simp; done) | (rw [List.length_map]; rfl)) | refine Lend.ptr rfl ?_ | refine Lend.fn ?_ | exact LendL.nil | refine LendL.cons ?_ ?_)) rfl rfl ?_)
 refine ax_q (q_mov rfl) ?_
 refine ax_nil ?_
 refine cx_keep rfl rfl ?_
 refine cx_ret (ret0 rfl rfl ?_)
 exact ⟨rfl, rfl⟩


/- slices.Insert[[]loop.example/g00332/impl.Dirty,loop.example/g00332/impl.Dirty] -/
def k_c_Insert_Dirty : XCode :=
 .seq (.ops [.op (some 6) (.mov (.k (.nils 2)))])
 (.keep [0, 1, 2] (.seq (.ops [.op (some 10) (.mov (.t 0)),
   .op (some 11) (.mov (.t 1)),
   .op (some 12) (.slc 2 (.t 10) (some (.t 11)) none none)])
 (.keep [0, 1, 2] (.seq (.ops [.op (some 13) (.mov (.t 2)),
   .op (some 14) (.lenS (.t 13)),
   .op (some 7) (.mov (.t 14))])
 (.keep [0, 1, 2, 7] (.seq (.seq (.ops [.op (some 15) (.mov (.t 7)),
   .op (some 16) (.bin .eql (.t 15) (.k (.int .i64 0)))])
  (.keep [0, 1, 2, 7, 16] (.cond (.t 16)
  (.seq (.ops [.op (some 17) (.mov (.t 0)),
    .op (some 6) (.mov (.t 17))])
   (.keep [6] (.ret)))
  (.skip))))
 (.keep [0, 1, 2, 7] (.seq (.ops [.op (some 18) (.mov (.t 0)),
   .op (some 19) (.lenS (.t 18)),
   .op (some 8) (.mov (.t 19))])
 (.keep [0, 1, 2, 7, 8] (.seq (.seq (.ops [.op (some 20) (.mov (.t 1)),
   .op (some 21) (.mov (.t 8)),
   .op (some 22) (.bin .eql (.t 20) (.t 21))])
  (.keep [0, 1, 2, 7, 8, 22] (.cond (.t 22)
  (.seq (.ops [.op (some 23) (.mov (.t 0)),
    .op (some 24) (.mov (.t 2)),
    .op (some 25) (.app 2 16 [.int .i64 0, .int .i64 0] (.t 23) (.t 24)),
    .op (some 6) (.mov (.t 25))])
   (.keep [6] (.ret)))
  (.skip))))
 (.keep [0, 1, 2, 7, 8] (.seq (.seq (.ops [.op (some 26) (.mov (.t 8)),
   .op (some 27) (.mov (.t 7)),
   .op (some 28) (.bin .add (.t 26) (.t 27)),
   .op (some 29) (.mov (.t 0)),
   .op (some 30) (.capS (.t 29)),
   .op (some 31) (.bin .gtr (.t 28) (.t 30))])
  (.keep [0, 1, 2, 7, 8, 31] (.cond (.t 31)
  (.seq (.ops [.op (some 32) (.mov (.t 0)),
    .op (some 33) (.mov (.t 1)),
    .op (some 34) (.slc 2 (.t 32) none (some (.t 33)) none),
    .op (some 35) (.mov (.t 8)),
    .op (some 36) (.mov (.t 7)),
    .op (some 37) (.bin .add (.t 35) (.t 36)),
    .op (some 38) (.mov (.t 1)),
    .op (some 39) (.bin .sub (.t 37) (.t 38)),
    .op (some 40) (.appz 2 16 [.int .i64 0, .int .i64 0] (.t 34) (.t 39)),
    .op (some 9) (.mov (.t 40))])
   (.keep [0, 1, 2, 7, 9] (.seq (.ops [.op (some 41) (.mov (.t 9)),
    .op (some 42) (.mov (.t 1)),
    .op (some 43) (.slc 2 (.t 41) (some (.t 42)) none none),
    .op (some 44) (.mov (.t 2)),
    .op (some 45) (.cpy 2 (.t 43) (.t 44))])
   (.keep [0, 1, 7, 9] (.seq (.drawE [[], [], [], [1, 2], [0, 1, 2, 3], [], [], [5, 6], [0, 1, 2, 3, 4, 5, 6, 7]] [.op (some 46) (.mov (.t 9)),
    .op (some 47) (.mov (.t 1)),
    .op (some 48) (.mov (.t 7)),
    .op (some 49) (.bin .add (.t 47) (.t 48)),
    .op (some 50) (.slc 2 (.t 46) (some (.t 49)) none none),
    .op (some 51) (.mov (.t 0)),
    .op (some 52) (.mov (.t 1)),
    .op (some 53) (.slc 2 (.t 51) (some (.t 52)) none none)]
    [.op (some 54) (.cpy 2 (.t 50) (.t 53))])
   (.keep [9] (.seq (.ops [.op (some 55) (.mov (.t 9)),
    .op (some 6) (.mov (.t 55))])
   (.keep [6] (.ret)))))))))
  (.skip))))
 (.keep [0, 1, 2, 7, 8] (.seq (.ops [.op (some 56) (.mov (.t 0)),
   .op (some 57) (.mov (.t 8)),
   .op (some 58) (.mov (.t 7)),
   .op (some 59) (.bin .add (.t 57) (.t 58)),
   .op (some 60) (.slc 2 (.t 56) none (some (.t 59)) none),
   .op (some 0) (.mov (.t 60))])
 (.keep [0, 1, 2, 7, 8] (.seq (.seq (.ops [.op (some 61) (.mov (.t 2)),
   .op (some 62) (.mov (.t 0)),
   .op (some 63) (.mov (.t 1)),
   .op (some 64) (.mov (.t 7)),
   .op (some 65) (.bin .add (.t 63) (.t 64)),
   .op (some 66) (.slc 2 (.t 62) (some (.t 65)) none none),
   .op (some 67) (.ext2 56 (.t 61) (.t 66)),
   .op (some 68) (.not (.t 67))])
  (.keep [0, 1, 2, 7, 8, 68] (.cond (.t 68)
  (.seq (.drawE [[], [], [], [1, 2], [0, 1, 2, 3], [], [], [5, 6], [0, 1, 2, 3, 4, 5, 6, 7]] [.op (some 69) (.mov (.t 0)),
    .op (some 70) (.mov (.t 1)),
    .op (some 71) (.mov (.t 7)),
    .op (some 72) (.bin .add (.t 70) (.t 71)),
    .op (some 73) (.slc 2 (.t 69) (some (.t 72)) none none),
    .op (some 74) (.mov (.t 0)),
    .op (some 75) (.mov (.t 1)),
    .op (some 76) (.slc 2 (.t 74) (some (.t 75)) none none)]
    [.op (some 77) (.cpy 2 (.t 73) (.t 76))])
   (.keep [0, 1, 2] (.seq (.ops [.op (some 78) (.mov (.t 0)),
    .op (some 79) (.mov (.t 1)),
    .op (some 80) (.slc 2 (.t 78) (some (.t 79)) none none),
    .op (some 81) (.mov (.t 2)),
    .op (some 82) (.cpy 2 (.t 80) (.t 81))])
   (.keep [0] (.seq (.ops [.op (some 83) (.mov (.t 0)),
    .op (some 6) (.mov (.t 83))])
   (.keep [6] (.ret)))))))
  (.skip))))
 (.keep [0, 1, 2, 7, 8] (.seq (.ops [.op (some 84) (.mov (.t 0)),
   .op (some 85) (.mov (.t 8)),
   .op (some 86) (.slc 2 (.t 84) (some (.t 85)) none none),
   .op (some 87) (.mov (.t 2)),
   .op (some 88) (.cpy 2 (.t 86) (.t 87))])
 (.keep [0, 1, 7] (.seq (.ops [.op (some 89) (.mov (.t 0)),
   .op (some 90) (.mov (.t 1)),
   .op (some 91) (.slc 2 (.t 89) (some (.t 90)) none none),
   .op (some 92) (.mov (.t 7)),
   .call (some 93) 57 [.t 91, .t 92]])
 (.keep [0] (.seq (.ops [.op (some 94) (.mov (.t 0)),
   .op (some 6) (.mov (.t 94))])
 (.keep [6] (.ret))))))))))))))))))))))))
theorem k_c_Insert_Dirty_fits : fitsF Try.prog 48 ⟨95, k_c_Insert_Dirty, [.t 6]⟩ = true := by kernel_rfl
set_option maxHeartbeats 4000000 in
theorem c_Insert_Dirty {xs : List GDirty} {x : GDirty} {i : Nat} (hi : i ≤ xs.length) (hl : xs.length ≤ 1000000) : Con Try.prog (fun e => Nat.beq e 1000) 48 [.osl 1000 2 0 xs.length, int (i : Nat), .osl 1001 2 0 1] [(1000, .rows 2 (xs.map GDirty.row)), (1001, .rows 2 ([x].map GDirty.row))] (fun r h => r = .osl 1000 2 0 (xs.length + 1) ∧ h = [(1000, .rows 2 ((insA xs i x).map GDirty.row)), (1001, .rows 2 ([x].map GDirty.row))]) := by
 refine con_of2 k_c_Insert_Dirty_fits rfl fun C hP hmv => ?_
 unfold k_c_Insert_Dirty
 refine cx_cap 0 rfl fun c hc => ?_
 refine cx_seq ?_
 refine cx_ops ?_
 refine ax_q (q_mov rfl) ?_
 refine ax_nil ?_
 refine cx_keep rfl rfl ?_
 refine cx_seq ?_
 refine cx_ops ?_
 refine ax_q (q_mov rfl) ?_
 refine ax_q (q_mov rfl) ?_
 refine ax_q (q_slcC rfl rfl rfl (by omega) (by omega) (by omega)) ?_
 refine ax_nil ?_
 refine cx_keep rfl rfl ?_
 refine cx_seq ?_
 refine cx_ops ?_
 refine ax_q (q_mov rfl) ?_
 first | refine ax_q (q_lenS_map rfl) ?_ | refine ax_q (q_lenS_osl rfl) ?_ | refine ax_q (q_lenS_zs rfl) ?_ | refine ax_q (q_lenS rfl) ?_
 refine ax_q (q_mov rfl) ?_
 refine ax_nil ?_
 refine cx_keep rfl rfl ?_
 refine cx_seq ?_
 refine cx_seq ?_
 refine cx_ops ?_
 refine ax_q (q_mov rfl) ?_
 refine ax_q (q_ibin rfl rfl rfl) ?_
 refine ax_nil ?_
 refine cx_keep rfl rfl ?_
 refine cx_cond rfl (fun h0 => ?_) (fun h0 => ?_)
 ·
  have h0 := dT h0
  exfalso; omega
 ·
  have h0 := dF h0
  refine cx_skip ?_
  refine cx_keep rfl rfl ?_
  refine cx_seq ?_
  refine cx_ops ?_
  refine ax_q (q_mov rfl) ?_
  refine ax_q (q_lenC rfl) ?_
  refine ax_q (q_mov rfl) ?_
  refine ax_nil ?_
  refine cx_keep rfl rfl ?_
  refine cx_seq ?_
  refine cx_seq ?_
  refine cx_ops ?_
  refine ax_q (q_mov rfl) ?_
  refine ax_q (q_mov rfl) ?_
  refine ax_q (q_ibin rfl rfl rfl) ?_
  refine ax_nil ?_
  refine cx_keep rfl rfl ?_
  refine cx_cond rfl (fun h1 => ?_) (fun h1 => ?_)
  ·
   have h1 := dT h1
   have hie : i = xs.length := by omega
   refine cx_seq ?_
   refine cx_ops ?_
   refine ax_q (q_mov rfl) ?_
   refine ax_q (q_mov rfl) ?_
   refine ax_wk (wk_uncap 23 rfl) ?_
   refine ax_e (e_appn (n' := xs.length + 1) (rs' := (insA xs i x).map GDirty.row) rfl rfl (by simp) rfl (src_osl rfl (by simp)) (.inr (by rw [hmv]; rfl)) (hbnd (by omega) (by simp) (by decide)) (by simp) (by rw [ins_end hie]; exact app1 rfl)) ?_
   refine ax_q (q_mov rfl) ?_
   refine ax_nil ?_
   refine cx_keep rfl rfl ?_
   refine cx_ret (retN id [1000, 1001] rfl rfl rfl rfl rfl ?_)
   exact ⟨rfl, rfl⟩
  ·
   have h1 := dF h1
   have hil : i < xs.length := by omega
   refine cx_skip ?_
   refine cx_keep rfl rfl ?_
   refine cx_seq ?_
   refine cx_seq ?_
   refine cx_ops ?_
   refine ax_q (q_mov rfl) ?_
   refine ax_q (q_mov rfl) ?_
   refine ax_q (q_add rfl rfl (by omega)) ?_
   refine ax_q (q_mov rfl) ?_
   refine ax_q (q_capC rfl) ?_
   refine ax_q (q_ibin rfl rfl rfl) ?_
   refine ax_nil ?_
   refine cx_keep rfl rfl ?_
   refine cx_cond rfl (fun h2 => ?_) (fun h2 => ?_)
   ·
    have h2 := dT h2
    refine cx_seq ?_
    refine cx_ops ?_
    refine ax_q (q_mov rfl) ?_
    refine ax_q (q_mov rfl) ?_
    refine ax_qe (r' := .oslc 1000 2 (0) (i) (c)) (q_slcC rfl rfl rfl (by omega) (by omega) (by omega)) (oslcE (by omega) (by omega) (by omega)) ?_
    refine ax_q (q_mov rfl) ?_
    refine ax_q (q_mov rfl) ?_
    refine ax_q (q_add rfl rfl (by omega)) ?_
    refine ax_q (q_mov rfl) ?_
    refine ax_qe (r' := int ((xs.length + 1 - i : Nat) : Int)) (q_ibin rfl rfl rfl) (by
     rw [wi (by omega) (by omega)]
     exact congrArg AM.int (by omega)) ?_
    refine ax_ee (st'' := ⟨(40, .osl 40 2 0 (xs.length + 1)) :: _, (40, .rows 2 (((xs.map GDirty.row).drop 0).take i)) :: _⟩) (e_appz_grow (n := xs.length + 1 - i) rfl rfl (by simp only [List.length_map]; omega) rfl (by omega) (by omega) (by decide) rfl rfl (hbnd (by omega) (by omega) (by decide))) (by rw [show i + (xs.length + 1 - i) = xs.length + 1 from by omega]) ?_
    refine ax_q (q_mov rfl) ?_
    refine ax_nil ?_
    refine cx_keep rfl rfl ?_
    refine cx_seq ?_
    refine cx_ops ?_
    refine ax_q (q_mov rfl) ?_
    refine ax_q (q_mov rfl) ?_
    refine ax_qe (r' := .osl 40 2 (i) (xs.length + 1 - i)) (q_slc_osl rfl rfl rfl (by omega) (by omega) (by omega)) (oslE0 (by omega) (by omega)) ?_
    refine ax_q (q_mov rfl) ?_
    refine ax_ee (st'' := ⟨_, (40, .rows 2 ((xs.take i ++ [x]).map GDirty.row)) :: _⟩) (e_cpy2 (k := 1) rfl rfl (by simp only [List.length_map, List.length_append, List.length_take, List.length_drop, List.length_cons, List.length_nil]; omega) rfl rfl (by omega) (by simp only [List.length_map, List.length_append, List.length_take, List.length_drop, List.length_cons, List.length_nil]; omega)) (congrArg (fun z => (⟨_, (40, .rows 2 z) :: _⟩ : St)) (ins_g1)) ?_
    refine ax_nil ?_
    refine cx_keep rfl rfl ?_
    refine cx_seq ?_
    refine cx_drawL 0 46 (fun _ => false) (fun _ => true) [] ([]) [[9], [1], [7], [47, 48], [46, 49], [0], [1], [51, 52]] [[], [], [], [], [], [], [], []] rfl ?_
    first | refine ⟨⟨46, _, []⟩, .inl ⟨rfl, rfl, rfl, locl_of (loc_q (q_mov rfl))⟩, ?_⟩
    first | refine ⟨_, .inr ⟨rfl, _, rfl, .inr ⟨rfl, rfl, .inr rfl, rfl, rfl⟩, loc_q (q_mov rfl)⟩, ?_⟩
    first | refine ⟨_, .inr ⟨rfl, _, rfl, .inr ⟨rfl, rfl, .inr rfl, rfl, rfl⟩, loc_q (q_mov rfl)⟩, ?_⟩
    first | refine ⟨_, .inr ⟨rfl, _, rfl, .inr ⟨rfl, rfl, .inr rfl, rfl, rfl⟩, loc_q (q_add rfl rfl (by omega))⟩, ?_⟩
    first | refine ⟨_, .inr ⟨rfl, _, rfl, .inr ⟨rfl, rfl, .inl rfl, rfl, rfl⟩, loc_qe (r' := .osl 40 2 (i + 1) (xs.length - i)) (q_slc_osl rfl rfl rfl (by omega) (by omega) (by omega)) (oslE0 (by omega) (by omega))⟩, ?_⟩
    first | refine ⟨_, .inr ⟨rfl, _, rfl, .inr ⟨rfl, rfl, .inr rfl, rfl, rfl⟩, loc_q (q_mov rfl)⟩, ?_⟩
    first | refine ⟨_, .inr ⟨rfl, _, rfl, .inr ⟨rfl, rfl, .inr rfl, rfl, rfl⟩, loc_q (q_mov rfl)⟩, ?_⟩
    first | refine ⟨_, .inr ⟨rfl, _, rfl, .inr ⟨rfl, rfl, .inr rfl, rfl, rfl⟩, loc_qe (r' := .oslc 1000 2 (i) (xs.length - i) (c - i)) (q_slcC rfl rfl rfl (by omega) (by omega) (by omega)) (oslcE (by omega) (by omega) (by omega))⟩, ?_⟩
    refine ⟨rfl, ?_⟩
    refine ax_wk (wk_uncap 53 rfl) ?_
    refine ax_ee (st'' := ⟨_, (40, .rows 2 ((insA xs i x).map GDirty.row)) :: _⟩) (e_cpy2 (k := xs.length - i) rfl rfl (by simp only [List.length_map, List.length_append, List.length_take, List.length_drop, List.length_cons, List.length_nil]; omega) rfl rfl (by omega) (by simp only [List.length_map, List.length_append, List.length_take, List.length_drop, List.length_cons, List.length_nil]; omega)) (congrArg (fun z => (⟨_, (40, .rows 2 z) :: _⟩ : St)) (ins_g2 (by omega))) ?_
    refine ax_nil ?_
    refine cx_keep rfl rfl ?_
    refine cx_seq ?_
    refine cx_ops ?_
    refine ax_q (q_mov rfl) ?_
    refine ax_q (q_mov rfl) ?_
    refine ax_nil ?_
    refine cx_keep rfl rfl ?_
    refine cx_wk (wk_swapM 40 1000 (.inl (by decide)) (.inr (by rw [hmv]; rfl))) ?_
    refine cx_ret (retN id [1000, 1001] rfl rfl rfl rfl rfl ?_)
    exact ⟨rfl, rfl⟩
   ·
    have h2 := dF h2
    refine cx_skip ?_
    refine cx_keep rfl rfl ?_
    refine cx_seq ?_
    refine cx_ops ?_
    refine ax_q (q_mov rfl) ?_
    refine ax_q (q_mov rfl) ?_
    refine ax_q (q_mov rfl) ?_
    refine ax_q (q_add rfl rfl (by omega)) ?_
    refine ax_qe (r' := .oslc 1000 2 (0) (xs.length + 1) (c)) (q_slcC rfl rfl rfl (by omega) (by omega) (by omega)) (oslcE (by omega) (by omega) (by omega)) ?_
    refine ax_q (q_mov rfl) ?_
    refine ax_nil ?_
    refine cx_keep rfl rfl ?_
    refine cx_seq ?_
    refine cx_seq ?_
    refine cx_ops ?_
    refine ax_q (q_mov rfl) ?_
    refine ax_q (q_mov rfl) ?_
    refine ax_q (q_mov rfl) ?_
    refine ax_q (q_mov rfl) ?_
    refine ax_q (q_add rfl rfl (by omega)) ?_
    refine ax_qe (r' := .oslc 1000 2 (i + 1) (xs.length - i) (c - (i + 1))) (q_slcC rfl rfl rfl (by omega) (by omega) (by omega)) (oslcE (by omega) (by omega) (by omega)) ?_
    refine ax_wk (wk_uncap 66 rfl) ?_
    refine ax_ovl0 (fn := Try.f56) (tS := 24) (tR := 4) (el := 48) (sz := 2) rfl rfl rfl (by decide) rfl rfl (by rw [hP]; exact Try.func56) (by kernel_rfl) (by kernel_rfl) (by kernel_rfl) (by kernel_rfl) (by rw [hP]; exact Try.underlying24) (by rw [hP]; kernel_rfl) (by decide) (by decide) ?_
    refine ax_q (q_not rfl) ?_
    refine ax_nil ?_
    refine cx_keep rfl rfl ?_
    refine cx_cond rfl (fun h3 => ?_) (fun h3 => ?_)
    ·
     skip
     refine cx_seq ?_
     refine cx_drawL 0 69 (fun _ => false) (fun _ => true) [] ([]) [[0], [1], [7], [70, 71], [69, 72], [0], [1], [74, 75]] [[], [], [], [], [], [], [], []] rfl ?_
     first | refine ⟨⟨69, _, []⟩, .inl ⟨rfl, rfl, rfl, locl_of (loc_q (q_mov rfl))⟩, ?_⟩
     first | refine ⟨_, .inr ⟨rfl, _, rfl, .inr ⟨rfl, rfl, .inr rfl, rfl, rfl⟩, loc_q (q_mov rfl)⟩, ?_⟩
     first | refine ⟨_, .inr ⟨rfl, _, rfl, .inr ⟨rfl, rfl, .inr rfl, rfl, rfl⟩, loc_q (q_mov rfl)⟩, ?_⟩
     first | refine ⟨_, .inr ⟨rfl, _, rfl, .inr ⟨rfl, rfl, .inr rfl, rfl, rfl⟩, loc_q (q_add rfl rfl (by omega))⟩, ?_⟩
     first | refine ⟨_, .inr ⟨rfl, _, rfl, .inr ⟨rfl, rfl, .inl rfl, rfl, rfl⟩, loc_qe (r' := .oslc 1000 2 (i + 1) (xs.length - i) (c - (i + 1))) (q_slcC rfl rfl rfl (by omega) (by omega) (by omega)) (oslcE (by omega) (by omega) (by omega))⟩, ?_⟩
     first | refine ⟨_, .inr ⟨rfl, _, rfl, .inr ⟨rfl, rfl, .inr rfl, rfl, rfl⟩, loc_q (q_mov rfl)⟩, ?_⟩
     first | refine ⟨_, .inr ⟨rfl, _, rfl, .inr ⟨rfl, rfl, .inr rfl, rfl, rfl⟩, loc_q (q_mov rfl)⟩, ?_⟩
     first | refine ⟨_, .inr ⟨rfl, _, rfl, .inr ⟨rfl, rfl, .inr rfl, rfl, rfl⟩, loc_qe (r' := .oslc 1000 2 (i) (xs.length + 1 - i) (c - i)) (q_slcC rfl rfl rfl (by omega) (by omega) (by omega)) (oslcE (by omega) (by omega) (by omega))⟩, ?_⟩
     refine ⟨rfl, ?_⟩
     refine ax_wk (wk_uncap 73 rfl) ?_
     refine ax_wk (wk_uncap 76 rfl) ?_
     refine ax_ee (st'' := ⟨_, (1000, .rows 2 ((xs.take (i + 1) ++ xs.drop i).map GDirty.row)) :: _⟩) (e_cpy2 (k := xs.length - i) rfl rfl (by simp only [List.length_map, List.length_append, List.length_take, List.length_drop, List.length_cons, List.length_nil]; omega) rfl rfl (by omega) (by simp only [List.length_map, List.length_append, List.length_take, List.length_drop, List.length_cons, List.length_nil]; omega)) (congrArg (fun z => (⟨_, (1000, .rows 2 z) :: _⟩ : St)) (ins_i1 hil)) ?_
     refine ax_nil ?_
     refine cx_keep rfl rfl ?_
     refine cx_seq ?_
     refine cx_ops ?_
     refine ax_q (q_mov rfl) ?_
     refine ax_q (q_mov rfl) ?_
     refine ax_qe (r' := .oslc 1000 2 (i) (xs.length + 1 - i) (c - i)) (q_slcC rfl rfl rfl (by omega) (by omega) (by omega)) (oslcE (by omega) (by omega) (by omega)) ?_
     refine ax_q (q_mov rfl) ?_
     refine ax_wk (wk_uncap 80 rfl) ?_
     refine ax_ee (st'' := ⟨_, (1000, .rows 2 ((insA xs i x).map GDirty.row)) :: _⟩) (e_cpy2 (k := 1) rfl rfl (by simp only [List.length_map, List.length_append, List.length_take, List.length_drop, List.length_cons, List.length_nil]; omega) rfl rfl (by omega) (by simp only [List.length_map, List.length_append, List.length_take, List.length_drop, List.length_cons, List.length_nil]; omega)) (congrArg (fun z => (⟨_, (1000, .rows 2 z) :: _⟩ : St)) (ins_i2 hil)) ?_
     refine ax_nil ?_
     refine cx_keep rfl rfl ?_
     refine cx_seq ?_
     refine cx_ops ?_
     refine ax_q (q_mov rfl) ?_
     refine ax_q (q_mov rfl) ?_
     refine ax_nil ?_
     refine cx_keep rfl rfl ?_
     refine cx_wk (wk_uncap 6 rfl) ?_
     refine cx_ret (retN id [1000, 1001] rfl rfl rfl rfl rfl ?_)
     exact ⟨rfl, rfl⟩
    ·
     skip
     exact absurd h3 (by decide)


/- loop.example/g00332/impl.putDirty -/
def k_c_putDirty : XCode :=
 .seq (.ops [.op (some 3) (.box (.t 1)),
   .op (some 4) (.mov (.k (.nils 2)))])
 (.keep [0, 3] (.seq (.ops [.op (some 8) (.mov (.t 0)),
   .op (some 9) (.loadN 2 (.t 3)),
   .call (some 10) 45 [.t 8, .t 9, .f 46],
   .op (some 7) (.mov (.t 10)),
   .op (some 11) (.ext (.t 7) 0),
   .op (some 12) (.ext (.t 7) 1),
   .op (some 5) (.mov (.t 11)),
   .op (some 6) (.mov (.t 12))])
 (.keep [0, 3, 5, 6] (.seq (.seq (.ops [.op (some 13) (.mov (.t 6))])
  (.keep [0, 3, 5, 13] (.cond (.t 13)
  (.seq (.ops [.op (some 14) (.mov (.t 0)),
    .op (some 4) (.mov (.t 14))])
   (.keep [4] (.ret)))
  (.skip))))
 (.keep [0, 3, 5] (.seq (.ops [.op (some 15) (.mov (.t 0)),
   .op (some 16) (.mov (.t 5)),
   .op (some 17) (.loadN 2 (.t 3)),
   .op (some 18) (.bslice 2 [.t 17]),
   .call (some 19) 48 [.t 15, .t 16, .t 18],
   .op (some 4) (.mov (.t 19))])
 (.keep [4] (.ret))))))))
theorem k_c_putDirty_fits : fitsF Try.prog 37 ⟨20, k_c_putDirty, [.t 4]⟩ = true := by kernel_rfl
theorem c_putDirty {xs : List GDirty} {x : GDirty} (hs : SortK GDirty.No xs) (hl : xs.length ≤ 100000) : Con Try.prog (fun e => Nat.beq e 1000) 37 [.osl 1000 2 0 xs.length, x.av] [(1000, .rows 2 ((xs).map GDirty.row))] (fun r h => r = .osl 1000 2 0 (insK GDirty.No xs x).length ∧ h = [(1000, .rows 2 ((insK GDirty.No xs x).map GDirty.row))]) := by
 refine con_of2 k_c_putDirty_fits rfl fun C hP hmv => ?_
 unfold k_c_putDirty
 refine cx_seq ?_
 refine cx_ops ?_
 refine ax_e (e_box rfl rfl (by decide) rfl rfl rfl) ?_
 refine ax_q (q_mov rfl) ?_
 refine ax_nil ?_
 refine cx_keep rfl rfl ?_
 refine cx_seq ?_
 refine cx_ops ?_
 refine ax_q (q_mov rfl) ?_
 refine ax_q (q_ldN rfl rfl rfl) ?_
 refine ax_call rfl (vc_lend0 (c_BSF_Dirty (xs := xs) (y := x) (f := 46) (ds := []) (fun r => cmpI r.No x.No) (k := (posK GDirty.No xs x.No)) posK_le (by omega) (by kernel_rfl) (fun s _ => c_putDirty1) (fun j h hj => cmpI_lt.2 (posK_lt h hj)) (fun j h hj => Int.not_lt.1 (fun hh => by have := cmpI_lt.1 hh; have := posK_ge hs h hj; omega))) hP (by repeat (first | exact lal_id _ rfl | exact LAL.nil | refine LAL.cons ?_ ?_ | exact la_id _ rfl | exact LA.lend (lend_whole rfl (by first | (simp; done) | (rw [List.length_map]; rfl))) | refine LA.agg ?_ | refine LA.fn ?_ | refine LA.lend ?_ | exact Lend.d _ | exact Lend.zs _ | exact lend_whole rfl (by first | (simp; done) | (rw [List.length_map]; rfl)) | refine Lend.ptr rfl ?_ | refine Lend.fn ?_ | exact LendL.nil | refine LendL.cons ?_ ?_)) rfl rfl ?_)
 rw [show hitA (fun r : GDirty => cmpI r.No x.No) xs (posK GDirty.No xs x.No) = atK GDirty.No xs x.No from atK_cmp]
 refine ax_q (q_mov rfl) ?_
 refine ax_q (q_ext rfl rfl) ?_
 refine ax_q (q_ext rfl rfl) ?_
 refine ax_q (q_mov rfl) ?_
 refine ax_q (q_mov rfl) ?_
 refine ax_nil ?_
 refine cx_keep rfl rfl ?_
 refine cx_seq ?_
 refine cx_seq ?_
 refine cx_ops ?_
 refine ax_q (q_mov rfl) ?_
 refine ax_nil ?_
 refine cx_keep rfl rfl ?_
 refine cx_cond rfl (fun h0 => ?_) (fun h0 => ?_)
 ·
  skip
  refine cx_seq ?_
  refine cx_ops ?_
  refine ax_q (q_mov rfl) ?_
  refine ax_q (q_mov rfl) ?_
  refine ax_nil ?_
  refine cx_keep rfl rfl ?_
  refine cx_ret (retN _root_.id [1000] rfl rfl rfl rfl rfl ?_)
  rw [insK_1 h0]; exact ⟨rfl, rfl⟩
 ·
  skip
  refine cx_skip ?_
  refine cx_keep rfl rfl ?_
  refine cx_seq ?_
  refine cx_ops ?_
  refine ax_q (q_mov rfl) ?_
  refine ax_q (q_mov rfl) ?_
  refine ax_q (q_ldN rfl rfl rfl) ?_
  refine ax_e (e_bslice rfl (by decide) rfl rfl) ?_
  refine ax_call rfl (vcall_own (c_Insert_Dirty (xs := xs) (x := x) (i := (posK GDirty.No xs x.No)) posK_le (by omega)) hP hmv false (fun e => bif Nat.beq e 1000 then 1000 else 18) [1000, 1001] ⟨rfl, rfl, rfl, rfl, ⟨rfl, rfl, trivial⟩, rfl, rfl, rfl⟩ (.pass rfl rfl (.pass rfl rfl (.pass rfl rfl .nil))) ?_)
  rintro r h ⟨rfl, rfl⟩
  refine ⟨(fun e => bif Nat.beq e 1000 then 1000 else 18), [], ⟨rfl, rfl, rfl, rfl, mem2 rfl rfl, rfl, rfl, fun h => absurd h Bool.false_ne_true⟩, ?_⟩
  refine ax_q (q_mov rfl) ?_
  refine ax_nil ?_
  refine cx_keep rfl rfl ?_
  refine cx_ret (retN _root_.id [1000] rfl rfl rfl rfl rfl ?_)
  rw [insK_2 h0, insA_len posK_le]; exact ⟨rfl, rfl⟩


/- slices.BinarySearchFunc[[]loop.example/g00332/impl.Tx,loop.example/g00332/impl.Tx,loop.example/g00332/impl.Tx] -/
def k_c_BSF_Tx : XCode :=
 .seq (.ops [.op (some 4) (.box (.t 1)),
   .op (some 6) (.mov (.k (.int .i64 0))),
   .op (some 7) (.mov (.k (.bool false)))])
 (.keep [0, 2, 4] (.seq (.ops [.op (some 12) (.mov (.t 0)),
   .op (some 13) (.lenS (.t 12)),
   .op (some 8) (.mov (.t 13))])
 (.keep [0, 2, 4, 8] (.seq (.ops [.op (some 14) (.mov (.t 8)),
   .op (some 9) (.mov (.k (.int .i64 0))),
   .op (some 10) (.mov (.t 14))])
 (.keep [0, 2, 4, 8, 9, 10] (.seq (.block 0 (.loop (.seq (.seq (.ops [.op (some 15) (.mov (.t 9)),
     .op (some 16) (.mov (.t 10)),
     .op (some 17) (.bin .lss (.t 15) (.t 16))])
   (.keep [0, 2, 4, 8, 9, 10, 17] (.cond (.t 17)
    (.skip)
    (.exit 0))))
   (.keep [0, 2, 4, 8, 9, 10] (.block 1 (.seq (.ops [.op (some 18) (.mov (.t 9)),
     .op (some 19) (.mov (.t 10)),
     .op (some 20) (.bin .add (.t 18) (.t 19)),
     .op (some 21) (.conv .u64 (.t 20)),
     .op (some 22) (.bin .shr (.t 21) (.k (.int .u64 1))),
     .op (some 23) (.conv .i64 (.t 22)),
     .op (some 11) (.mov (.t 23))])
   (.keep [0, 2, 4, 8, 9, 10, 11] (.seq (.draw [.op (some 24) (.mov (.t 2)),
     .op (some 25) (.mov (.t 0)),
     .op (some 26) (.mov (.t 11)),
     .op (some 27) (.iadr 2 (.t 25) (.t 26)),
     .op (some 28) (.loadN 2 (.t 27)),
     .op (some 29) (.loadN 2 (.t 4)),
     .callv (some 30) (.t 24) [.t 28, .t 29],
     .op (some 31) (.bin .lss (.t 30) (.k (.int .i64 0)))])
   (.keep [0, 2, 4, 8, 9, 10, 11, 31] (.cond (.t 31)
    (.ops [.op (some 32) (.mov (.t 11)),
     .op (some 33) (.bin .add (.t 32) (.k (.int .i64 1))),
     .op (some 9) (.mov (.t 33))])
    (.ops [.op (some 34) (.mov (.t 11)),
     .op (some 10) (.mov (.t 34))])))))))))))
 (.keep [0, 2, 4, 8, 9] (.seq (.draw [.op (some 35) (.mov (.t 9)),
   .op (some 36) (.mov (.t 9)),
   .op (some 37) (.mov (.t 8)),
   .op (some 38) (.bin .lss (.t 36) (.t 37)),
   .op (some 39) (.mov (.t 38)),
   .andor 48 true 4 39 [.op (some 40) (.mov (.t 2)), .op (some 41) (.mov (.t 0)), .op (some 42) (.mov (.t 9)), .op (some 43) (.iadr 2 (.t 41) (.t 42)), .op (some 44) (.loadN 2 (.t 43)), .op (some 45) (.loadN 2 (.t 4)), .callv (some 46) (.t 40) [.t 44, .t 45], .op (some 47) (.bin .eql (.t 46) (.k (.int .i64 0)))] (.t 47),
   .op (some 6) (.mov (.t 35)),
   .op (some 7) (.mov (.t 48))])
 (.keep [6, 7] (.ret))))))))))
theorem k_c_BSF_Tx_fits : fitsF Try.prog 49 ⟨49, k_c_BSF_Tx, [.t 6, .t 7]⟩ = true := by kernel_rfl
theorem c_BSF_Tx {xs : List GTx} {f : Nat} {ds : List D} {y : GTx} (p : GTx → Int) {k : Nat} (hk : k ≤ xs.length) (hl : xs.length ≤ 1000000) (hb : hasBody Try.prog f = true) (hf : ∀ s ∈ xs, Con Try.prog noMv f (s.av :: y.av :: ds.map AV.d) [] (fun r h => r = int (p s) ∧ h = [])) (q1 : ∀ j (h : j < xs.length), j < k → p xs[j] < 0) (q2 : ∀ j (h : j < xs.length), k ≤ j → 0 ≤ p xs[j]) : Con Try.prog noMv 49 [.d (.sl 2 (xs.map GTx.row)), y.av, .d (.fn (.func f) ds)] [] (fun r h => r = .tup [int (k : Nat), bool (hitA p xs k)] ∧ h = []) := by
 refine con_of2 k_c_BSF_Tx_fits rfl fun C hP hmv => ?_
 unfold k_c_BSF_Tx
 refine cx_seq ?_
 refine cx_ops ?_
 refine ax_e (e_box rfl rfl (by decide) rfl rfl rfl) ?_
 refine ax_q (q_mov rfl) ?_
 refine ax_q (q_mov rfl) ?_
 refine ax_nil ?_
 refine cx_keep rfl rfl ?_
 refine cx_seq ?_
 refine cx_ops ?_
 refine ax_q (q_mov rfl) ?_
 first | refine ax_q (q_lenS_map rfl) ?_ | refine ax_q (q_lenS_osl rfl) ?_ | refine ax_q (q_lenS_zs rfl) ?_ | refine ax_q (q_lenS rfl) ?_
 refine ax_q (q_mov rfl) ?_
 refine ax_nil ?_
 refine cx_keep rfl rfl ?_
 refine cx_seq ?_
 refine cx_ops ?_
 refine ax_q (q_mov rfl) ?_
 refine ax_q (q_mov rfl) ?_
 refine ax_q (q_mov rfl) ?_
 refine ax_nil ?_
 refine cx_keep rfl rfl ?_
 refine cx_seq ?_
 refine cx_block ?_
 refine cx_loopU (fun n (p : Nat × Nat) => p.1 ≤ k ∧ k ≤ p.2 ∧ p.2 ≤ xs.length ∧ n = p.2 - p.1) (fun p => [(9, int (p.1 : Nat)), (10, int (p.2 : Nat))]) (fun _ => [(4, .box (y.row.map .d))]) ⟨_, (0, xs.length), ⟨Nat.zero_le _, hk, Nat.le_refl _, rfl⟩, by repeat (first | exact trivial | refine ⟨rfl, ?_⟩ | refine ⟨?_, ?_⟩)⟩ ?_
 rintro n ⟨i, j⟩ ⟨hi, hj, hjl, rfl⟩
 simp only at hi hj hjl ⊢
 refine cx_seq ?_
 refine cx_seq ?_
 refine cx_ops ?_
 refine ax_q (q_mov rfl) ?_
 refine ax_q (q_mov rfl) ?_
 refine ax_q (q_ibin rfl rfl rfl) ?_
 refine ax_nil ?_
 refine cx_keep rfl rfl ?_
 refine cx_cond rfl (fun h0 => ?_) (fun h0 => ?_)
 ·
  have h0 := dT h0
  have hij : i < j := by omega
  have hh : (i + j) / 2 < xs.length := by omega
  refine cx_skip ?_
  refine cx_keep rfl rfl ?_
  refine cx_block ?_
  refine cx_seq ?_
  refine cx_ops ?_
  refine ax_q (q_mov rfl) ?_
  refine ax_q (q_mov rfl) ?_
  refine ax_qe (r' := int ((i + j : Nat) : Int)) (q_ibin rfl rfl rfl) (by rw [wi (by omega) (by omega)]; rfl) ?_
  refine ax_qe (r' := .d (.int .u64 ((i + j : Nat) : Int))) (q_conv rfl) (u64N (by omega)) ?_
  refine ax_qe (r' := .d (.int .u64 (((i + j) / 2 : Nat) : Int))) (q_ishf rfl rfl rfl (by omega)) (shrN) ?_
  refine ax_qe (r' := int (((i + j) / 2 : Nat) : Int)) (q_conv rfl) (i64N (by omega)) ?_
  refine ax_q (q_mov rfl) ?_
  refine ax_nil ?_
  refine cx_keep rfl rfl ?_
  refine cx_seq ?_
  refine cx_draw ?_
  refine ax_q (q_mov rfl) ?_
  refine ax_q (q_mov rfl) ?_
  refine ax_q (q_mov rfl) ?_
  refine ax_q (q_ix rfl rfl (mapAt hh)) ?_
  first | refine ax_q (q_ldN rfl rfl rfl) ?_ | refine ax_q (q_loadN_ip rfl (Nat.le_refl _)) ?_ | refine ax_q (q_loadN_ip rfl (by decide)) ?_ | refine ax_q (q_loadN_rptr rfl rfl (by assumption) (by decide)) ?_ | refine ax_q (q_loadN_rptr rfl rfl (mapAt (by first | assumption | omega)) (by decide)) ?_
  refine ax_q (q_ldN rfl rfl rfl) ?_
  refine ax_callvqD rfl (by rw [hP]; exact hb) rfl (hf _ (List.getElem_mem hh)) hP (lal_id _ (plain_cons2 rfl rfl ds)) rfl ?_
  refine ax_q (q_ibin rfl rfl rfl) ?_
  refine ax_nil ?_
  refine cx_keep rfl rfl ?_
  refine cx_cond rfl (fun h1 => ?_) (fun h1 => ?_)
  ·
   have h1 := dT h1
   refine cx_ops ?_
   refine ax_q (q_mov rfl) ?_
   refine ax_qe (r' := int (((i + j) / 2 + 1 : Nat) : Int)) (q_ibin rfl rfl rfl) (by rw [wi (by omega) (by omega)]; rfl) ?_
   refine ax_q (q_mov rfl) ?_
   refine ax_nil ?_
   exact ⟨_, ((i + j) / 2 + 1, j), by simp only; omega, ⟨by simp only; exact Nat.lt_of_not_le (fun h => by have := q2 _ hh h; omega), by simp only; omega, by simp only; omega, rfl⟩, by repeat (first | exact trivial | refine ⟨rfl, ?_⟩ | refine ⟨?_, ?_⟩)⟩
  ·
   have h1 := dF h1
   refine cx_ops ?_
   refine ax_q (q_mov rfl) ?_
   refine ax_q (q_mov rfl) ?_
   refine ax_nil ?_
   exact ⟨_, (i, (i + j) / 2), by simp only; omega, ⟨by simp only; omega, by simp only; exact Nat.le_of_not_lt (fun h => by have := q1 _ hh h; omega), by simp only; omega, rfl⟩, by repeat (first | exact trivial | refine ⟨rfl, ?_⟩ | refine ⟨?_, ?_⟩)⟩
 ·
  have h0 := dF h0
  have hij : i = k := by omega
  subst hij
  refine cx_exit rfl ?_
  refine cx_keep rfl rfl ?_
  refine cx_seq ?_
  refine cx_draw ?_
  refine ax_q (q_mov rfl) ?_
  refine ax_q (q_mov rfl) ?_
  refine ax_q (q_mov rfl) ?_
  refine ax_q (q_ibin rfl rfl rfl) ?_
  refine ax_q (q_mov rfl) ?_
  apply ax_and rfl rfl
  ·
   intro g
   have g := dT g
   refine ax_q (q_mov rfl) ?_
   refine ax_q (q_mov rfl) ?_
   refine ax_q (q_mov rfl) ?_
   have hg : i < xs.length := by omega
   refine ax_q (q_ix rfl rfl (mapAt hg)) ?_
   first | refine ax_q (q_ldN rfl rfl rfl) ?_ | refine ax_q (q_loadN_ip rfl (Nat.le_refl _)) ?_ | refine ax_q (q_loadN_ip rfl (by decide)) ?_ | refine ax_q (q_loadN_rptr rfl rfl (by assumption) (by decide)) ?_ | refine ax_q (q_loadN_rptr rfl rfl (mapAt (by first | assumption | omega)) (by decide)) ?_
   refine ax_q (q_ldN rfl rfl rfl) ?_
   refine ax_callvqD rfl (by rw [hP]; exact hb) rfl (hf _ (List.getElem_mem hg)) hP (lal_id _ (plain_cons2 rfl rfl ds)) rfl ?_
   refine ax_qe (r' := bool (hitA p xs i)) (q_ibin rfl rfl rfl) (by rw [hitA_1 hg]) ?_
   exact ax_nil ⟨rfl, by repeat (first | exact trivial | refine ⟨rfl, ?_⟩ | refine ⟨?_, ?_⟩)⟩
  refine ax_q (q_mov rfl) ?_
  refine ax_q (q_mov rfl) ?_
  refine ax_nil ?_
  refine cx_keep rfl rfl ?_
  refine cx_ret (ret0 rfl rfl ?_)
  exact ⟨by rw [hitA_and]; rfl, rfl⟩


/- loop.example/g00332/impl.putTx$1 -/
def k_c_putTx1 : XCode :=
 .seq (.ops [.op (some 2) (.box (.t 0)),
   .op (some 3) (.box (.t 1)),
   .op (some 4) (.mov (.k (.int .i64 0)))])
 (.keep [2, 3] (.seq (.ops [.op (some 5) (.fadr (.t 2) 0),
   .op (some 6) (.load1 (.t 5)),
   .op (some 7) (.fadr (.t 3) 0),
   .op (some 8) (.load1 (.t 7)),
   .call (some 9) 47 [.t 6, .t 8],
   .op (some 4) (.mov (.t 9))])
 (.keep [4] (.ret))))
theorem k_c_putTx1_fits : fitsF Try.prog 50 ⟨10, k_c_putTx1, [.t 4]⟩ = true := by kernel_rfl
theorem c_putTx1 {a b : GTx} : Con Try.prog noMv 50 [a.av, b.av] [] (fun r h => r = int (cmpI a.Id b.Id) ∧ h = []) := by
 refine con_of2 k_c_putTx1_fits rfl fun C hP hmv => ?_
 unfold k_c_putTx1
 refine cx_seq ?_
 refine cx_ops ?_
 refine ax_e (e_box rfl rfl (by decide) rfl rfl rfl) ?_
 refine ax_e (e_box rfl rfl (by decide) rfl rfl rfl) ?_
 refine ax_q (q_mov rfl) ?_
 refine ax_nil ?_
 refine cx_keep rfl rfl ?_
 refine cx_seq ?_
 refine cx_ops ?_
 refine ax_q (q_fadr_ptr rfl) ?_
 refine ax_q (q_load1_ptr rfl rfl rfl) ?_
 refine ax_q (q_fadr_ptr rfl) ?_
 refine ax_q (q_load1_ptr rfl rfl rfl) ?_
 first | refine ax_call rfl (vc_pure0 (c_Compare_int  ) hP rfl rfl ?_) | refine ax_call rfl (vc_lend0 (c_Compare_int  ) hP (by repeat (first | exact lal_id _ rfl | exact LAL.nil | refine LAL.cons ?_ ?_ | exact la_id _ rfl | exact LA.lend (lend_whole rfl (by first | (simp; done) | (rw [List.length_map]; rfl))) | refine LA.agg ?_ | refine LA.fn ?_ | refine LA.lend ?_ | exact Lend.d _ | exact Lend.zs _ | exact lend_whole rfl (by first | (simp; done) | (rw [List.length_map]; rfl)) | refine Lend.ptr rfl ?_ | refine Lend.fn ?_ | exact LendL.nil | refine LendL.cons ?_ ?_)) rfl rfl ?_)
 refine ax_q (q_mov rfl) ?_
 refine ax_nil ?_
 refine cx_keep rfl rfl ?_
 refine cx_ret (ret0 rfl rfl ?_)
 exact ⟨rfl, rfl⟩


/- slices.Insert[[]loop.example/g00332/impl.Tx,loop.example/g00332/impl.Tx] -/
def k_c_Insert_Tx : XCode :=
 .seq (.ops [.op (some 6) (.mov (.k (.nils 2)))])
 (.keep [0, 1, 2] (.seq (.ops [.op (some 10) (.mov (.t 0)),
   .op (some 11) (.mov (.t 1)),
   .op (some 12) (.slc 2 (.t 10) (some (.t 11)) none none)])
 (.keep [0, 1, 2] (.seq (.ops [.op (some 13) (.mov (.t 2)),
   .op (some 14) (.lenS (.t 13)),
   .op (some 7) (.mov (.t 14))])
 (.keep [0, 1, 2, 7] (.seq (.seq (.ops [.op (some 15) (.mov (.t 7)),
   .op (some 16) (.bin .eql (.t 15) (.k (.int .i64 0)))])
  (.keep [0, 1, 2, 7, 16] (.cond (.t 16)
  (.seq (.ops [.op (some 17) (.mov (.t 0)),
    .op (some 6) (.mov (.t 17))])
   (.keep [6] (.ret)))
  (.skip))))
 (.keep [0, 1, 2, 7] (.seq (.ops [.op (some 18) (.mov (.t 0)),
   .op (some 19) (.lenS (.t 18)),
   .op (some 8) (.mov (.t 19))])
 (.keep [0, 1, 2, 7, 8] (.seq (.seq (.ops [.op (some 20) (.mov (.t 1)),
   .op (some 21) (.mov (.t 8)),
   .op (some 22) (.bin .eql (.t 20) (.t 21))])
  (.keep [0, 1, 2, 7, 8, 22] (.cond (.t 22)
  (.seq (.ops [.op (some 23) (.mov (.t 0)),
    .op (some 24) (.mov (.t 2)),
    .op (some 25) (.app 2 16 [.int .i64 0, .int .i64 0] (.t 23) (.t 24)),
    .op (some 6) (.mov (.t 25))])
   (.keep [6] (.ret)))
  (.skip))))
 (.keep [0, 1, 2, 7, 8] (.seq (.seq (.ops [.op (some 26) (.mov (.t 8)),
   .op (some 27) (.mov (.t 7)),
   .op (some 28) (.bin .add (.t 26) (.t 27)),
   .op (some 29) (.mov (.t 0)),
   .op (some 30) (.capS (.t 29)),
   .op (some 31) (.bin .gtr (.t 28) (.t 30))])
  (.keep [0, 1, 2, 7, 8, 31] (.cond (.t 31)
  (.seq (.ops [.op (some 32) (.mov (.t 0)),
    .op (some 33) (.mov (.t 1)),
    .op (some 34) (.slc 2 (.t 32) none (some (.t 33)) none),
    .op (some 35) (.mov (.t 8)),
    .op (some 36) (.mov (.t 7)),
    .op (some 37) (.bin .add (.t 35) (.t 36)),
    .op (some 38) (.mov (.t 1)),
    .op (some 39) (.bin .sub (.t 37) (.t 38)),
    .op (some 40) (.appz 2 16 [.int .i64 0, .int .i64 0] (.t 34) (.t 39)),
    .op (some 9) (.mov (.t 40))])
   (.keep [0, 1, 2, 7, 9] (.seq (.ops [.op (some 41) (.mov (.t 9)),
    .op (some 42) (.mov (.t 1)),
    .op (some 43) (.slc 2 (.t 41) (some (.t 42)) none none),
    .op (some 44) (.mov (.t 2)),
    .op (some 45) (.cpy 2 (.t 43) (.t 44))])
   (.keep [0, 1, 7, 9] (.seq (.drawE [[], [], [], [1, 2], [0, 1, 2, 3], [], [], [5, 6], [0, 1, 2, 3, 4, 5, 6, 7]] [.op (some 46) (.mov (.t 9)),
    .op (some 47) (.mov (.t 1)),
    .op (some 48) (.mov (.t 7)),
    .op (some 49) (.bin .add (.t 47) (.t 48)),
    .op (some 50) (.slc 2 (.t 46) (some (.t 49)) none none),
    .op (some 51) (.mov (.t 0)),
    .op (some 52) (.mov (.t 1)),
    .op (some 53) (.slc 2 (.t 51) (some (.t 52)) none none)]
    [.op (some 54) (.cpy 2 (.t 50) (.t 53))])
   (.keep [9] (.seq (.ops [.op (some 55) (.mov (.t 9)),
    .op (some 6) (.mov (.t 55))])
   (.keep [6] (.ret)))))))))
  (.skip))))
 (.keep [0, 1, 2, 7, 8] (.seq (.ops [.op (some 56) (.mov (.t 0)),
   .op (some 57) (.mov (.t 8)),
   .op (some 58) (.mov (.t 7)),
   .op (some 59) (.bin .add (.t 57) (.t 58)),
   .op (some 60) (.slc 2 (.t 56) none (some (.t 59)) none),
   .op (some 0) (.mov (.t 60))])
 (.keep [0, 1, 2, 7, 8] (.seq (.seq (.ops [.op (some 61) (.mov (.t 2)),
   .op (some 62) (.mov (.t 0)),
   .op (some 63) (.mov (.t 1)),
   .op (some 64) (.mov (.t 7)),
   .op (some 65) (.bin .add (.t 63) (.t 64)),
   .op (some 66) (.slc 2 (.t 62) (some (.t 65)) none none),
   .op (some 67) (.ext2 58 (.t 61) (.t 66)),
   .op (some 68) (.not (.t 67))])
  (.keep [0, 1, 2, 7, 8, 68] (.cond (.t 68)
  (.seq (.drawE [[], [], [], [1, 2], [0, 1, 2, 3], [], [], [5, 6], [0, 1, 2, 3, 4, 5, 6, 7]] [.op (some 69) (.mov (.t 0)),
    .op (some 70) (.mov (.t 1)),
    .op (some 71) (.mov (.t 7)),
    .op (some 72) (.bin .add (.t 70) (.t 71)),
    .op (some 73) (.slc 2 (.t 69) (some (.t 72)) none none),
    .op (some 74) (.mov (.t 0)),
    .op (some 75) (.mov (.t 1)),
    .op (some 76) (.slc 2 (.t 74) (some (.t 75)) none none)]
    [.op (some 77) (.cpy 2 (.t 73) (.t 76))])
   (.keep [0, 1, 2] (.seq (.ops [.op (some 78) (.mov (.t 0)),
    .op (some 79) (.mov (.t 1)),
    .op (some 80) (.slc 2 (.t 78) (some (.t 79)) none none),
    .op (some 81) (.mov (.t 2)),
    .op (some 82) (.cpy 2 (.t 80) (.t 81))])
   (.keep [0] (.seq (.ops [.op (some 83) (.mov (.t 0)),
    .op (some 6) (.mov (.t 83))])
   (.keep [6] (.ret)))))))
  (.skip))))
 (.keep [0, 1, 2, 7, 8] (.seq (.ops [.op (some 84) (.mov (.t 0)),
   .op (some 85) (.mov (.t 8)),
   .op (some 86) (.slc 2 (.t 84) (some (.t 85)) none none),
   .op (some 87) (.mov (.t 2)),
   .op (some 88) (.cpy 2 (.t 86) (.t 87))])
 (.keep [0, 1, 7] (.seq (.ops [.op (some 89) (.mov (.t 0)),
   .op (some 90) (.mov (.t 1)),
   .op (some 91) (.slc 2 (.t 89) (some (.t 90)) none none),
   .op (some 92) (.mov (.t 7)),
   .call (some 93) 59 [.t 91, .t 92]])
 (.keep [0] (.seq (.ops [.op (some 94) (.mov (.t 0)),
   .op (some 6) (.mov (.t 94))])
 (.keep [6] (.ret))))))))))))))))))))))))
theorem k_c_Insert_Tx_fits : fitsF Try.prog 51 ⟨95, k_c_Insert_Tx, [.t 6]⟩ = true := by kernel_rfl
set_option maxHeartbeats 4000000 in
theorem c_Insert_Tx {xs : List GTx} {x : GTx} {i : Nat} (hi : i ≤ xs.length) (hl : xs.length ≤ 1000000) : Con Try.prog (fun e => Nat.beq e 1000) 51 [.osl 1000 2 0 xs.length, int (i : Nat), .osl 1001 2 0 1] [(1000, .rows 2 (xs.map GTx.row)), (1001, .rows 2 ([x].map GTx.row))] (fun r h => r = .osl 1000 2 0 (xs.length + 1) ∧ h = [(1000, .rows 2 ((insA xs i x).map GTx.row)), (1001, .rows 2 ([x].map GTx.row))]) := by
 refine con_of2 k_c_Insert_Tx_fits rfl fun C hP hmv => ?_
 unfold k_c_Insert_Tx
 refine cx_cap 0 rfl fun c hc => ?_
 refine cx_seq ?_
 refine cx_ops ?_
 refine ax_q (q_mov rfl) ?_
 refine ax_nil ?_
 refine cx_keep rfl rfl ?_
 refine cx_seq ?_
 refine cx_ops ?_
 refine ax_q (q_mov rfl) ?_
 refine ax_q (q_mov rfl) ?_
 refine ax_q (q_slcC rfl rfl rfl (by omega) (by omega) (by omega)) ?_
 refine ax_nil ?_
 refine cx_keep rfl rfl ?_
 refine cx_seq ?_
 refine cx_ops ?_
 refine ax_q (q_mov rfl) ?_
 first | refine ax_q (q_lenS_map rfl) ?_ | refine ax_q (q_lenS_osl rfl) ?_ | refine ax_q (q_lenS_zs rfl) ?_ | refine ax_q (q_lenS rfl) ?_
 refine ax_q (q_mov rfl) ?_
 refine ax_nil ?_
 refine cx_keep rfl rfl ?_
 refine cx_seq ?_
 refine cx_seq ?_
 refine cx_ops ?_
 refine ax_q (q_mov rfl) ?_
 refine ax_q (q_ibin rfl rfl rfl) ?_
 refine ax_nil ?_
 refine cx_keep rfl rfl ?_
 refine cx_cond rfl (fun h0 => ?_) (fun h0 => ?_)
 ·
  have h0 := dT h0
  exfalso; omega
 ·
  have h0 := dF h0
  refine cx_skip ?_
  refine cx_keep rfl rfl ?_
  refine cx_seq ?_
  refine cx_ops ?_
  refine ax_q (q_mov rfl) ?_
  refine ax_q (q_lenC rfl) ?_
  refine ax_q (q_mov rfl) ?_
  refine ax_nil ?_
  refine cx_keep rfl rfl ?_
  refine cx_seq ?_
  refine cx_seq ?_
  refine cx_ops ?_
  refine ax_q (q_mov rfl) ?_
  refine ax_q (q_mov rfl) ?_
  refine ax_q (q_ibin rfl rfl rfl) ?_
  refine ax_nil ?_
  refine cx_keep rfl rfl ?_
  refine cx_cond rfl (fun h1 => ?_) (fun h1 => ?_)
  ·
   have h1 := dT h1
   have hie : i = xs.length := by omega
   refine cx_seq ?_
   refine cx_ops ?_
   refine ax_q (q_mov rfl) ?_
   refine ax_q (q_mov rfl) ?_
   refine ax_wk (wk_uncap 23 rfl) ?_
   refine ax_e (e_appn (n' := xs.length + 1) (rs' := (insA xs i x).map GTx.row) rfl rfl (by simp) rfl (src_osl rfl (by simp)) (.inr (by rw [hmv]; rfl)) (hbnd (by omega) (by simp) (by decide)) (by simp) (by rw [ins_end hie]; exact app1 rfl)) ?_
   refine ax_q (q_mov rfl) ?_
   refine ax_nil ?_
   refine cx_keep rfl rfl ?_
   refine cx_ret (retN id [1000, 1001] rfl rfl rfl rfl rfl ?_)
   exact ⟨rfl, rfl⟩
  ·
   have h1 := dF h1
   have hil : i < xs.length := by omega
   refine cx_skip ?_
   refine cx_keep rfl rfl ?_
   refine cx_seq ?_
   refine cx_seq ?_
   refine cx_ops ?_
   refine ax_q (q_mov rfl) ?_
   refine ax_q (q_mov rfl) ?_
   refine ax_q (q_add rfl rfl (by omega)) ?_
   refine ax_q (q_mov rfl) ?_
   refine ax_q (q_capC rfl) ?_
   refine ax_q (q_ibin rfl rfl rfl) ?_
   refine ax_nil ?_
   refine cx_keep rfl rfl ?_
   refine cx_cond rfl (fun h2 => ?_) (fun h2 => ?_)
   ·
    have h2 := dT h2
    refine cx_seq ?_
    refine cx_ops ?_
    refine ax_q (q_mov rfl) ?_
    refine ax_q (q_mov rfl) ?_
    refine ax_qe (r' := .oslc 1000 2 (0) (i) (c)) (q_slcC rfl rfl rfl (by omega) (by omega) (by omega)) (oslcE (by omega) (by omega) (by omega)) ?_
    refine ax_q (q_mov rfl) ?_
    refine ax_q (q_mov rfl) ?_
    refine ax_q (q_add rfl rfl (by omega)) ?_
    refine ax_q (q_mov rfl) ?_
    refine ax_qe (r' := int ((xs.length + 1 - i : Nat) : Int)) (q_ibin rfl rfl rfl) (by
     rw [wi (by omega) (by omega)]
     exact congrArg AM.int (by omega)) ?_
    refine ax_ee (st'' := ⟨(40, .osl 40 2 0 (xs.length + 1)) :: _, (40, .rows 2 (((xs.map GTx.row).drop 0).take i)) :: _⟩) (e_appz_grow (n := xs.length + 1 - i) rfl rfl (by simp only [List.length_map]; omega) rfl (by omega) (by omega) (by decide) rfl rfl (hbnd (by omega) (by omega) (by decide))) (by rw [show i + (xs.length + 1 - i) = xs.length + 1 from by omega]) ?_
    refine ax_q (q_mov rfl) ?_
    refine ax_nil ?_
    refine cx_keep rfl rfl ?_
    refine cx_seq ?_
    refine cx_ops ?_
    refine ax_q (q_mov rfl) ?_
    refine ax_q (q_mov rfl) ?_
    refine ax_qe (r' := .osl 40 2 (i) (xs.length + 1 - i)) (q_slc_osl rfl rfl rfl (by omega) (by omega) (by omega)) (oslE0 (by omega) (by omega)) ?_
    refine ax_q (q_mov rfl) ?_
    refine ax_ee (st'' := ⟨_, (40, .rows 2 ((xs.take i ++ [x]).map GTx.row)) :: _⟩) (e_cpy2 (k := 1) rfl rfl (by simp only [List.length_map, List.length_append, List.length_take, List.length_drop, List.length_cons, List.length_nil]; omega) rfl rfl (by omega) (by simp only [List.length_map, List.length_append, List.length_take, List.length_drop, List.length_cons, List.length_nil]; omega)) (congrArg (fun z => (⟨_, (40, .rows 2 z) :: _⟩ : St)) (ins_g1)) ?_
    refine ax_nil ?_
    refine cx_keep rfl rfl ?_
    refine cx_seq ?_
    refine cx_drawL 0 46 (fun _ => false) (fun _ => true) [] ([]) [[9], [1], [7], [47, 48], [46, 49], [0], [1], [51, 52]] [[], [], [], [], [], [], [], []] rfl ?_
    first | refine ⟨⟨46, _, []⟩, .inl ⟨rfl, rfl, rfl, locl_of (loc_q (q_mov rfl))⟩, ?_⟩
    first | refine ⟨_, .inr ⟨rfl, _, rfl, .inr ⟨rfl, rfl, .inr rfl, rfl, rfl⟩, loc_q (q_mov rfl)⟩, ?_⟩
    first | refine ⟨_, .inr ⟨rfl, _, rfl, .inr ⟨rfl, rfl, .inr rfl, rfl, rfl⟩, loc_q (q_mov rfl)⟩, ?_⟩
    first | refine ⟨_, .inr ⟨rfl, _, rfl, .inr ⟨rfl, rfl, .inr rfl, rfl, rfl⟩, loc_q (q_add rfl rfl (by omega))⟩, ?_⟩
    first | refine ⟨_, .inr ⟨rfl, _, rfl, .inr ⟨rfl, rfl, .inl rfl, rfl, rfl⟩, loc_qe (r' := .osl 40 2 (i + 1) (xs.length - i)) (q_slc_osl rfl rfl rfl (by omega) (by omega) (by omega)) (oslE0 (by omega) (by omega))⟩, ?_⟩
    first | refine ⟨_, .inr ⟨rfl, _, rfl, .inr ⟨rfl, rfl, .inr rfl, rfl, rfl⟩, loc_q (q_mov rfl)⟩, ?_⟩
    first | refine ⟨_, .inr ⟨rfl, _, rfl, .inr ⟨rfl, rfl, .inr rfl, rfl, rfl⟩, loc_q (q_mov rfl)⟩, ?_⟩
    first | refine ⟨_, .inr ⟨rfl, _, rfl, .inr ⟨rfl, rfl, .inr rfl, rfl, rfl⟩, loc_qe (r' := .oslc 1000 2 (i) (xs.length - i) (c - i)) (q_slcC rfl rfl rfl (by omega) (by omega) (by omega)) (oslcE (by omega) (by omega) (by omega))⟩, ?_⟩
    refine ⟨rfl, ?_⟩
    refine ax_wk (wk_uncap 53 rfl) ?_
    refine ax_ee (st'' := ⟨_, (40, .rows 2 ((insA xs i x).map GTx.row)) :: _⟩) (e_cpy2 (k := xs.length - i) rfl rfl (by simp only [List.length_map, List.length_append, List.length_take, List.length_drop, List.length_cons, List.length_nil]; omega) rfl rfl (by omega) (by simp only [List.length_map, List.length_append, List.length_take, List.length_drop, List.length_cons, List.length_nil]; omega)) (congrArg (fun z => (⟨_, (40, .rows 2 z) :: _⟩ : St)) (ins_g2 (by omega))) ?_
    refine ax_nil ?_
    refine cx_keep rfl rfl ?_
    refine cx_seq ?_
    refine cx_ops ?_
    refine ax_q (q_mov rfl) ?_
    refine ax_q (q_mov rfl) ?_
    refine ax_nil ?_
    refine cx_keep rfl rfl ?_
    refine cx_wk (wk_swapM 40 1000 (.inl (by decide)) (.inr (by rw [hmv]; rfl))) ?_
    refine cx_ret (retN id [1000, 1001] rfl rfl rfl rfl rfl ?_)
    exact ⟨rfl, rfl⟩
   ·
    have h2 := dF h2
    refine cx_skip ?_
    refine cx_keep rfl rfl ?_
    refine cx_seq ?_
    refine cx_ops ?_
    refine ax_q (q_mov rfl) ?_
    refine ax_q (q_mov rfl) ?_
    refine ax_q (q_mov rfl) ?_
    refine ax_q (q_add rfl rfl (by omega)) ?_
    refine ax_qe (r' := .oslc 1000 2 (0) (xs.length + 1) (c)) (q_slcC rfl rfl rfl (by omega) (by omega) (by omega)) (oslcE (by omega) (by omega) (by omega)) ?_
    refine ax_q (q_mov rfl) ?_
    refine ax_nil ?_
    refine cx_keep rfl rfl ?_
    refine cx_seq ?_
    refine cx_seq ?_
    refine cx_ops ?_
    refine ax_q (q_mov rfl) ?_
    refine ax_q (q_mov rfl) ?_
    refine ax_q (q_mov rfl) ?_
    refine ax_q (q_mov rfl) ?_
    refine ax_q (q_add rfl rfl (by omega)) ?_
    refine ax_qe (r' := .oslc 1000 2 (i + 1) (xs.length - i) (c - (i + 1))) (q_slcC rfl rfl rfl (by omega) (by omega) (by omega)) (oslcE (by omega) (by omega) (by omega)) ?_
    refine ax_wk (wk_uncap 66 rfl) ?_
    refine ax_ovl0 (fn := Try.f58) (tS := 25) (tR := 4) (el := 51) (sz := 2) rfl rfl rfl (by decide) rfl rfl (by rw [hP]; exact Try.func58) (by kernel_rfl) (by kernel_rfl) (by kernel_rfl) (by kernel_rfl) (by rw [hP]; exact Try.underlying25) (by rw [hP]; kernel_rfl) (by decide) (by decide) ?_
    refine ax_q (q_not rfl) ?_
    refine ax_nil ?_
    refine cx_keep rfl rfl ?_
    refine cx_cond rfl (fun h3 => ?_) (fun h3 => ?_)
    ·
     skip
     refine cx_seq ?_
     refine cx_drawL 0 69 (fun _ => false) (fun _ => true) [] ([]) [[0], [1], [7], [70, 71], [69, 72], [0], [1], [74, 75]] [[], [], [], [], [], [], [], []] rfl ?_
     first | refine ⟨⟨69, _, []⟩, .inl ⟨rfl, rfl, rfl, locl_of (loc_q (q_mov rfl))⟩, ?_⟩
     first | refine ⟨_, .inr ⟨rfl, _, rfl, .inr ⟨rfl, rfl, .inr rfl, rfl, rfl⟩, loc_q (q_mov rfl)⟩, ?_⟩
     first | refine ⟨_, .inr ⟨rfl, _, rfl, .inr ⟨rfl, rfl, .inr rfl, rfl, rfl⟩, loc_q (q_mov rfl)⟩, ?_⟩
     first | refine ⟨_, .inr ⟨rfl, _, rfl, .inr ⟨rfl, rfl, .inr rfl, rfl, rfl⟩, loc_q (q_add rfl rfl (by omega))⟩, ?_⟩
     first | refine ⟨_, .inr ⟨rfl, _, rfl, .inr ⟨rfl, rfl, .inl rfl, rfl, rfl⟩, loc_qe (r' := .oslc 1000 2 (i + 1) (xs.length - i) (c - (i + 1))) (q_slcC rfl rfl rfl (by omega) (by omega) (by omega)) (oslcE (by omega) (by omega) (by omega))⟩, ?_⟩
     first | refine ⟨_, .inr ⟨rfl, _, rfl, .inr ⟨rfl, rfl, .inr rfl, rfl, rfl⟩, loc_q (q_mov rfl)⟩, ?_⟩
     first | refine ⟨_, .inr ⟨rfl, _, rfl, .inr ⟨rfl, rfl, .inr rfl, rfl, rfl⟩, loc_q (q_mov rfl)⟩, ?_⟩
     first | refine ⟨_, .inr ⟨rfl, _, rfl, .inr ⟨rfl, rfl, .inr rfl, rfl, rfl⟩, loc_qe (r' := .oslc 1000 2 (i) (xs.length + 1 - i) (c - i)) (q_slcC rfl rfl rfl (by omega) (by omega) (by omega)) (oslcE (by omega) (by omega) (by omega))⟩, ?_⟩
     refine ⟨rfl, ?_⟩
     refine ax_wk (wk_uncap 73 rfl) ?_
     refine ax_wk (wk_uncap 76 rfl) ?_
     refine ax_ee (st'' := ⟨_, (1000, .rows 2 ((xs.take (i + 1) ++ xs.drop i).map GTx.row)) :: _⟩) (e_cpy2 (k := xs.length - i) rfl rfl (by simp only [List.length_map, List.length_append, List.length_take, List.length_drop, List.length_cons, List.length_nil]; omega) rfl rfl (by omega) (by simp only [List.length_map, List.length_append, List.length_take, List.length_drop, List.length_cons, List.length_nil]; omega)) (congrArg (fun z => (⟨_, (1000, .rows 2 z) :: _⟩ : St)) (ins_i1 hil)) ?_
     refine ax_nil ?_
     refine cx_keep rfl rfl ?_
     refine cx_seq ?_
     refine cx_ops ?_
     refine ax_q (q_mov rfl) ?_
     refine ax_q (q_mov rfl) ?_
     refine ax_qe (r' := .oslc 1000 2 (i) (xs.length + 1 - i) (c - i)) (q_slcC rfl rfl rfl (by omega) (by omega) (by omega)) (oslcE (by omega) (by omega) (by omega)) ?_
     refine ax_q (q_mov rfl) ?_
     refine ax_wk (wk_uncap 80 rfl) ?_
     refine ax_ee (st'' := ⟨_, (1000, .rows 2 ((insA xs i x).map GTx.row)) :: _⟩) (e_cpy2 (k := 1) rfl rfl (by simp only [List.length_map, List.length_append, List.length_take, List.length_drop, List.length_cons, List.length_nil]; omega) rfl rfl (by omega) (by simp only [List.length_map, List.length_append, List.length_take, List.length_drop, List.length_cons, List.length_nil]; omega)) (congrArg (fun z => (⟨_, (1000, .rows 2 z) :: _⟩ : St)) (ins_i2 hil)) ?_
     refine ax_nil ?_
     refine cx_keep rfl rfl ?_
     refine cx_seq ?_
     refine cx_ops ?_
     refine ax_q (q_mov rfl) ?_
     refine ax_q (q_mov rfl) ?_
     refine ax_nil ?_
     refine cx_keep rfl rfl ?_
     refine cx_wk (wk_uncap 6 rfl) ?_
     refine cx_ret (retN id [1000, 1001] rfl rfl rfl rfl rfl ?_)
     exact ⟨rfl, rfl⟩
    ·
     skip
     exact absurd h3 (by decide)


/- loop.example/g00332/impl.putTx -/
def k_c_putTx : XCode :=
 .seq (.ops [.op (some 3) (.box (.t 1)),
   .op (some 4) (.mov (.k (.nils 2)))])
 (.keep [0, 3] (.seq (.ops [.op (some 8) (.mov (.t 0)),
   .op (some 9) (.loadN 2 (.t 3)),
   .call (some 10) 49 [.t 8, .t 9, .f 50],
   .op (some 7) (.mov (.t 10)),
   .op (some 11) (.ext (.t 7) 0),
   .op (some 12) (.ext (.t 7) 1),
   .op (some 5) (.mov (.t 11)),
   .op (some 6) (.mov (.t 12))])
 (.keep [0, 3, 5, 6] (.seq (.seq (.ops [.op (some 13) (.mov (.t 6))])
  (.keep [0, 3, 5, 13] (.cond (.t 13)
  (.seq (.ops [.op (some 14) (.mov (.t 0)),
    .op (some 15) (.mov (.t 5)),
    .op (some 16) (.loadN 2 (.t 3)),
    .op (some 17) (.iadr 2 (.t 14) (.t 15)),
    .op none (.store 2 (.t 17) (.t 16))])
   (.keep [0] (.seq (.ops [.op (some 18) (.mov (.t 0)),
    .op (some 4) (.mov (.t 18))])
   (.keep [4] (.ret)))))
  (.skip))))
 (.keep [0, 3, 5] (.seq (.ops [.op (some 19) (.mov (.t 0)),
   .op (some 20) (.mov (.t 5)),
   .op (some 21) (.loadN 2 (.t 3)),
   .op (some 22) (.bslice 2 [.t 21]),
   .call (some 23) 51 [.t 19, .t 20, .t 22],
   .op (some 4) (.mov (.t 23))])
 (.keep [4] (.ret))))))))
theorem k_c_putTx_fits : fitsF Try.prog 38 ⟨24, k_c_putTx, [.t 4]⟩ = true := by kernel_rfl
theorem c_putTx {xs : List GTx} {x : GTx} (hs : SortK GTx.Id xs) (hl : xs.length ≤ 100000) : Con Try.prog (fun e => Nat.beq e 1000) 38 [.osl 1000 2 0 xs.length, x.av] [(1000, .rows 2 ((xs).map GTx.row))] (fun r h => r = .osl 1000 2 0 (putKx GTx.Id xs x).length ∧ h = [(1000, .rows 2 ((putKx GTx.Id xs x).map GTx.row))]) := by
 refine con_of2 k_c_putTx_fits rfl fun C hP hmv => ?_
 unfold k_c_putTx
 refine cx_seq ?_
 refine cx_ops ?_
 refine ax_e (e_box rfl rfl (by decide) rfl rfl rfl) ?_
 refine ax_q (q_mov rfl) ?_
 refine ax_nil ?_
 refine cx_keep rfl rfl ?_
 refine cx_seq ?_
 refine cx_ops ?_
 refine ax_q (q_mov rfl) ?_
 refine ax_q (q_ldN rfl rfl rfl) ?_
 refine ax_call rfl (vc_lend0 (c_BSF_Tx (xs := xs) (y := x) (f := 50) (ds := []) (fun r => cmpI r.Id x.Id) (k := (posK GTx.Id xs x.Id)) posK_le (by omega) (by kernel_rfl) (fun s _ => c_putTx1) (fun j h hj => cmpI_lt.2 (posK_lt h hj)) (fun j h hj => Int.not_lt.1 (fun hh => by have := cmpI_lt.1 hh; have := posK_ge hs h hj; omega))) hP (by repeat (first | exact lal_id _ rfl | exact LAL.nil | refine LAL.cons ?_ ?_ | exact la_id _ rfl | exact LA.lend (lend_whole rfl (by first | (simp; done) | (rw [List.length_map]; rfl))) | refine LA.agg ?_ | refine LA.fn ?_ | refine LA.lend ?_ | exact Lend.d _ | exact Lend.zs _ | exact lend_whole rfl (by first | (simp; done) | (rw [List.length_map]; rfl)) | refine Lend.ptr rfl ?_ | refine Lend.fn ?_ | exact LendL.nil | refine LendL.cons ?_ ?_)) rfl rfl ?_)
 rw [show hitA (fun r : GTx => cmpI r.Id x.Id) xs (posK GTx.Id xs x.Id) = atK GTx.Id xs x.Id from atK_cmp]
 refine ax_q (q_mov rfl) ?_
 refine ax_q (q_ext rfl rfl) ?_
 refine ax_q (q_ext rfl rfl) ?_
 refine ax_q (q_mov rfl) ?_
 refine ax_q (q_mov rfl) ?_
 refine ax_nil ?_
 refine cx_keep rfl rfl ?_
 refine cx_seq ?_
 refine cx_seq ?_
 refine cx_ops ?_
 refine ax_q (q_mov rfl) ?_
 refine ax_nil ?_
 refine cx_keep rfl rfl ?_
 refine cx_cond rfl (fun h0 => ?_) (fun h0 => ?_)
 ·
  skip
  obtain ⟨hk, _⟩ := atK_iff.1 h0
  refine cx_seq ?_
  refine cx_ops ?_
  refine ax_q (q_mov rfl) ?_
  refine ax_q (q_mov rfl) ?_
  refine ax_q (q_ldN rfl rfl rfl) ?_
  refine ax_q (q_ixo rfl rfl hk) ?_
  refine ax_e (e_str (q := GTx.row x) (row := GTx.row xs[(posK GTx.Id xs x.Id)]) (rs' := (xs.set (posK GTx.Id xs x.Id) x).map GTx.row) rfl rfl rfl rfl rfl rfl (mapAt hk) rfl rfl (by rw [List.map_set])) ?_
  refine ax_nil ?_
  refine cx_keep rfl rfl ?_
  refine cx_seq ?_
  refine cx_ops ?_
  refine ax_q (q_mov rfl) ?_
  refine ax_q (q_mov rfl) ?_
  refine ax_nil ?_
  refine cx_keep rfl rfl ?_
  refine cx_ret (retN _root_.id [1000] rfl rfl rfl rfl rfl ?_)
  rw [putKx_1 h0, List.length_set]; exact ⟨rfl, rfl⟩
 ·
  skip
  refine cx_skip ?_
  refine cx_keep rfl rfl ?_
  refine cx_seq ?_
  refine cx_ops ?_
  refine ax_q (q_mov rfl) ?_
  refine ax_q (q_mov rfl) ?_
  refine ax_q (q_ldN rfl rfl rfl) ?_
  refine ax_e (e_bslice rfl (by decide) rfl rfl) ?_
  refine ax_call rfl (vcall_own (c_Insert_Tx (xs := xs) (x := x) (i := (posK GTx.Id xs x.Id)) posK_le (by omega)) hP hmv false (fun e => bif Nat.beq e 1000 then 1000 else 22) [1000, 1001] ⟨rfl, rfl, rfl, rfl, ⟨rfl, rfl, trivial⟩, rfl, rfl, rfl⟩ (.pass rfl rfl (.pass rfl rfl (.pass rfl rfl .nil))) ?_)
  rintro r h ⟨rfl, rfl⟩
  refine ⟨(fun e => bif Nat.beq e 1000 then 1000 else 22), [], ⟨rfl, rfl, rfl, rfl, mem2 rfl rfl, rfl, rfl, fun h => absurd h Bool.false_ne_true⟩, ?_⟩
  refine ax_q (q_mov rfl) ?_
  refine ax_nil ?_
  refine cx_keep rfl rfl ?_
  refine cx_ret (retN _root_.id [1000] rfl rfl rfl rfl rfl ?_)
  rw [putKx_2 h0, insA_len posK_le]; exact ⟨rfl, rfl⟩


/- loop.example/g00332/impl.analyze -/
def k_c_analyze : XCode :=
 .seq (.ops [.op (some 2) (.mov (.k (.nils 2))),
   .op (some 3) (.mov (.k (.nils 2)))])
 (.keep [0] (.seq (.ops [.op (some 8) (.bslice 2 []),
   .op (some 9) (.bslice 2 []),
   .op (some 4) (.mov (.t 8)),
   .op (some 5) (.mov (.t 9))])
 (.keep [0, 4, 5] (.seq (.seq (.ops [.op (some 10) (.mov (.t 0)),
   .op (some 11) (.lenS (.t 10)),
   .op (some 12) (.mov (.k (.int .i64 0)))])
  (.keep [4, 5, 10, 11, 12] (.block 0 (.loop (.seq (.ops [.op (some 13) (.bin .lss (.t 12) (.t 11))])
   (.keep [4, 5, 10, 11, 12, 13] (.seq (.cond (.t 13)
    (.skip)
    (.exit 0))
   (.keep [4, 5, 10, 11, 12] (.seq (.block 1 (.seq (.ops [.op (some 14) (.iadr 10 (.t 10) (.t 12)),
     .op (some 15) (.loadN 10 (.t 14)),
     .op (some 7) (.alloc [.int .i64 0, .int .i64 0, .int .i64 0, .int .i64 0, .int .i64 0, .int .i64 0, .int .i64 0, .int .i64 0, .str [], .str []]),
     .op none (.store 10 (.t 7) (.t 15))])
    (.keep [4, 5, 7, 10, 11, 12] (.seq (.seq (.ops [.op (some 16) (.fadr (.t 7) 3),
      .op (some 17) (.load1 (.t 16))])
    (.keep [4, 5, 7, 10, 11, 12, 17] (.block 2 (.seq (.ops [.op (some 19) (.bin .eql (.t 17) (.k (.int .i64 6))),
      .op (some 18) (.mov (.t 19))])
     (.keep [4, 5, 7, 10, 11, 12, 17, 18] (.cond (.t 18)
     (.seq (.ops [.op (some 21) (.fadr (.t 7) 9),
       .op (some 22) (.load1 (.t 21)),
       .call (some 23) 34 [.t 22],
       .op (some 20) (.mov (.t 23)),
       .op (some 24) (.ext (.t 20) 0),
       .op (some 25) (.ext (.t 20) 1),
       .op (some 4) (.mov (.t 24)),
       .op (some 5) (.mov (.t 25))])
      (.keep [4, 5, 10, 11, 12] (.exit 1)))
     (.seq (.seq (.ops [.op (some 27) (.bin .eql (.t 17) (.k (.int .i64 4))),
        .op (some 26) (.mov (.t 27))])
      (.keep [4, 5, 7, 10, 11, 12, 17, 26] (.cond (.t 26)
       (.skip)
       (.ops [.op (some 28) (.bin .eql (.t 17) (.k (.int .i64 5))),
        .op (some 26) (.mov (.t 28))]))))
      (.keep [4, 5, 7, 10, 11, 12, 17, 26] (.cond (.t 26)
      (.seq (.ops [.op (some 29) (.mov (.t 5)),
        .op (some 30) (.mkfn 36 [.t 7]),
        .call (some 31) 35 [.t 29, .t 30],
        .op (some 5) (.mov (.t 31))])
       (.keep [4, 5, 10, 11, 12] (.exit 1)))
      (.seq (.seq (.ops [.op (some 33) (.bin .eql (.t 17) (.k (.int .i64 2))),
         .op (some 32) (.mov (.t 33))])
       (.keep [4, 5, 7, 10, 11, 12, 17, 32] (.cond (.t 32)
        (.skip)
        (.ops [.op (some 34) (.bin .eql (.t 17) (.k (.int .i64 3))),
         .op (some 32) (.mov (.t 34))]))))
       (.keep [4, 5, 7, 10, 11, 12, 32] (.cond (.t 32)
       (.ops [.op (some 35) (.mov (.t 4)),
         .op (some 36) (.fadr (.t 7) 6),
         .op (some 37) (.load1 (.t 36)),
         .op (some 38) (.fadr (.t 7) 1),
         .op (some 39) (.load1 (.t 38)),
         .op (some 40) (.build [.int .i64 0, .int .i64 0] [(0, 1, .t 37), (1, 1, .t 39)]),
         .call (some 41) 37 [.t 35, .t 40],
         .op (some 4) (.mov (.t 41))])
       (.skip)))))))))))))
    (.keep [4, 5, 7, 10, 11, 12] (.ops [.op (some 42) (.mov (.t 5)),
     .op (some 43) (.fadr (.t 7) 2),
     .op (some 44) (.load1 (.t 43)),
     .op (some 45) (.fadr (.t 7) 1),
     .op (some 46) (.load1 (.t 45)),
     .op (some 47) (.build [.int .i64 0, .int .i64 0] [(0, 1, .t 44), (1, 1, .t 46)]),
     .call (some 48) 38 [.t 42, .t 47],
     .op (some 5) (.mov (.t 48))]))))))
   (.keep [4, 5, 10, 11, 12] (.ops [.op (some 49) (.bin .add (.t 12) (.k (.int .i64 1))),
    .op (some 12) (.mov (.t 49))])))))))))))
 (.keep [4, 5] (.seq (.ops [.op (some 50) (.mov (.t 4)),
   .op (some 51) (.mov (.t 5)),
   .op (some 2) (.mov (.t 50)),
   .op (some 3) (.mov (.t 51))])
 (.keep [2, 3] (.ret))))))))
theorem k_c_analyze_fits : fitsF Try.prog 21 ⟨52, k_c_analyze, [.t 2, .t 3]⟩ = true := by kernel_rfl
set_option maxHeartbeats 8000000 in
theorem c_analyze {log : List GLogRecord} (hl : log.length ≤ 60) (hv : ∀ i (h : i < log.length), log[i].After.length ≤ 1048576) (hr : ∀ i (h : i < log.length), recOK log[i] = true) : Con Try.prog noMv 21 [.d (.sl 10 (log.map GLogRecord.row))] [] (fun r h => r = .tup [.osl 0 2 0 (anaF log log.length).1.length, .osl 1 2 0 (anaF log log.length).2.length] ∧ h = [(0, .rows 2 ((anaF log log.length).1.map GDirty.row)), (1, .rows 2 ((anaF log log.length).2.map GTx.row))]) := by
 refine con_of2 k_c_analyze_fits rfl fun C hP hmv => ?_
 unfold k_c_analyze
 refine cx_seq ?_
 refine cx_ops ?_
 refine ax_q (q_mov rfl) ?_
 refine ax_q (q_mov rfl) ?_
 refine ax_nil ?_
 refine cx_keep rfl rfl ?_
 refine cx_seq ?_
 refine cx_ops ?_
 refine ax_e (e_bslice rfl (by decide) rfl rfl) ?_
 refine ax_e (e_bslice rfl (by decide) rfl rfl) ?_
 refine ax_q (q_mov rfl) ?_
 refine ax_q (q_mov rfl) ?_
 refine ax_nil ?_
 refine cx_keep rfl rfl ?_
 refine cx_seq ?_
 refine cx_seq ?_
 refine cx_ops ?_
 refine ax_q (q_mov rfl) ?_
 first | refine ax_q (q_lenS_map rfl) ?_ | refine ax_q (q_lenS_osl rfl) ?_ | refine ax_q (q_lenS_zs rfl) ?_ | refine ax_q (q_lenS rfl) ?_
 refine ax_q (q_mov rfl) ?_
 refine ax_nil ?_
 refine cx_keep rfl rfl ?_
 refine cx_block ?_
 refine cx_loopU (fun m k => k ≤ log.length ∧ m = log.length - k) (fun k : Nat => [(12, int k), (4, .osl 8 2 0 (anaF log k).1.length), (5, .osl 9 2 0 (anaF log k).2.length)]) (fun k => [(8, .rows 2 ((anaF log k).1.map GDirty.row)), (9, .rows 2 ((anaF log k).2.map GTx.row))]) ⟨_, 0, ⟨Nat.zero_le _, rfl⟩, by repeat (first | exact trivial | refine ⟨rfl, ?_⟩ | refine ⟨?_, ?_⟩)⟩ ?_
 rintro m k ⟨hk, rfl⟩
 refine cx_seq ?_
 refine cx_ops ?_
 refine ax_q (q_ibin rfl rfl rfl) ?_
 refine ax_nil ?_
 refine cx_keep rfl rfl ?_
 refine cx_seq ?_
 refine cx_cond rfl (fun h0 => ?_) (fun h0 => ?_)
 ·
  have h0 := dT h0
  have hkx : k < log.length := by omega
  have hrk := hr k hkx
  have hvk := hv k hkx
  have hI := anaI hr k (by omega)
  obtain ⟨p, t, hs⟩ : ∃ p t, anaF log k = (p, t) := ⟨_, _, rfl⟩
  obtain ⟨i1, i2, i3, i4⟩ := hI
  rw [hs] at i1 i2 i3 i4 ⊢
  simp only at i1 i2 i3 i4 ⊢
  refine cx_skip ?_
  refine cx_keep rfl rfl ?_
  refine cx_seq ?_
  refine cx_block ?_
  refine cx_seq ?_
  refine cx_ops ?_
  refine ax_q (q_ix rfl rfl (mapAt hkx)) ?_
  first | refine ax_q (q_ldN rfl rfl rfl) ?_ | refine ax_q (q_loadN_ip rfl (Nat.le_refl _)) ?_ | refine ax_q (q_loadN_ip rfl (by decide)) ?_ | refine ax_q (q_loadN_rptr rfl rfl (by assumption) (by decide)) ?_ | refine ax_q (q_loadN_rptr rfl rfl (mapAt (by first | assumption | omega)) (by decide)) ?_
  refine ax_e (e_alloc (by decide) rfl rfl) ?_
  refine ax_e (e_st rfl rfl rfl rfl rfl rfl rfl) ?_
  refine ax_nil ?_
  refine cx_keep rfl rfl ?_
  refine cx_seq ?_
  refine cx_seq ?_
  refine cx_ops ?_
  refine ax_q (q_fadr_ptr rfl) ?_
  refine ax_q (q_load1_ptr rfl rfl rfl) ?_
  refine ax_nil ?_
  refine cx_keep rfl rfl ?_
  refine cx_block ?_
  refine cx_seq ?_
  refine cx_ops ?_
  refine ax_q (q_ibin rfl rfl rfl) ?_
  refine ax_q (q_mov rfl) ?_
  refine ax_nil ?_
  refine cx_keep rfl rfl ?_
  refine cx_cond rfl (fun h1 => ?_) (fun h1 => ?_)
  ·
   have h1 := dT h1
   obtain ⟨g1, g2, g3⟩ := rec_lists hrk h1
   have hrl := @readX_len log[k].After
   refine cx_seq ?_
   refine cx_ops ?_
   refine ax_q (q_fadr_ptr rfl) ?_
   refine ax_q (q_load1_ptr rfl rfl rfl) ?_
   first | refine ax_call rfl (vc_pure (c_checkLists (t := log[k].After) (l1 := (readX log[k].After).1) (l2 := (readX log[k].After).2.1) ?_ ?_) hP rfl ?_) | refine ax_call rfl (vc_lend (c_checkLists (t := log[k].After) (l1 := (readX log[k].After).1) (l2 := (readX log[k].After).2.1) ?_ ?_) hP (by repeat (first | exact lal_id _ rfl | exact LAL.nil | refine LAL.cons ?_ ?_ | exact la_id _ rfl | exact LA.lend (lend_whole rfl (by first | (simp; done) | (rw [List.length_map]; rfl))) | refine LA.agg ?_ | refine LA.fn ?_ | refine LA.lend ?_ | exact Lend.d _ | exact Lend.zs _ | exact lend_whole rfl (by first | (simp; done) | (rw [List.length_map]; rfl)) | refine Lend.ptr rfl ?_ | refine Lend.fn ?_ | exact LendL.nil | refine LendL.cons ?_ ?_)) ?_)
   ·
    exact hvk
   ·
    exact g1
   rintro r h ⟨rfl, rfl⟩
   refine ⟨fun i => 23 + 200 * i, [0, 1], ⟨rfl, rfl, rfl, rfl, rfl, (by first | exact (fun h => absurd h Bool.false_ne_true) | exact (fun _ => ⟨rfl, (noisl_of (by repeat (first | exact trivial | refine ⟨noisl_map (fun _ => rfl), ?_⟩ | refine ⟨?_, ?_⟩)))⟩))⟩, ?_⟩
   skip
   refine ax_wk (wk_swap 23 8 rfl rfl) ?_
   refine ax_wk (wk_swap 223 9 rfl rfl) ?_
   refine ax_q (q_mov rfl) ?_
   refine ax_q (q_ext rfl rfl) ?_
   refine ax_q (q_ext rfl rfl) ?_
   refine ax_q (q_mov rfl) ?_
   refine ax_q (q_mov rfl) ?_
   refine ax_nil ?_
   refine cx_keep rfl rfl ?_
   refine cx_exit rfl ?_
   refine cx_keep rfl rfl ?_
   refine cx_ops ?_
   refine ax_qe (r' := int ((k + 1 : Nat) : Int)) (q_ibin rfl rfl rfl) (by rw [wi (by omega) (by omega)]; rfl) ?_
   refine ax_q (q_mov rfl) ?_
   refine ax_nil ?_
   have hF : anaF log (k + 1) = (((readX log[k].After).1).map dOf, ((readX log[k].After).2.1).map tOf) := by rw [anaF_succ hkx, hs, step_6 h1]; rfl
   exact ⟨_, k + 1, by omega, ⟨by omega, rfl⟩, by rw [hF, List.length_map, List.length_map, List.map_map, List.map_map]; exact (by repeat (first | exact trivial | refine ⟨rfl, ?_⟩ | refine ⟨?_, ?_⟩))⟩
  ·
   have h1 := dF h1
   refine cx_seq ?_
   refine cx_seq ?_
   refine cx_ops ?_
   refine ax_q (q_ibin rfl rfl rfl) ?_
   refine ax_q (q_mov rfl) ?_
   refine ax_nil ?_
   refine cx_keep rfl rfl ?_
   refine cx_cond rfl (fun h2 => ?_) (fun h2 => ?_)
   ·
    have h2 := dT h2
    refine cx_skip ?_
    refine cx_keep rfl rfl ?_
    refine cx_cond rfl (fun h3 => ?_) (fun h3 => ?_)
    ·
     have h3 := dT h3
     refine cx_seq ?_
     refine cx_ops ?_
     refine ax_q (q_mov rfl) ?_
     refine ax_q (q_mkfn rfl) ?_
     refine ax_call rfl (vcall_own (c_DeleteFunc_Tx (xs := t) (ds := [.ip log[k].row]) (fun x => decide (x.Id = log[k].Tx)) (by omega) (by kernel_rfl) (fun s _ => c_analyze1)) hP hmv true (fun _ => 9) [1000] ⟨rfl, rfl, rfl, rfl, ⟨rfl, trivial⟩, rfl, rfl, rfl⟩ (.pass rfl rfl (.lend (.lend (.fn (.cons (.ptr rfl (by repeat (first | exact .nil | refine .cons (.d _) ?_))) .nil))) .nil)) ?_)
     rintro r h ⟨rfl, rfl⟩
     refine ⟨fun _ => 9, [], ⟨rfl, rfl, rfl, rfl, (mem1 rfl), rfl, rfl, fun _ => ⟨rfl, noisl_of ⟨noisl_map (fun _ => rfl), trivial⟩⟩⟩, ?_⟩
     rw [delK_eq i2]
     refine ax_q (q_mov rfl) ?_
     refine ax_nil ?_
     refine cx_keep rfl rfl ?_
     refine cx_exit rfl ?_
     refine cx_keep rfl rfl ?_
     refine cx_ops ?_
     refine ax_qe (r' := int ((k + 1 : Nat) : Int)) (q_ibin rfl rfl rfl) (by rw [wi (by omega) (by omega)]; rfl) ?_
     refine ax_q (q_mov rfl) ?_
     refine ax_nil ?_
     have hF : anaF log (k + 1) = (p, delK GTx.Id t log[k].Tx) := by rw [anaF_succ hkx, hs, step_d h1 (.inl h2)]
     exact ⟨_, k + 1, by omega, ⟨by omega, rfl⟩, by rw [hF]; exact (by repeat (first | exact trivial | refine ⟨rfl, ?_⟩ | refine ⟨?_, ?_⟩))⟩
    ·
     have h3 := dF h3
     exact absurd h2 h3
   ·
    have h2 := dF h2
    refine cx_ops ?_
    refine ax_q (q_ibin rfl rfl rfl) ?_
    refine ax_q (q_mov rfl) ?_
    refine ax_nil ?_
    refine cx_keep rfl rfl ?_
    refine cx_cond rfl (fun h3 => ?_) (fun h3 => ?_)
    ·
     have h3 := dT h3
     refine cx_seq ?_
     refine cx_ops ?_
     refine ax_q (q_mov rfl) ?_
     refine ax_q (q_mkfn rfl) ?_
     refine ax_call rfl (vcall_own (c_DeleteFunc_Tx (xs := t) (ds := [.ip log[k].row]) (fun x => decide (x.Id = log[k].Tx)) (by omega) (by kernel_rfl) (fun s _ => c_analyze1)) hP hmv true (fun _ => 9) [1000] ⟨rfl, rfl, rfl, rfl, ⟨rfl, trivial⟩, rfl, rfl, rfl⟩ (.pass rfl rfl (.lend (.lend (.fn (.cons (.ptr rfl (by repeat (first | exact .nil | refine .cons (.d _) ?_))) .nil))) .nil)) ?_)
     rintro r h ⟨rfl, rfl⟩
     refine ⟨fun _ => 9, [], ⟨rfl, rfl, rfl, rfl, (mem1 rfl), rfl, rfl, fun _ => ⟨rfl, noisl_of ⟨noisl_map (fun _ => rfl), trivial⟩⟩⟩, ?_⟩
     rw [delK_eq i2]
     refine ax_q (q_mov rfl) ?_
     refine ax_nil ?_
     refine cx_keep rfl rfl ?_
     refine cx_exit rfl ?_
     refine cx_keep rfl rfl ?_
     refine cx_ops ?_
     refine ax_qe (r' := int ((k + 1 : Nat) : Int)) (q_ibin rfl rfl rfl) (by rw [wi (by omega) (by omega)]; rfl) ?_
     refine ax_q (q_mov rfl) ?_
     refine ax_nil ?_
     have hF : anaF log (k + 1) = (p, delK GTx.Id t log[k].Tx) := by rw [anaF_succ hkx, hs, step_d h1 (.inr h3)]
     exact ⟨_, k + 1, by omega, ⟨by omega, rfl⟩, by rw [hF]; exact (by repeat (first | exact trivial | refine ⟨rfl, ?_⟩ | refine ⟨?_, ?_⟩))⟩
    ·
     have h3 := dF h3
     refine cx_seq ?_
     refine cx_seq ?_
     refine cx_ops ?_
     refine ax_q (q_ibin rfl rfl rfl) ?_
     refine ax_q (q_mov rfl) ?_
     refine ax_nil ?_
     refine cx_keep rfl rfl ?_
     refine cx_cond rfl (fun h4 => ?_) (fun h4 => ?_)
     ·
      have h4 := dT h4
      refine cx_skip ?_
      refine cx_keep rfl rfl ?_
      refine cx_cond rfl (fun h5 => ?_) (fun h5 => ?_)
      ·
       have h5 := dT h5
       refine cx_ops ?_
       refine ax_q (q_mov rfl) ?_
       refine ax_q (q_fadr_ptr rfl) ?_
       refine ax_q (q_load1_ptr rfl rfl rfl) ?_
       refine ax_q (q_fadr_ptr rfl) ?_
       refine ax_q (q_load1_ptr rfl rfl rfl) ?_
       refine ax_q (q_build rfl) ?_
       refine ax_call rfl (vcall_own (c_putDirty (xs := p) (x := ⟨log[k].Page, log[k].Lsn⟩) i1 (by omega)) hP hmv false (fun _ => 8) [1000] ⟨rfl, rfl, rfl, rfl, ⟨rfl, trivial⟩, rfl, rfl, rfl⟩ (.pass rfl rfl (.pass rfl rfl .nil)) ?_)
       rintro r h ⟨rfl, rfl⟩
       refine ⟨(fun _ => 8), [], ⟨rfl, rfl, rfl, rfl, mem1 rfl, rfl, rfl, fun h => absurd h Bool.false_ne_true⟩, ?_⟩
       refine ax_q (q_mov rfl) ?_
       refine ax_nil ?_
       refine cx_keep rfl rfl ?_
       refine cx_ops ?_
       refine ax_q (q_mov rfl) ?_
       refine ax_q (q_fadr_ptr rfl) ?_
       refine ax_q (q_load1_ptr rfl rfl rfl) ?_
       refine ax_q (q_fadr_ptr rfl) ?_
       refine ax_q (q_load1_ptr rfl rfl rfl) ?_
       refine ax_q (q_build rfl) ?_
       refine ax_call rfl (vcall_own (c_putTx (xs := t) (x := ⟨log[k].Tx, log[k].Lsn⟩) i2 (by omega)) hP hmv false (fun _ => 9) [1000] ⟨rfl, rfl, rfl, rfl, ⟨rfl, trivial⟩, rfl, rfl, rfl⟩ (.pass rfl rfl (.pass rfl rfl .nil)) ?_)
       rintro r h ⟨rfl, rfl⟩
       refine ⟨(fun _ => 9), [], ⟨rfl, rfl, rfl, rfl, mem1 rfl, rfl, rfl, fun h => absurd h Bool.false_ne_true⟩, ?_⟩
       refine ax_q (q_mov rfl) ?_
       refine ax_nil ?_
       refine cx_keep rfl rfl ?_
       refine cx_ops ?_
       refine ax_qe (r' := int ((k + 1 : Nat) : Int)) (q_ibin rfl rfl rfl) (by rw [wi (by omega) (by omega)]; rfl) ?_
       refine ax_q (q_mov rfl) ?_
       refine ax_nil ?_
       have hF : anaF log (k + 1) = (insK GDirty.No p ⟨log[k].Page, log[k].Lsn⟩, putKx GTx.Id t ⟨log[k].Tx, log[k].Lsn⟩) := by rw [anaF_succ hkx, hs, step_u h1 (by omega) (.inl h4)]
       exact ⟨_, k + 1, by omega, ⟨by omega, rfl⟩, by rw [hF]; exact (by repeat (first | exact trivial | refine ⟨rfl, ?_⟩ | refine ⟨?_, ?_⟩))⟩
      ·
       have h5 := dF h5
       exact absurd h4 h5
     ·
      have h4 := dF h4
      refine cx_ops ?_
      refine ax_q (q_ibin rfl rfl rfl) ?_
      refine ax_q (q_mov rfl) ?_
      refine ax_nil ?_
      refine cx_keep rfl rfl ?_
      refine cx_cond rfl (fun h5 => ?_) (fun h5 => ?_)
      ·
       have h5 := dT h5
       refine cx_ops ?_
       refine ax_q (q_mov rfl) ?_
       refine ax_q (q_fadr_ptr rfl) ?_
       refine ax_q (q_load1_ptr rfl rfl rfl) ?_
       refine ax_q (q_fadr_ptr rfl) ?_
       refine ax_q (q_load1_ptr rfl rfl rfl) ?_
       refine ax_q (q_build rfl) ?_
       refine ax_call rfl (vcall_own (c_putDirty (xs := p) (x := ⟨log[k].Page, log[k].Lsn⟩) i1 (by omega)) hP hmv false (fun _ => 8) [1000] ⟨rfl, rfl, rfl, rfl, ⟨rfl, trivial⟩, rfl, rfl, rfl⟩ (.pass rfl rfl (.pass rfl rfl .nil)) ?_)
       rintro r h ⟨rfl, rfl⟩
       refine ⟨(fun _ => 8), [], ⟨rfl, rfl, rfl, rfl, mem1 rfl, rfl, rfl, fun h => absurd h Bool.false_ne_true⟩, ?_⟩
       refine ax_q (q_mov rfl) ?_
       refine ax_nil ?_
       refine cx_keep rfl rfl ?_
       refine cx_ops ?_
       refine ax_q (q_mov rfl) ?_
       refine ax_q (q_fadr_ptr rfl) ?_
       refine ax_q (q_load1_ptr rfl rfl rfl) ?_
       refine ax_q (q_fadr_ptr rfl) ?_
       refine ax_q (q_load1_ptr rfl rfl rfl) ?_
       refine ax_q (q_build rfl) ?_
       refine ax_call rfl (vcall_own (c_putTx (xs := t) (x := ⟨log[k].Tx, log[k].Lsn⟩) i2 (by omega)) hP hmv false (fun _ => 9) [1000] ⟨rfl, rfl, rfl, rfl, ⟨rfl, trivial⟩, rfl, rfl, rfl⟩ (.pass rfl rfl (.pass rfl rfl .nil)) ?_)
       rintro r h ⟨rfl, rfl⟩
       refine ⟨(fun _ => 9), [], ⟨rfl, rfl, rfl, rfl, mem1 rfl, rfl, rfl, fun h => absurd h Bool.false_ne_true⟩, ?_⟩
       refine ax_q (q_mov rfl) ?_
       refine ax_nil ?_
       refine cx_keep rfl rfl ?_
       refine cx_ops ?_
       refine ax_qe (r' := int ((k + 1 : Nat) : Int)) (q_ibin rfl rfl rfl) (by rw [wi (by omega) (by omega)]; rfl) ?_
       refine ax_q (q_mov rfl) ?_
       refine ax_nil ?_
       have hF : anaF log (k + 1) = (insK GDirty.No p ⟨log[k].Page, log[k].Lsn⟩, putKx GTx.Id t ⟨log[k].Tx, log[k].Lsn⟩) := by rw [anaF_succ hkx, hs, step_u h1 (by omega) (.inr h5)]
       exact ⟨_, k + 1, by omega, ⟨by omega, rfl⟩, by rw [hF]; exact (by repeat (first | exact trivial | refine ⟨rfl, ?_⟩ | refine ⟨?_, ?_⟩))⟩
      ·
       have h5 := dF h5
       refine cx_skip ?_
       refine cx_keep rfl rfl ?_
       refine cx_ops ?_
       refine ax_q (q_mov rfl) ?_
       refine ax_q (q_fadr_ptr rfl) ?_
       refine ax_q (q_load1_ptr rfl rfl rfl) ?_
       refine ax_q (q_fadr_ptr rfl) ?_
       refine ax_q (q_load1_ptr rfl rfl rfl) ?_
       refine ax_q (q_build rfl) ?_
       refine ax_call rfl (vcall_own (c_putTx (xs := t) (x := ⟨log[k].Tx, log[k].Lsn⟩) i2 (by omega)) hP hmv false (fun _ => 9) [1000] ⟨rfl, rfl, rfl, rfl, ⟨rfl, trivial⟩, rfl, rfl, rfl⟩ (.pass rfl rfl (.pass rfl rfl .nil)) ?_)
       rintro r h ⟨rfl, rfl⟩
       refine ⟨(fun _ => 9), [], ⟨rfl, rfl, rfl, rfl, mem1 rfl, rfl, rfl, fun h => absurd h Bool.false_ne_true⟩, ?_⟩
       refine ax_q (q_mov rfl) ?_
       refine ax_nil ?_
       refine cx_keep rfl rfl ?_
       refine cx_ops ?_
       refine ax_qe (r' := int ((k + 1 : Nat) : Int)) (q_ibin rfl rfl rfl) (by rw [wi (by omega) (by omega)]; rfl) ?_
       refine ax_q (q_mov rfl) ?_
       refine ax_nil ?_
       have hF : anaF log (k + 1) = (p, putKx GTx.Id t ⟨log[k].Tx, log[k].Lsn⟩) := by rw [anaF_succ hkx, hs, step_o h1 (by omega) (by omega)]
       exact ⟨_, k + 1, by omega, ⟨by omega, rfl⟩, by rw [hF]; exact (by repeat (first | exact trivial | refine ⟨rfl, ?_⟩ | refine ⟨?_, ?_⟩))⟩
 ·
  have h0 := dF h0
  obtain rfl : k = log.length := by omega
  refine cx_exit rfl ?_
  refine cx_keep rfl rfl ?_
  refine cx_seq ?_
  refine cx_ops ?_
  refine ax_q (q_mov rfl) ?_
  refine ax_q (q_mov rfl) ?_
  refine ax_q (q_mov rfl) ?_
  refine ax_q (q_mov rfl) ?_
  refine ax_nil ?_
  refine cx_keep rfl rfl ?_
  refine cx_ret (retN (fun e => bif Nat.beq e 9 then 1 else 0) [8, 9] rfl rfl rfl rfl rfl ?_)
  exact ⟨rfl, rfl⟩


/- slices.Clone[[]loop.example/g00332/impl.Dirty,loop.example/g00332/impl.Dirty] -/
def k_c_Clone_Dirty : XCode :=
 .seq (.ops [.op (some 2) (.mov (.k (.nils 2)))])
 (.keep [0] (.seq (.seq (.ops [.op (some 3) (.mov (.t 0)),
   .op (some 4) (.eqn false (.t 3))])
  (.keep [0, 4] (.cond (.t 4)
  (.seq (.ops [.op (some 2) (.mov (.k (.nils 2)))])
   (.keep [2] (.ret)))
  (.skip))))
 (.keep [0] (.seq (.ops [.op (some 5) (.bslice 2 []),
   .op (some 6) (.mov (.t 0)),
   .op (some 7) (.app 2 16 [.int .i64 0, .int .i64 0] (.t 5) (.t 6)),
   .op (some 2) (.mov (.t 7))])
 (.keep [2] (.ret))))))
theorem k_c_Clone_Dirty_fits : fitsF Try.prog 22 ⟨8, k_c_Clone_Dirty, [.t 2]⟩ = true := by kernel_rfl
theorem c_Clone_Dirty {xs : List GDirty} (hw : xs.length ≤ 1048576) : Con Try.prog noMv 22 [.d (.sl 2 (xs.map GDirty.row))] [] (fun r h => r = .osl 0 2 0 xs.length ∧ h = [(0, .rows 2 (xs.map GDirty.row))]) := by
 refine con_of2 k_c_Clone_Dirty_fits rfl fun C hP hmv => ?_
 unfold k_c_Clone_Dirty
 refine cx_seq ?_
 refine cx_ops ?_
 refine ax_q (q_mov rfl) ?_
 refine ax_nil ?_
 refine cx_keep rfl rfl ?_
 refine cx_seq ?_
 refine cx_seq ?_
 refine cx_ops ?_
 refine ax_q (q_mov rfl) ?_
 refine ax_eqn_sl rfl (fun b hb => ?_)
 refine ax_nil ?_
 refine cx_keep rfl rfl ?_
 refine cx_cond rfl (fun h0 => ?_) (fun h0 => ?_)
 ·
  skip
  refine cx_seq ?_
  refine cx_ops ?_
  refine ax_q (q_mov rfl) ?_
  refine ax_nil ?_
  refine cx_keep rfl rfl ?_
  have hx : xs = [] := List.map_eq_nil_iff.1 (hb h0)
  subst hx
  refine cx_wk (wk_virt 900 2 rfl rfl rfl) ?_
  refine cx_wk (wk_zs 2 900 [] rfl rfl) ?_
  refine cx_ret (retN (fun _ => 0) [900] rfl rfl rfl rfl rfl ?_)
  exact ⟨rfl, rfl⟩
 ·
  skip
  refine cx_skip ?_
  refine cx_keep rfl rfl ?_
  refine cx_seq ?_
  refine cx_ops ?_
  refine ax_e (e_bslice rfl (by decide) rfl rfl) ?_
  refine ax_q (q_mov rfl) ?_
  refine ax_e (e_app_osl rfl rfl (Nat.le_refl _) rfl (src_sl 2 _) (.inl (by decide)) (by simp only [List.length_map, List.length_nil]; omega)) ?_
  refine ax_q (q_mov rfl) ?_
  refine ax_nil ?_
  refine cx_keep rfl rfl ?_
  refine cx_ret (retN (fun _ => 0) [5] rfl rfl rfl rfl rfl ?_)
  exact ⟨by simp [renA, mkRes], by simp [renOs, renO]⟩


/- slices.Clone[[]loop.example/g00332/impl.Tx,loop.example/g00332/impl.Tx] -/
def k_c_Clone_Tx : XCode :=
 .seq (.ops [.op (some 2) (.mov (.k (.nils 2)))])
 (.keep [0] (.seq (.seq (.ops [.op (some 3) (.mov (.t 0)),
   .op (some 4) (.eqn false (.t 3))])
  (.keep [0, 4] (.cond (.t 4)
  (.seq (.ops [.op (some 2) (.mov (.k (.nils 2)))])
   (.keep [2] (.ret)))
  (.skip))))
 (.keep [0] (.seq (.ops [.op (some 5) (.bslice 2 []),
   .op (some 6) (.mov (.t 0)),
   .op (some 7) (.app 2 16 [.int .i64 0, .int .i64 0] (.t 5) (.t 6)),
   .op (some 2) (.mov (.t 7))])
 (.keep [2] (.ret))))))
theorem k_c_Clone_Tx_fits : fitsF Try.prog 23 ⟨8, k_c_Clone_Tx, [.t 2]⟩ = true := by kernel_rfl
theorem c_Clone_Tx {xs : List GTx} (hw : xs.length ≤ 1048576) : Con Try.prog noMv 23 [.d (.sl 2 (xs.map GTx.row))] [] (fun r h => r = .osl 0 2 0 xs.length ∧ h = [(0, .rows 2 (xs.map GTx.row))]) := by
 refine con_of2 k_c_Clone_Tx_fits rfl fun C hP hmv => ?_
 unfold k_c_Clone_Tx
 refine cx_seq ?_
 refine cx_ops ?_
 refine ax_q (q_mov rfl) ?_
 refine ax_nil ?_
 refine cx_keep rfl rfl ?_
 refine cx_seq ?_
 refine cx_seq ?_
 refine cx_ops ?_
 refine ax_q (q_mov rfl) ?_
 refine ax_eqn_sl rfl (fun b hb => ?_)
 refine ax_nil ?_
 refine cx_keep rfl rfl ?_
 refine cx_cond rfl (fun h0 => ?_) (fun h0 => ?_)
 ·
  skip
  refine cx_seq ?_
  refine cx_ops ?_
  refine ax_q (q_mov rfl) ?_
  refine ax_nil ?_
  refine cx_keep rfl rfl ?_
  have hx : xs = [] := List.map_eq_nil_iff.1 (hb h0)
  subst hx
  refine cx_wk (wk_virt 900 2 rfl rfl rfl) ?_
  refine cx_wk (wk_zs 2 900 [] rfl rfl) ?_
  refine cx_ret (retN (fun _ => 0) [900] rfl rfl rfl rfl rfl ?_)
  exact ⟨rfl, rfl⟩
 ·
  skip
  refine cx_skip ?_
  refine cx_keep rfl rfl ?_
  refine cx_seq ?_
  refine cx_ops ?_
  refine ax_e (e_bslice rfl (by decide) rfl rfl) ?_
  refine ax_q (q_mov rfl) ?_
  refine ax_e (e_app_osl rfl rfl (Nat.le_refl _) rfl (src_sl 2 _) (.inl (by decide)) (by simp only [List.length_map, List.length_nil]; omega)) ?_
  refine ax_q (q_mov rfl) ?_
  refine ax_nil ?_
  refine cx_keep rfl rfl ?_
  refine cx_ret (retN (fun _ => 0) [5] rfl rfl rfl rfl rfl ?_)
  exact ⟨by simp [renA, mkRes], by simp [renOs, renO]⟩


/- loop.example/g00332/impl.AnalyzeLog -/
def k_c_AnalyzeLog : XCode :=
 .seq (.ops [.op (some 2) (.mov (.k (.nils 2))),
   .op (some 3) (.mov (.k (.nils 2))),
   .op (some 4) (.mov (.k (.int .i64 0)))])
 (.keep [0] (.seq (.block 0 (.seq (.ops [.op (some 8) (.mov (.t 0)),
    .op (some 9) (.lenS (.t 8)),
    .op (some 10) (.bin .gtr (.t 9) (.k (.int .i64 4096))),
    .op (some 7) (.mov (.t 10))])
  (.keep [0, 7] (.cond (.t 7)
   (.seq (.ops [.op (some 2) (.mov (.k (.nils 2))),
     .op (some 3) (.mov (.k (.nils 2))),
     .op (some 4) (.mov (.k (.int .i64 2)))])
   (.keep [2, 3, 4] (.ret)))
   (.seq (.ops [.op (some 12) (.mov (.t 0)),
     .op (some 13) (.lenS (.t 12)),
     .op (some 14) (.bin .gtr (.t 13) (.k (.int .i64 60))),
     .op (some 11) (.mov (.t 14))])
   (.keep [0, 11] (.cond (.t 11)
    (.seq (.ops [.op (some 2) (.mov (.k (.nils 2))),
      .op (some 3) (.mov (.k (.nils 2))),
      .op (some 4) (.mov (.k (.int .i64 6)))])
    (.keep [2, 3, 4] (.ret)))
    (.seq (.ops [.op (some 16) (.mov (.t 0)),
      .call (some 17) 20 [.t 16],
      .op (some 18) (.not (.t 17)),
      .op (some 15) (.mov (.t 18))])
    (.keep [0, 15] (.cond (.t 15)
     (.seq (.ops [.op (some 2) (.mov (.k (.nils 2))),
       .op (some 3) (.mov (.k (.nils 2))),
       .op (some 4) (.mov (.k (.int .i64 1)))])
     (.keep [2, 3, 4] (.ret)))
     (.skip)))))))))))
 (.keep [0] (.seq (.ops [.op (some 20) (.mov (.t 0)),
   .call (some 21) 21 [.t 20],
   .op (some 19) (.mov (.t 21)),
   .op (some 22) (.ext (.t 19) 0),
   .op (some 23) (.ext (.t 19) 1),
   .op (some 5) (.mov (.t 22)),
   .op (some 6) (.mov (.t 23))])
 (.keep [5, 6] (.seq (.ops [.op (some 24) (.mov (.t 5)),
   .call (some 25) 22 [.t 24],
   .op (some 26) (.mov (.t 6)),
   .call (some 27) 23 [.t 26],
   .op (some 2) (.mov (.t 25)),
   .op (some 3) (.mov (.t 27)),
   .op (some 4) (.mov (.k (.int .i64 0)))])
 (.keep [2, 3, 4] (.ret))))))))
theorem k_c_AnalyzeLog_fits : fitsF Try.prog 7 ⟨28, k_c_AnalyzeLog, [.t 2, .t 3, .t 4]⟩ = true := by kernel_rfl
theorem c_AnalyzeLog {log : List GLogRecord} (hl0 : log.length ≤ 1048576) (hv : ∀ i (h : i < log.length), log[i].After.length ≤ 1048576) : Con Try.prog noMv 7 [.d (.sl 10 (log.map GLogRecord.row))] [] (fun r h => r = .tup [.osl 0 2 0 (analyzeF log).1.1.length, .osl 1 2 0 (analyzeF log).1.2.length, int (analyzeF log).2] ∧ h = [(0, .rows 2 ((analyzeF log).1.1.map GDirty.row)), (1, .rows 2 ((analyzeF log).1.2.map GTx.row))]) := by
 refine con_of2 k_c_AnalyzeLog_fits rfl fun C hP hmv => ?_
 unfold k_c_AnalyzeLog
 refine cx_seq ?_
 refine cx_ops ?_
 refine ax_q (q_mov rfl) ?_
 refine ax_q (q_mov rfl) ?_
 refine ax_q (q_mov rfl) ?_
 refine ax_nil ?_
 refine cx_keep rfl rfl ?_
 refine cx_seq ?_
 refine cx_block ?_
 refine cx_seq ?_
 refine cx_ops ?_
 refine ax_q (q_mov rfl) ?_
 first | refine ax_q (q_lenS_map rfl) ?_ | refine ax_q (q_lenS_osl rfl) ?_ | refine ax_q (q_lenS_zs rfl) ?_ | refine ax_q (q_lenS rfl) ?_
 refine ax_q (q_ibin rfl rfl rfl) ?_
 refine ax_q (q_mov rfl) ?_
 refine ax_nil ?_
 refine cx_keep rfl rfl ?_
 refine cx_cond rfl (fun h0 => ?_) (fun h0 => ?_)
 ·
  have h0 := dT h0
  refine cx_seq ?_
  refine cx_ops ?_
  refine ax_q (q_mov rfl) ?_
  refine ax_q (q_mov rfl) ?_
  refine ax_q (q_mov rfl) ?_
  refine ax_nil ?_
  refine cx_keep rfl rfl ?_
  refine cx_wk (wk_virt 901 2 rfl rfl rfl) ?_
  refine cx_wk (wk_zs 2 901 [] rfl rfl) ?_
  refine cx_wk (wk_virt 902 2 rfl rfl rfl) ?_
  refine cx_wk (wk_zs 3 902 [] rfl rfl) ?_
  refine cx_ret (retN (fun e => bif Nat.beq e 902 then 1 else 0) [901, 902] rfl rfl rfl rfl rfl ?_)
  rw [analyzeF_0 (by omega)]; exact ⟨rfl, rfl⟩
 ·
  have h0 := dF h0
  refine cx_seq ?_
  refine cx_ops ?_
  refine ax_q (q_mov rfl) ?_
  first | refine ax_q (q_lenS_map rfl) ?_ | refine ax_q (q_lenS_osl rfl) ?_ | refine ax_q (q_lenS_zs rfl) ?_ | refine ax_q (q_lenS rfl) ?_
  refine ax_q (q_ibin rfl rfl rfl) ?_
  refine ax_q (q_mov rfl) ?_
  refine ax_nil ?_
  refine cx_keep rfl rfl ?_
  refine cx_cond rfl (fun h1 => ?_) (fun h1 => ?_)
  ·
   have h1 := dT h1
   refine cx_seq ?_
   refine cx_ops ?_
   refine ax_q (q_mov rfl) ?_
   refine ax_q (q_mov rfl) ?_
   refine ax_q (q_mov rfl) ?_
   refine ax_nil ?_
   refine cx_keep rfl rfl ?_
   refine cx_wk (wk_virt 901 2 rfl rfl rfl) ?_
   refine cx_wk (wk_zs 2 901 [] rfl rfl) ?_
   refine cx_wk (wk_virt 902 2 rfl rfl rfl) ?_
   refine cx_wk (wk_zs 3 902 [] rfl rfl) ?_
   refine cx_ret (retN (fun e => bif Nat.beq e 902 then 1 else 0) [901, 902] rfl rfl rfl rfl rfl ?_)
   rw [analyzeF_1 (by omega) (by omega)]; exact ⟨rfl, rfl⟩
  ·
   have h1 := dF h1
   refine cx_seq ?_
   refine cx_ops ?_
   refine ax_q (q_mov rfl) ?_
   first | refine ax_call rfl (vc_pure0 (c_areRecords (log := log) ?_ ?_) hP rfl rfl ?_) | refine ax_call rfl (vc_lend0 (c_areRecords (log := log) ?_ ?_) hP (by repeat (first | exact lal_id _ rfl | exact LAL.nil | refine LAL.cons ?_ ?_ | exact la_id _ rfl | exact LA.lend (lend_whole rfl (by first | (simp; done) | (rw [List.length_map]; rfl))) | refine LA.agg ?_ | refine LA.fn ?_ | refine LA.lend ?_ | exact Lend.d _ | exact Lend.zs _ | exact lend_whole rfl (by first | (simp; done) | (rw [List.length_map]; rfl)) | refine Lend.ptr rfl ?_ | refine Lend.fn ?_ | exact LendL.nil | refine LendL.cons ?_ ?_)) rfl rfl ?_)
   ·
    first | assumption | omega | (simp; done) | (simp; omega)
   ·
    first | assumption | omega | (simp; done) | (simp; omega)
   refine ax_q (q_not rfl) ?_
   refine ax_q (q_mov rfl) ?_
   refine ax_nil ?_
   refine cx_keep rfl rfl ?_
   refine cx_cond rfl (fun h2 => ?_) (fun h2 => ?_)
   ·
    have h2 := bT h2
    refine cx_seq ?_
    refine cx_ops ?_
    refine ax_q (q_mov rfl) ?_
    refine ax_q (q_mov rfl) ?_
    refine ax_q (q_mov rfl) ?_
    refine ax_nil ?_
    refine cx_keep rfl rfl ?_
    refine cx_wk (wk_virt 901 2 rfl rfl rfl) ?_
    refine cx_wk (wk_zs 2 901 [] rfl rfl) ?_
    refine cx_wk (wk_virt 902 2 rfl rfl rfl) ?_
    refine cx_wk (wk_zs 3 902 [] rfl rfl) ?_
    refine cx_ret (retN (fun e => bif Nat.beq e 902 then 1 else 0) [901, 902] rfl rfl rfl rfl rfl ?_)
    rw [analyzeF_2 (by omega) (by omega) h2]; exact ⟨rfl, rfl⟩
   ·
    have h2 := bF h2
    have hI := anaI (goodA_rec h2) log.length (Nat.le_refl _)
    obtain ⟨i1, i2, i3, i4⟩ := hI
    refine cx_skip ?_
    refine cx_keep rfl rfl ?_
    refine cx_seq ?_
    refine cx_ops ?_
    refine ax_q (q_mov rfl) ?_
    first | refine ax_call rfl (vc_pure (c_analyze (log := log) ?_ ?_ ?_) hP rfl ?_) | refine ax_call rfl (vc_lend (c_analyze (log := log) ?_ ?_ ?_) hP (by repeat (first | exact lal_id _ rfl | exact LAL.nil | refine LAL.cons ?_ ?_ | exact la_id _ rfl | exact LA.lend (lend_whole rfl (by first | (simp; done) | (rw [List.length_map]; rfl))) | refine LA.agg ?_ | refine LA.fn ?_ | refine LA.lend ?_ | exact Lend.d _ | exact Lend.zs _ | exact lend_whole rfl (by first | (simp; done) | (rw [List.length_map]; rfl)) | refine Lend.ptr rfl ?_ | refine Lend.fn ?_ | exact LendL.nil | refine LendL.cons ?_ ?_)) ?_)
    ·
     first | assumption | omega | (simp; done) | (simp; omega)
    ·
     first | assumption | omega | (simp; done) | (simp; omega)
    ·
     exact goodA_rec h2
    rintro r h ⟨rfl, rfl⟩
    refine ⟨fun i => 21 + 200 * i, [0, 1], ⟨rfl, rfl, rfl, rfl, rfl, (by first | exact (fun h => absurd h Bool.false_ne_true) | exact (fun _ => ⟨rfl, (noisl_of (by repeat (first | exact trivial | refine ⟨noisl_map (fun _ => rfl), ?_⟩ | refine ⟨?_, ?_⟩)))⟩))⟩, ?_⟩
    skip
    refine ax_q (q_mov rfl) ?_
    refine ax_q (q_ext rfl rfl) ?_
    refine ax_q (q_ext rfl rfl) ?_
    refine ax_q (q_mov rfl) ?_
    refine ax_q (q_mov rfl) ?_
    refine ax_nil ?_
    refine cx_keep rfl rfl ?_
    refine cx_seq ?_
    refine cx_ops ?_
    refine ax_q (q_mov rfl) ?_
    first | refine ax_call rfl (vc_pure (c_Clone_Dirty (xs := (anaF log log.length).1) ?_) hP rfl ?_) | refine ax_call rfl (vc_lend (c_Clone_Dirty (xs := (anaF log log.length).1) ?_) hP (by repeat (first | exact lal_id _ rfl | exact LAL.nil | refine LAL.cons ?_ ?_ | exact la_id _ rfl | exact LA.lend (lend_whole rfl (by first | (simp; done) | (rw [List.length_map]; rfl))) | refine LA.agg ?_ | refine LA.fn ?_ | refine LA.lend ?_ | exact Lend.d _ | exact Lend.zs _ | exact lend_whole rfl (by first | (simp; done) | (rw [List.length_map]; rfl)) | refine Lend.ptr rfl ?_ | refine Lend.fn ?_ | exact LendL.nil | refine LendL.cons ?_ ?_)) ?_)
    ·
     first | assumption | omega | (simp; done) | (simp; omega)
    rintro r h ⟨rfl, rfl⟩
    refine ⟨fun i => 25 + 200 * i, [0], ⟨rfl, rfl, rfl, rfl, rfl, (by first | exact (fun h => absurd h Bool.false_ne_true) | exact (fun _ => ⟨rfl, (noisl_of (by repeat (first | exact trivial | refine ⟨noisl_map (fun _ => rfl), ?_⟩ | refine ⟨?_, ?_⟩)))⟩))⟩, ?_⟩
    skip
    refine ax_q (q_mov rfl) ?_
    first | refine ax_call rfl (vc_pure (c_Clone_Tx (xs := (anaF log log.length).2) ?_) hP rfl ?_) | refine ax_call rfl (vc_lend (c_Clone_Tx (xs := (anaF log log.length).2) ?_) hP (by repeat (first | exact lal_id _ rfl | exact LAL.nil | refine LAL.cons ?_ ?_ | exact la_id _ rfl | exact LA.lend (lend_whole rfl (by first | (simp; done) | (rw [List.length_map]; rfl))) | refine LA.agg ?_ | refine LA.fn ?_ | refine LA.lend ?_ | exact Lend.d _ | exact Lend.zs _ | exact lend_whole rfl (by first | (simp; done) | (rw [List.length_map]; rfl)) | refine Lend.ptr rfl ?_ | refine Lend.fn ?_ | exact LendL.nil | refine LendL.cons ?_ ?_)) ?_)
    ·
     first | assumption | omega | (simp; done) | (simp; omega)
    rintro r h ⟨rfl, rfl⟩
    refine ⟨fun i => 27 + 200 * i, [0], ⟨rfl, rfl, rfl, rfl, rfl, (by first | exact (fun h => absurd h Bool.false_ne_true) | exact (fun _ => ⟨rfl, (noisl_of (by repeat (first | exact trivial | refine ⟨noisl_map (fun _ => rfl), ?_⟩ | refine ⟨?_, ?_⟩)))⟩))⟩, ?_⟩
    skip
    refine ax_q (q_mov rfl) ?_
    refine ax_q (q_mov rfl) ?_
    refine ax_q (q_mov rfl) ?_
    refine ax_nil ?_
    refine cx_keep rfl rfl ?_
    refine cx_ret (retN (fun e => bif Nat.beq e 27 then 1 else 0) [25, 27] rfl rfl rfl rfl rfl ?_)
    rw [analyzeF_3 (by omega) (by omega) h2]; exact ⟨rfl, rfl⟩


/- loop.example/g00332/laws.eqDirty -/
def k_c_eqDirty : XCode :=
 .seq (.ops [.op (some 2) (.box (.t 0)),
   .op (some 3) (.box (.t 1)),
   .op (some 4) (.mov (.k (.bool false)))])
 (.keep [2, 3] (.seq (.seq (.ops [.op (some 5) (.fadr (.t 2) 0),
   .op (some 6) (.load1 (.t 5)),
   .op (some 7) (.fadr (.t 3) 0),
   .op (some 8) (.load1 (.t 7)),
   .op (some 9) (.bin .neq (.t 6) (.t 8))])
  (.keep [2, 3, 9] (.cond (.t 9)
  (.seq (.ops [.op (some 4) (.mov (.k (.bool false)))])
   (.keep [4] (.ret)))
  (.skip))))
 (.keep [2, 3] (.seq (.seq (.ops [.op (some 10) (.fadr (.t 2) 1),
   .op (some 11) (.load1 (.t 10)),
   .op (some 12) (.fadr (.t 3) 1),
   .op (some 13) (.load1 (.t 12)),
   .op (some 14) (.bin .neq (.t 11) (.t 13))])
  (.keep [14] (.cond (.t 14)
  (.seq (.ops [.op (some 4) (.mov (.k (.bool false)))])
   (.keep [4] (.ret)))
  (.skip))))
 (.keep [] (.seq (.ops [.op (some 4) (.mov (.k (.bool true)))])
 (.keep [4] (.ret))))))))
theorem k_c_eqDirty_fits : fitsF Try.prog 24 ⟨15, k_c_eqDirty, [.t 4]⟩ = true := by kernel_rfl
theorem c_eqDirty {a b : GDirty}  : Con Try.prog noMv 24 [a.av, b.av] [] (fun r h => r = bool (eqb a b) ∧ h = []) := by
 refine con_of2 k_c_eqDirty_fits rfl fun C hP hmv => ?_
 unfold k_c_eqDirty
 refine cx_seq ?_
 refine cx_ops ?_
 refine ax_e (e_box rfl rfl (by decide) rfl rfl rfl) ?_
 refine ax_e (e_box rfl rfl (by decide) rfl rfl rfl) ?_
 refine ax_q (q_mov rfl) ?_
 refine ax_nil ?_
 refine cx_keep rfl rfl ?_
 refine cx_seq ?_
 refine cx_seq ?_
 refine cx_ops ?_
 refine ax_q (q_fadr_ptr rfl) ?_
 refine ax_q (q_load1_ptr rfl rfl rfl) ?_
 refine ax_q (q_fadr_ptr rfl) ?_
 refine ax_q (q_load1_ptr rfl rfl rfl) ?_
 refine ax_q (q_ibin rfl rfl rfl) ?_
 refine ax_nil ?_
 refine cx_keep rfl rfl ?_
 refine cx_cond rfl (fun h0 => ?_) (fun h0 => ?_)
 ·
  have h0 := nT h0
  refine cx_seq ?_
  refine cx_ops ?_
  refine ax_q (q_mov rfl) ?_
  refine ax_nil ?_
  refine cx_keep rfl rfl ?_
  refine cx_ret (ret0 rfl rfl ?_)
  exact ⟨congrArg AM.bool (eqb_f (fun h => h0 (by rw [h]))).symm, rfl⟩
 ·
  have h0 := nF h0
  refine cx_skip ?_
  refine cx_keep rfl rfl ?_
  refine cx_seq ?_
  refine cx_seq ?_
  refine cx_ops ?_
  refine ax_q (q_fadr_ptr rfl) ?_
  refine ax_q (q_load1_ptr rfl rfl rfl) ?_
  refine ax_q (q_fadr_ptr rfl) ?_
  refine ax_q (q_load1_ptr rfl rfl rfl) ?_
  refine ax_q (q_ibin rfl rfl rfl) ?_
  refine ax_nil ?_
  refine cx_keep rfl rfl ?_
  refine cx_cond rfl (fun h1 => ?_) (fun h1 => ?_)
  ·
   have h1 := nT h1
   refine cx_seq ?_
   refine cx_ops ?_
   refine ax_q (q_mov rfl) ?_
   refine ax_nil ?_
   refine cx_keep rfl rfl ?_
   refine cx_ret (ret0 rfl rfl ?_)
   exact ⟨congrArg AM.bool (eqb_f (fun h => h1 (by rw [h]))).symm, rfl⟩
  ·
   have h1 := nF h1
   refine cx_skip ?_
   refine cx_keep rfl rfl ?_
   refine cx_seq ?_
   refine cx_ops ?_
   refine ax_q (q_mov rfl) ?_
   refine ax_nil ?_
   refine cx_keep rfl rfl ?_
   refine cx_ret (ret0 rfl rfl ?_)
   exact ⟨congrArg AM.bool (eqb_t (GDirty.ext1 h0 h1)).symm, rfl⟩


/- loop.example/g00332/laws.eqDirtyS -/
def k_c_eqDirtyS : XCode :=
 .seq (.ops [.op (some 4) (.mov (.k (.bool false)))])
 (.keep [0, 1] (.seq (.seq (.ops [.op (some 6) (.mov (.t 0)),
   .op (some 7) (.lenS (.t 6)),
   .op (some 8) (.mov (.t 1)),
   .op (some 9) (.lenS (.t 8)),
   .op (some 10) (.bin .neq (.t 7) (.t 9))])
  (.keep [0, 1, 10] (.cond (.t 10)
  (.seq (.ops [.op (some 4) (.mov (.k (.bool false)))])
   (.keep [4] (.ret)))
  (.skip))))
 (.keep [0, 1] (.seq (.seq (.ops [.op (some 5) (.mov (.k (.int .i64 0)))])
  (.keep [0, 1, 5] (.block 0 (.loop (.seq (.seq (.ops [.op (some 11) (.mov (.t 5)),
     .op (some 12) (.mov (.t 0)),
     .op (some 13) (.lenS (.t 12)),
     .op (some 14) (.bin .lss (.t 11) (.t 13))])
   (.keep [0, 1, 5, 14] (.cond (.t 14)
    (.skip)
    (.exit 0))))
   (.keep [0, 1, 5] (.seq (.block 1 (.seq (.draw [.op (some 17) (.mov (.t 0)),
     .op (some 18) (.mov (.t 5)),
     .op (some 19) (.iadr 2 (.t 17) (.t 18)),
     .op (some 20) (.loadN 2 (.t 19)),
     .op (some 21) (.mov (.t 1)),
     .op (some 22) (.mov (.t 5)),
     .op (some 23) (.iadr 2 (.t 21) (.t 22)),
     .op (some 24) (.loadN 2 (.t 23)),
     .call (some 25) 24 [.t 20, .t 24],
     .op (some 26) (.not (.t 25))])
    (.keep [0, 1, 5, 26] (.cond (.t 26)
    (.seq (.ops [.op (some 4) (.mov (.k (.bool false)))])
     (.keep [4] (.ret)))
    (.skip)))))
   (.keep [0, 1, 5] (.ops [.op (some 15) (.mov (.t 5)),
    .op (some 16) (.bin .add (.t 15) (.k (.int .i64 1))),
    .op (some 5) (.mov (.t 16))])))))))))
 (.keep [] (.seq (.ops [.op (some 4) (.mov (.k (.bool true)))])
 (.keep [4] (.ret))))))))
theorem k_c_eqDirtyS_fits : fitsF Try.prog 8 ⟨27, k_c_eqDirtyS, [.t 4]⟩ = true := by kernel_rfl
theorem c_eqDirtyS {xs ys : List GDirty} (hw : xs.length ≤ 9223372036854775807) : Con Try.prog noMv 8 [.d (.sl 2 (xs.map GDirty.row)), .d (.sl 2 (ys.map GDirty.row))] [] (fun r h => r = bool (eqb xs ys) ∧ h = []) := by
 refine con_of2 k_c_eqDirtyS_fits rfl fun C hP hmv => ?_
 unfold k_c_eqDirtyS
 refine cx_seq ?_
 refine cx_ops ?_
 refine ax_q (q_mov rfl) ?_
 refine ax_nil ?_
 refine cx_keep rfl rfl ?_
 refine cx_seq ?_
 refine cx_seq ?_
 refine cx_ops ?_
 refine ax_q (q_mov rfl) ?_
 first | refine ax_q (q_lenS_map rfl) ?_ | refine ax_q (q_lenS_osl rfl) ?_ | refine ax_q (q_lenS_zs rfl) ?_ | refine ax_q (q_lenS rfl) ?_
 refine ax_q (q_mov rfl) ?_
 first | refine ax_q (q_lenS_map rfl) ?_ | refine ax_q (q_lenS_osl rfl) ?_ | refine ax_q (q_lenS_zs rfl) ?_ | refine ax_q (q_lenS rfl) ?_
 refine ax_q (q_ibin rfl rfl rfl) ?_
 refine ax_nil ?_
 refine cx_keep rfl rfl ?_
 refine cx_cond rfl (fun h0 => ?_) (fun h0 => ?_)
 ·
  have h0 := nT h0
  refine cx_seq ?_
  refine cx_ops ?_
  refine ax_q (q_mov rfl) ?_
  refine ax_nil ?_
  refine cx_keep rfl rfl ?_
  refine cx_ret (ret0 rfl rfl ?_)
  exact ⟨congrArg AM.bool (eqb_f (fun h => h0 (by rw [h]))).symm, rfl⟩
 ·
  have h0 := nF h0
  refine cx_skip ?_
  refine cx_keep rfl rfl ?_
  refine cx_seq ?_
  refine cx_seq ?_
  refine cx_ops ?_
  refine ax_q (q_mov rfl) ?_
  refine ax_nil ?_
  refine cx_keep rfl rfl ?_
  refine cx_block ?_
  have hl : xs.length = ys.length := by omega
  refine cx_loopU (fun n k => k ≤ xs.length ∧ n = xs.length - k ∧ xs.take k = ys.take k) (fun k : Nat => [(5, int k)]) (fun _ => []) ⟨_, 0, ⟨Nat.zero_le _, rfl, rfl⟩, by repeat (first | exact trivial | refine ⟨rfl, ?_⟩ | refine ⟨?_, ?_⟩)⟩ ?_
  rintro n k ⟨hk, rfl, ht⟩
  refine cx_seq ?_
  refine cx_seq ?_
  refine cx_ops ?_
  refine ax_q (q_mov rfl) ?_
  refine ax_q (q_mov rfl) ?_
  first | refine ax_q (q_lenS_map rfl) ?_ | refine ax_q (q_lenS_osl rfl) ?_ | refine ax_q (q_lenS_zs rfl) ?_ | refine ax_q (q_lenS rfl) ?_
  refine ax_q (q_ibin rfl rfl rfl) ?_
  refine ax_nil ?_
  refine cx_keep rfl rfl ?_
  refine cx_cond rfl (fun h1 => ?_) (fun h1 => ?_)
  ·
   have h1 := dT h1
   have h1x : k < xs.length := by omega
   have h1y : k < ys.length := by omega
   refine cx_skip ?_
   refine cx_keep rfl rfl ?_
   refine cx_seq ?_
   refine cx_block ?_
   refine cx_seq ?_
   refine cx_draw ?_
   refine ax_q (q_mov rfl) ?_
   refine ax_q (q_mov rfl) ?_
   refine ax_q (q_ix rfl rfl (mapAt h1x)) ?_
   first | refine ax_q (q_ldN rfl rfl rfl) ?_ | refine ax_q (q_loadN_ip rfl (Nat.le_refl _)) ?_ | refine ax_q (q_loadN_ip rfl (by decide)) ?_ | refine ax_q (q_loadN_rptr rfl rfl (by assumption) (by decide)) ?_ | refine ax_q (q_loadN_rptr rfl rfl (mapAt (by first | assumption | omega)) (by decide)) ?_
   refine ax_q (q_mov rfl) ?_
   refine ax_q (q_mov rfl) ?_
   refine ax_q (q_ix rfl rfl (mapAt h1y)) ?_
   first | refine ax_q (q_ldN rfl rfl rfl) ?_ | refine ax_q (q_loadN_ip rfl (Nat.le_refl _)) ?_ | refine ax_q (q_loadN_ip rfl (by decide)) ?_ | refine ax_q (q_loadN_rptr rfl rfl (by assumption) (by decide)) ?_ | refine ax_q (q_loadN_rptr rfl rfl (mapAt (by first | assumption | omega)) (by decide)) ?_
   first | refine ax_callq rfl (c_eqDirty) hP (lal_id _ rfl) rfl ?_ | refine ax_call rfl (vc_pure0 (c_eqDirty) hP rfl rfl ?_)
   refine ax_q (q_not rfl) ?_
   refine ax_nil ?_
   refine cx_keep rfl rfl ?_
   refine cx_cond rfl (fun h2 => ?_) (fun h2 => ?_)
   ·
    have h2 := bT h2
    refine cx_seq ?_
    refine cx_ops ?_
    refine ax_q (q_mov rfl) ?_
    refine ax_nil ?_
    refine cx_keep rfl rfl ?_
    refine cx_ret (ret0 rfl rfl ?_)
    exact ⟨congrArg AM.bool (eqbL_no h1x h1y h2).symm, rfl⟩
   ·
    have h2 := bF h2
    refine cx_skip ?_
    refine cx_keep rfl rfl ?_
    refine cx_ops ?_
    refine ax_q (q_mov rfl) ?_
    refine ax_q (q_add rfl rfl (by omega)) ?_
    refine ax_q (q_mov rfl) ?_
    refine ax_nil ?_
    exact ⟨_, k + 1, by omega, ⟨by omega, rfl, eqbL_step h1x h1y ht h2⟩, by repeat (first | exact trivial | refine ⟨rfl, ?_⟩ | refine ⟨?_, ?_⟩)⟩
  ·
   have h1 := dF h1
   refine cx_exit rfl ?_
   refine cx_keep rfl rfl ?_
   refine cx_seq ?_
   refine cx_ops ?_
   refine ax_q (q_mov rfl) ?_
   refine ax_nil ?_
   refine cx_keep rfl rfl ?_
   refine cx_ret (ret0 rfl rfl ?_)
   exact ⟨congrArg AM.bool (eqb_t (eq_of_take hl (by rwa [show k = xs.length from by omega] at ht))).symm, rfl⟩


/- loop.example/g00332/laws.eqTx -/
def k_c_eqTx : XCode :=
 .seq (.ops [.op (some 2) (.box (.t 0)),
   .op (some 3) (.box (.t 1)),
   .op (some 4) (.mov (.k (.bool false)))])
 (.keep [2, 3] (.seq (.seq (.ops [.op (some 5) (.fadr (.t 2) 0),
   .op (some 6) (.load1 (.t 5)),
   .op (some 7) (.fadr (.t 3) 0),
   .op (some 8) (.load1 (.t 7)),
   .op (some 9) (.bin .neq (.t 6) (.t 8))])
  (.keep [2, 3, 9] (.cond (.t 9)
  (.seq (.ops [.op (some 4) (.mov (.k (.bool false)))])
   (.keep [4] (.ret)))
  (.skip))))
 (.keep [2, 3] (.seq (.seq (.ops [.op (some 10) (.fadr (.t 2) 1),
   .op (some 11) (.load1 (.t 10)),
   .op (some 12) (.fadr (.t 3) 1),
   .op (some 13) (.load1 (.t 12)),
   .op (some 14) (.bin .neq (.t 11) (.t 13))])
  (.keep [14] (.cond (.t 14)
  (.seq (.ops [.op (some 4) (.mov (.k (.bool false)))])
   (.keep [4] (.ret)))
  (.skip))))
 (.keep [] (.seq (.ops [.op (some 4) (.mov (.k (.bool true)))])
 (.keep [4] (.ret))))))))
theorem k_c_eqTx_fits : fitsF Try.prog 25 ⟨15, k_c_eqTx, [.t 4]⟩ = true := by kernel_rfl
theorem c_eqTx {a b : GTx}  : Con Try.prog noMv 25 [a.av, b.av] [] (fun r h => r = bool (eqb a b) ∧ h = []) := by
 refine con_of2 k_c_eqTx_fits rfl fun C hP hmv => ?_
 unfold k_c_eqTx
 refine cx_seq ?_
 refine cx_ops ?_
 refine ax_e (e_box rfl rfl (by decide) rfl rfl rfl) ?_
 refine ax_e (e_box rfl rfl (by decide) rfl rfl rfl) ?_
 refine ax_q (q_mov rfl) ?_
 refine ax_nil ?_
 refine cx_keep rfl rfl ?_
 refine cx_seq ?_
 refine cx_seq ?_
 refine cx_ops ?_
 refine ax_q (q_fadr_ptr rfl) ?_
 refine ax_q (q_load1_ptr rfl rfl rfl) ?_
 refine ax_q (q_fadr_ptr rfl) ?_
 refine ax_q (q_load1_ptr rfl rfl rfl) ?_
 refine ax_q (q_ibin rfl rfl rfl) ?_
 refine ax_nil ?_
 refine cx_keep rfl rfl ?_
 refine cx_cond rfl (fun h0 => ?_) (fun h0 => ?_)
 ·
  have h0 := nT h0
  refine cx_seq ?_
  refine cx_ops ?_
  refine ax_q (q_mov rfl) ?_
  refine ax_nil ?_
  refine cx_keep rfl rfl ?_
  refine cx_ret (ret0 rfl rfl ?_)
  exact ⟨congrArg AM.bool (eqb_f (fun h => h0 (by rw [h]))).symm, rfl⟩
 ·
  have h0 := nF h0
  refine cx_skip ?_
  refine cx_keep rfl rfl ?_
  refine cx_seq ?_
  refine cx_seq ?_
  refine cx_ops ?_
  refine ax_q (q_fadr_ptr rfl) ?_
  refine ax_q (q_load1_ptr rfl rfl rfl) ?_
  refine ax_q (q_fadr_ptr rfl) ?_
  refine ax_q (q_load1_ptr rfl rfl rfl) ?_
  refine ax_q (q_ibin rfl rfl rfl) ?_
  refine ax_nil ?_
  refine cx_keep rfl rfl ?_
  refine cx_cond rfl (fun h1 => ?_) (fun h1 => ?_)
  ·
   have h1 := nT h1
   refine cx_seq ?_
   refine cx_ops ?_
   refine ax_q (q_mov rfl) ?_
   refine ax_nil ?_
   refine cx_keep rfl rfl ?_
   refine cx_ret (ret0 rfl rfl ?_)
   exact ⟨congrArg AM.bool (eqb_f (fun h => h1 (by rw [h]))).symm, rfl⟩
  ·
   have h1 := nF h1
   refine cx_skip ?_
   refine cx_keep rfl rfl ?_
   refine cx_seq ?_
   refine cx_ops ?_
   refine ax_q (q_mov rfl) ?_
   refine ax_nil ?_
   refine cx_keep rfl rfl ?_
   refine cx_ret (ret0 rfl rfl ?_)
   exact ⟨congrArg AM.bool (eqb_t (GTx.ext1 h0 h1)).symm, rfl⟩


/- loop.example/g00332/laws.eqTxS -/
def k_c_eqTxS : XCode :=
 .seq (.ops [.op (some 4) (.mov (.k (.bool false)))])
 (.keep [0, 1] (.seq (.seq (.ops [.op (some 6) (.mov (.t 0)),
   .op (some 7) (.lenS (.t 6)),
   .op (some 8) (.mov (.t 1)),
   .op (some 9) (.lenS (.t 8)),
   .op (some 10) (.bin .neq (.t 7) (.t 9))])
  (.keep [0, 1, 10] (.cond (.t 10)
  (.seq (.ops [.op (some 4) (.mov (.k (.bool false)))])
   (.keep [4] (.ret)))
  (.skip))))
 (.keep [0, 1] (.seq (.seq (.ops [.op (some 5) (.mov (.k (.int .i64 0)))])
  (.keep [0, 1, 5] (.block 0 (.loop (.seq (.seq (.ops [.op (some 11) (.mov (.t 5)),
     .op (some 12) (.mov (.t 0)),
     .op (some 13) (.lenS (.t 12)),
     .op (some 14) (.bin .lss (.t 11) (.t 13))])
   (.keep [0, 1, 5, 14] (.cond (.t 14)
    (.skip)
    (.exit 0))))
   (.keep [0, 1, 5] (.seq (.block 1 (.seq (.draw [.op (some 17) (.mov (.t 0)),
     .op (some 18) (.mov (.t 5)),
     .op (some 19) (.iadr 2 (.t 17) (.t 18)),
     .op (some 20) (.loadN 2 (.t 19)),
     .op (some 21) (.mov (.t 1)),
     .op (some 22) (.mov (.t 5)),
     .op (some 23) (.iadr 2 (.t 21) (.t 22)),
     .op (some 24) (.loadN 2 (.t 23)),
     .call (some 25) 25 [.t 20, .t 24],
     .op (some 26) (.not (.t 25))])
    (.keep [0, 1, 5, 26] (.cond (.t 26)
    (.seq (.ops [.op (some 4) (.mov (.k (.bool false)))])
     (.keep [4] (.ret)))
    (.skip)))))
   (.keep [0, 1, 5] (.ops [.op (some 15) (.mov (.t 5)),
    .op (some 16) (.bin .add (.t 15) (.k (.int .i64 1))),
    .op (some 5) (.mov (.t 16))])))))))))
 (.keep [] (.seq (.ops [.op (some 4) (.mov (.k (.bool true)))])
 (.keep [4] (.ret))))))))
theorem k_c_eqTxS_fits : fitsF Try.prog 9 ⟨27, k_c_eqTxS, [.t 4]⟩ = true := by kernel_rfl
theorem c_eqTxS {xs ys : List GTx} (hw : xs.length ≤ 9223372036854775807) : Con Try.prog noMv 9 [.d (.sl 2 (xs.map GTx.row)), .d (.sl 2 (ys.map GTx.row))] [] (fun r h => r = bool (eqb xs ys) ∧ h = []) := by
 refine con_of2 k_c_eqTxS_fits rfl fun C hP hmv => ?_
 unfold k_c_eqTxS
 refine cx_seq ?_
 refine cx_ops ?_
 refine ax_q (q_mov rfl) ?_
 refine ax_nil ?_
 refine cx_keep rfl rfl ?_
 refine cx_seq ?_
 refine cx_seq ?_
 refine cx_ops ?_
 refine ax_q (q_mov rfl) ?_
 first | refine ax_q (q_lenS_map rfl) ?_ | refine ax_q (q_lenS_osl rfl) ?_ | refine ax_q (q_lenS_zs rfl) ?_ | refine ax_q (q_lenS rfl) ?_
 refine ax_q (q_mov rfl) ?_
 first | refine ax_q (q_lenS_map rfl) ?_ | refine ax_q (q_lenS_osl rfl) ?_ | refine ax_q (q_lenS_zs rfl) ?_ | refine ax_q (q_lenS rfl) ?_
 refine ax_q (q_ibin rfl rfl rfl) ?_
 refine ax_nil ?_
 refine cx_keep rfl rfl ?_
 refine cx_cond rfl (fun h0 => ?_) (fun h0 => ?_)
 ·
  have h0 := nT h0
  refine cx_seq ?_
  refine cx_ops ?_
  refine ax_q (q_mov rfl) ?_
  refine ax_nil ?_
  refine cx_keep rfl rfl ?_
  refine cx_ret (ret0 rfl rfl ?_)
  exact ⟨congrArg AM.bool (eqb_f (fun h => h0 (by rw [h]))).symm, rfl⟩
 ·
  have h0 := nF h0
  refine cx_skip ?_
  refine cx_keep rfl rfl ?_
  refine cx_seq ?_
  refine cx_seq ?_
  refine cx_ops ?_
  refine ax_q (q_mov rfl) ?_
  refine ax_nil ?_
  refine cx_keep rfl rfl ?_
  refine cx_block ?_
  have hl : xs.length = ys.length := by omega
  refine cx_loopU (fun n k => k ≤ xs.length ∧ n = xs.length - k ∧ xs.take k = ys.take k) (fun k : Nat => [(5, int k)]) (fun _ => []) ⟨_, 0, ⟨Nat.zero_le _, rfl, rfl⟩, by repeat (first | exact trivial | refine ⟨rfl, ?_⟩ | refine ⟨?_, ?_⟩)⟩ ?_
  rintro n k ⟨hk, rfl, ht⟩
  refine cx_seq ?_
  refine cx_seq ?_
  refine cx_ops ?_
  refine ax_q (q_mov rfl) ?_
  refine ax_q (q_mov rfl) ?_
  first | refine ax_q (q_lenS_map rfl) ?_ | refine ax_q (q_lenS_osl rfl) ?_ | refine ax_q (q_lenS_zs rfl) ?_ | refine ax_q (q_lenS rfl) ?_
  refine ax_q (q_ibin rfl rfl rfl) ?_
  refine ax_nil ?_
  refine cx_keep rfl rfl ?_
  refine cx_cond rfl (fun h1 => ?_) (fun h1 => ?_)
  ·
   have h1 := dT h1
   have h1x : k < xs.length := by omega
   have h1y : k < ys.length := by omega
   refine cx_skip ?_
   refine cx_keep rfl rfl ?_
   refine cx_seq ?_
   refine cx_block ?_
   refine cx_seq ?_
   refine cx_draw ?_
   refine ax_q (q_mov rfl) ?_
   refine ax_q (q_mov rfl) ?_
   refine ax_q (q_ix rfl rfl (mapAt h1x)) ?_
   first | refine ax_q (q_ldN rfl rfl rfl) ?_ | refine ax_q (q_loadN_ip rfl (Nat.le_refl _)) ?_ | refine ax_q (q_loadN_ip rfl (by decide)) ?_ | refine ax_q (q_loadN_rptr rfl rfl (by assumption) (by decide)) ?_ | refine ax_q (q_loadN_rptr rfl rfl (mapAt (by first | assumption | omega)) (by decide)) ?_
   refine ax_q (q_mov rfl) ?_
   refine ax_q (q_mov rfl) ?_
   refine ax_q (q_ix rfl rfl (mapAt h1y)) ?_
   first | refine ax_q (q_ldN rfl rfl rfl) ?_ | refine ax_q (q_loadN_ip rfl (Nat.le_refl _)) ?_ | refine ax_q (q_loadN_ip rfl (by decide)) ?_ | refine ax_q (q_loadN_rptr rfl rfl (by assumption) (by decide)) ?_ | refine ax_q (q_loadN_rptr rfl rfl (mapAt (by first | assumption | omega)) (by decide)) ?_
   first | refine ax_callq rfl (c_eqTx) hP (lal_id _ rfl) rfl ?_ | refine ax_call rfl (vc_pure0 (c_eqTx) hP rfl rfl ?_)
   refine ax_q (q_not rfl) ?_
   refine ax_nil ?_
   refine cx_keep rfl rfl ?_
   refine cx_cond rfl (fun h2 => ?_) (fun h2 => ?_)
   ·
    have h2 := bT h2
    refine cx_seq ?_
    refine cx_ops ?_
    refine ax_q (q_mov rfl) ?_
    refine ax_nil ?_
    refine cx_keep rfl rfl ?_
    refine cx_ret (ret0 rfl rfl ?_)
    exact ⟨congrArg AM.bool (eqbL_no h1x h1y h2).symm, rfl⟩
   ·
    have h2 := bF h2
    refine cx_skip ?_
    refine cx_keep rfl rfl ?_
    refine cx_ops ?_
    refine ax_q (q_mov rfl) ?_
    refine ax_q (q_add rfl rfl (by omega)) ?_
    refine ax_q (q_mov rfl) ?_
    refine ax_nil ?_
    exact ⟨_, k + 1, by omega, ⟨by omega, rfl, eqbL_step h1x h1y ht h2⟩, by repeat (first | exact trivial | refine ⟨rfl, ?_⟩ | refine ⟨?_, ?_⟩)⟩
  ·
   have h1 := dF h1
   refine cx_exit rfl ?_
   refine cx_keep rfl rfl ?_
   refine cx_seq ?_
   refine cx_ops ?_
   refine ax_q (q_mov rfl) ?_
   refine ax_nil ?_
   refine cx_keep rfl rfl ?_
   refine cx_ret (ret0 rfl rfl ?_)
   exact ⟨congrArg AM.bool (eqb_t (eq_of_take hl (by rwa [show k = xs.length from by omega] at ht))).symm, rfl⟩


/- loop.example/g00332/laws.eqLogRecord -/
def k_c_eqLogRecord : XCode :=
 .seq (.ops [.op (some 2) (.box (.t 0)),
   .op (some 3) (.box (.t 1)),
   .op (some 4) (.mov (.k (.bool false)))])
 (.keep [2, 3] (.seq (.seq (.ops [.op (some 5) (.fadr (.t 2) 0),
   .op (some 6) (.load1 (.t 5)),
   .op (some 7) (.fadr (.t 3) 0),
   .op (some 8) (.load1 (.t 7)),
   .op (some 9) (.bin .neq (.t 6) (.t 8))])
  (.keep [2, 3, 9] (.cond (.t 9)
  (.seq (.ops [.op (some 4) (.mov (.k (.bool false)))])
   (.keep [4] (.ret)))
  (.skip))))
 (.keep [2, 3] (.seq (.seq (.ops [.op (some 10) (.fadr (.t 2) 1),
   .op (some 11) (.load1 (.t 10)),
   .op (some 12) (.fadr (.t 3) 1),
   .op (some 13) (.load1 (.t 12)),
   .op (some 14) (.bin .neq (.t 11) (.t 13))])
  (.keep [2, 3, 14] (.cond (.t 14)
  (.seq (.ops [.op (some 4) (.mov (.k (.bool false)))])
   (.keep [4] (.ret)))
  (.skip))))
 (.keep [2, 3] (.seq (.seq (.ops [.op (some 15) (.fadr (.t 2) 2),
   .op (some 16) (.load1 (.t 15)),
   .op (some 17) (.fadr (.t 3) 2),
   .op (some 18) (.load1 (.t 17)),
   .op (some 19) (.bin .neq (.t 16) (.t 18))])
  (.keep [2, 3, 19] (.cond (.t 19)
  (.seq (.ops [.op (some 4) (.mov (.k (.bool false)))])
   (.keep [4] (.ret)))
  (.skip))))
 (.keep [2, 3] (.seq (.seq (.ops [.op (some 20) (.fadr (.t 2) 3),
   .op (some 21) (.load1 (.t 20)),
   .op (some 22) (.fadr (.t 3) 3),
   .op (some 23) (.load1 (.t 22)),
   .op (some 24) (.bin .neq (.t 21) (.t 23))])
  (.keep [2, 3, 24] (.cond (.t 24)
  (.seq (.ops [.op (some 4) (.mov (.k (.bool false)))])
   (.keep [4] (.ret)))
  (.skip))))
 (.keep [2, 3] (.seq (.seq (.ops [.op (some 25) (.fadr (.t 2) 4),
   .op (some 26) (.load1 (.t 25)),
   .op (some 27) (.fadr (.t 3) 4),
   .op (some 28) (.load1 (.t 27)),
   .op (some 29) (.bin .neq (.t 26) (.t 28))])
  (.keep [2, 3, 29] (.cond (.t 29)
  (.seq (.ops [.op (some 4) (.mov (.k (.bool false)))])
   (.keep [4] (.ret)))
  (.skip))))
 (.keep [2, 3] (.seq (.seq (.ops [.op (some 30) (.fadr (.t 2) 5),
   .op (some 31) (.load1 (.t 30)),
   .op (some 32) (.fadr (.t 3) 5),
   .op (some 33) (.load1 (.t 32)),
   .op (some 34) (.bin .neq (.t 31) (.t 33))])
  (.keep [2, 3, 34] (.cond (.t 34)
  (.seq (.ops [.op (some 4) (.mov (.k (.bool false)))])
   (.keep [4] (.ret)))
  (.skip))))
 (.keep [2, 3] (.seq (.seq (.ops [.op (some 35) (.fadr (.t 2) 6),
   .op (some 36) (.load1 (.t 35)),
   .op (some 37) (.fadr (.t 3) 6),
   .op (some 38) (.load1 (.t 37)),
   .op (some 39) (.bin .neq (.t 36) (.t 38))])
  (.keep [2, 3, 39] (.cond (.t 39)
  (.seq (.ops [.op (some 4) (.mov (.k (.bool false)))])
   (.keep [4] (.ret)))
  (.skip))))
 (.keep [2, 3] (.seq (.seq (.ops [.op (some 40) (.fadr (.t 2) 7),
   .op (some 41) (.load1 (.t 40)),
   .op (some 42) (.fadr (.t 3) 7),
   .op (some 43) (.load1 (.t 42)),
   .op (some 44) (.bin .neq (.t 41) (.t 43))])
  (.keep [2, 3, 44] (.cond (.t 44)
  (.seq (.ops [.op (some 4) (.mov (.k (.bool false)))])
   (.keep [4] (.ret)))
  (.skip))))
 (.keep [2, 3] (.seq (.seq (.ops [.op (some 45) (.fadr (.t 2) 8),
   .op (some 46) (.load1 (.t 45)),
   .op (some 47) (.fadr (.t 3) 8),
   .op (some 48) (.load1 (.t 47)),
   .op (some 49) (.bin .neq (.t 46) (.t 48))])
  (.keep [2, 3, 49] (.cond (.t 49)
  (.seq (.ops [.op (some 4) (.mov (.k (.bool false)))])
   (.keep [4] (.ret)))
  (.skip))))
 (.keep [2, 3] (.seq (.seq (.ops [.op (some 50) (.fadr (.t 2) 9),
   .op (some 51) (.load1 (.t 50)),
   .op (some 52) (.fadr (.t 3) 9),
   .op (some 53) (.load1 (.t 52)),
   .op (some 54) (.bin .neq (.t 51) (.t 53))])
  (.keep [54] (.cond (.t 54)
  (.seq (.ops [.op (some 4) (.mov (.k (.bool false)))])
   (.keep [4] (.ret)))
  (.skip))))
 (.keep [] (.seq (.ops [.op (some 4) (.mov (.k (.bool true)))])
 (.keep [4] (.ret))))))))))))))))))))))))
theorem k_c_eqLogRecord_fits : fitsF Try.prog 26 ⟨55, k_c_eqLogRecord, [.t 4]⟩ = true := by kernel_rfl
theorem c_eqLogRecord {a b : GLogRecord}  : Con Try.prog noMv 26 [a.av, b.av] [] (fun r h => r = bool (eqb a b) ∧ h = []) := by
 refine con_of2 k_c_eqLogRecord_fits rfl fun C hP hmv => ?_
 unfold k_c_eqLogRecord
 refine cx_seq ?_
 refine cx_ops ?_
 refine ax_e (e_box rfl rfl (by decide) rfl rfl rfl) ?_
 refine ax_e (e_box rfl rfl (by decide) rfl rfl rfl) ?_
 refine ax_q (q_mov rfl) ?_
 refine ax_nil ?_
 refine cx_keep rfl rfl ?_
 refine cx_seq ?_
 refine cx_seq ?_
 refine cx_ops ?_
 refine ax_q (q_fadr_ptr rfl) ?_
 refine ax_q (q_load1_ptr rfl rfl rfl) ?_
 refine ax_q (q_fadr_ptr rfl) ?_
 refine ax_q (q_load1_ptr rfl rfl rfl) ?_
 refine ax_q (q_ibin rfl rfl rfl) ?_
 refine ax_nil ?_
 refine cx_keep rfl rfl ?_
 refine cx_cond rfl (fun h0 => ?_) (fun h0 => ?_)
 ·
  have h0 := nT h0
  refine cx_seq ?_
  refine cx_ops ?_
  refine ax_q (q_mov rfl) ?_
  refine ax_nil ?_
  refine cx_keep rfl rfl ?_
  refine cx_ret (ret0 rfl rfl ?_)
  exact ⟨congrArg AM.bool (eqb_f (fun h => h0 (by rw [h]))).symm, rfl⟩
 ·
  have h0 := nF h0
  refine cx_skip ?_
  refine cx_keep rfl rfl ?_
  refine cx_seq ?_
  refine cx_seq ?_
  refine cx_ops ?_
  refine ax_q (q_fadr_ptr rfl) ?_
  refine ax_q (q_load1_ptr rfl rfl rfl) ?_
  refine ax_q (q_fadr_ptr rfl) ?_
  refine ax_q (q_load1_ptr rfl rfl rfl) ?_
  refine ax_q (q_ibin rfl rfl rfl) ?_
  refine ax_nil ?_
  refine cx_keep rfl rfl ?_
  refine cx_cond rfl (fun h1 => ?_) (fun h1 => ?_)
  ·
   have h1 := nT h1
   refine cx_seq ?_
   refine cx_ops ?_
   refine ax_q (q_mov rfl) ?_
   refine ax_nil ?_
   refine cx_keep rfl rfl ?_
   refine cx_ret (ret0 rfl rfl ?_)
   exact ⟨congrArg AM.bool (eqb_f (fun h => h1 (by rw [h]))).symm, rfl⟩
  ·
   have h1 := nF h1
   refine cx_skip ?_
   refine cx_keep rfl rfl ?_
   refine cx_seq ?_
   refine cx_seq ?_
   refine cx_ops ?_
   refine ax_q (q_fadr_ptr rfl) ?_
   refine ax_q (q_load1_ptr rfl rfl rfl) ?_
   refine ax_q (q_fadr_ptr rfl) ?_
   refine ax_q (q_load1_ptr rfl rfl rfl) ?_
   refine ax_q (q_ibin rfl rfl rfl) ?_
   refine ax_nil ?_
   refine cx_keep rfl rfl ?_
   refine cx_cond rfl (fun h2 => ?_) (fun h2 => ?_)
   ·
    have h2 := nT h2
    refine cx_seq ?_
    refine cx_ops ?_
    refine ax_q (q_mov rfl) ?_
    refine ax_nil ?_
    refine cx_keep rfl rfl ?_
    refine cx_ret (ret0 rfl rfl ?_)
    exact ⟨congrArg AM.bool (eqb_f (fun h => h2 (by rw [h]))).symm, rfl⟩
   ·
    have h2 := nF h2
    refine cx_skip ?_
    refine cx_keep rfl rfl ?_
    refine cx_seq ?_
    refine cx_seq ?_
    refine cx_ops ?_
    refine ax_q (q_fadr_ptr rfl) ?_
    refine ax_q (q_load1_ptr rfl rfl rfl) ?_
    refine ax_q (q_fadr_ptr rfl) ?_
    refine ax_q (q_load1_ptr rfl rfl rfl) ?_
    refine ax_q (q_ibin rfl rfl rfl) ?_
    refine ax_nil ?_
    refine cx_keep rfl rfl ?_
    refine cx_cond rfl (fun h3 => ?_) (fun h3 => ?_)
    ·
     have h3 := nT h3
     refine cx_seq ?_
     refine cx_ops ?_
     refine ax_q (q_mov rfl) ?_
     refine ax_nil ?_
     refine cx_keep rfl rfl ?_
     refine cx_ret (ret0 rfl rfl ?_)
     exact ⟨congrArg AM.bool (eqb_f (fun h => h3 (by rw [h]))).symm, rfl⟩
    ·
     have h3 := nF h3
     refine cx_skip ?_
     refine cx_keep rfl rfl ?_
     refine cx_seq ?_
     refine cx_seq ?_
     refine cx_ops ?_
     refine ax_q (q_fadr_ptr rfl) ?_
     refine ax_q (q_load1_ptr rfl rfl rfl) ?_
     refine ax_q (q_fadr_ptr rfl) ?_
     refine ax_q (q_load1_ptr rfl rfl rfl) ?_
     refine ax_q (q_ibin rfl rfl rfl) ?_
     refine ax_nil ?_
     refine cx_keep rfl rfl ?_
     refine cx_cond rfl (fun h4 => ?_) (fun h4 => ?_)
     ·
      have h4 := nT h4
      refine cx_seq ?_
      refine cx_ops ?_
      refine ax_q (q_mov rfl) ?_
      refine ax_nil ?_
      refine cx_keep rfl rfl ?_
      refine cx_ret (ret0 rfl rfl ?_)
      exact ⟨congrArg AM.bool (eqb_f (fun h => h4 (by rw [h]))).symm, rfl⟩
     ·
      have h4 := nF h4
      refine cx_skip ?_
      refine cx_keep rfl rfl ?_
      refine cx_seq ?_
      refine cx_seq ?_
      refine cx_ops ?_
      refine ax_q (q_fadr_ptr rfl) ?_
      refine ax_q (q_load1_ptr rfl rfl rfl) ?_
      refine ax_q (q_fadr_ptr rfl) ?_
      refine ax_q (q_load1_ptr rfl rfl rfl) ?_
      refine ax_q (q_ibin rfl rfl rfl) ?_
      refine ax_nil ?_
      refine cx_keep rfl rfl ?_
      refine cx_cond rfl (fun h5 => ?_) (fun h5 => ?_)
      ·
       have h5 := nT h5
       refine cx_seq ?_
       refine cx_ops ?_
       refine ax_q (q_mov rfl) ?_
       refine ax_nil ?_
       refine cx_keep rfl rfl ?_
       refine cx_ret (ret0 rfl rfl ?_)
       exact ⟨congrArg AM.bool (eqb_f (fun h => h5 (by rw [h]))).symm, rfl⟩
      ·
       have h5 := nF h5
       refine cx_skip ?_
       refine cx_keep rfl rfl ?_
       refine cx_seq ?_
       refine cx_seq ?_
       refine cx_ops ?_
       refine ax_q (q_fadr_ptr rfl) ?_
       refine ax_q (q_load1_ptr rfl rfl rfl) ?_
       refine ax_q (q_fadr_ptr rfl) ?_
       refine ax_q (q_load1_ptr rfl rfl rfl) ?_
       refine ax_q (q_ibin rfl rfl rfl) ?_
       refine ax_nil ?_
       refine cx_keep rfl rfl ?_
       refine cx_cond rfl (fun h6 => ?_) (fun h6 => ?_)
       ·
        have h6 := nT h6
        refine cx_seq ?_
        refine cx_ops ?_
        refine ax_q (q_mov rfl) ?_
        refine ax_nil ?_
        refine cx_keep rfl rfl ?_
        refine cx_ret (ret0 rfl rfl ?_)
        exact ⟨congrArg AM.bool (eqb_f (fun h => h6 (by rw [h]))).symm, rfl⟩
       ·
        have h6 := nF h6
        refine cx_skip ?_
        refine cx_keep rfl rfl ?_
        refine cx_seq ?_
        refine cx_seq ?_
        refine cx_ops ?_
        refine ax_q (q_fadr_ptr rfl) ?_
        refine ax_q (q_load1_ptr rfl rfl rfl) ?_
        refine ax_q (q_fadr_ptr rfl) ?_
        refine ax_q (q_load1_ptr rfl rfl rfl) ?_
        refine ax_q (q_ibin rfl rfl rfl) ?_
        refine ax_nil ?_
        refine cx_keep rfl rfl ?_
        refine cx_cond rfl (fun h7 => ?_) (fun h7 => ?_)
        ·
         have h7 := nT h7
         refine cx_seq ?_
         refine cx_ops ?_
         refine ax_q (q_mov rfl) ?_
         refine ax_nil ?_
         refine cx_keep rfl rfl ?_
         refine cx_ret (ret0 rfl rfl ?_)
         exact ⟨congrArg AM.bool (eqb_f (fun h => h7 (by rw [h]))).symm, rfl⟩
        ·
         have h7 := nF h7
         refine cx_skip ?_
         refine cx_keep rfl rfl ?_
         refine cx_seq ?_
         refine cx_seq ?_
         refine cx_ops ?_
         refine ax_q (q_fadr_ptr rfl) ?_
         refine ax_q (q_load1_ptr rfl rfl rfl) ?_
         refine ax_q (q_fadr_ptr rfl) ?_
         refine ax_q (q_load1_ptr rfl rfl rfl) ?_
         refine ax_q (q_sbin rfl rfl rfl) ?_
         refine ax_nil ?_
         refine cx_keep rfl rfl ?_
         refine cx_cond rfl (fun h8 => ?_) (fun h8 => ?_)
         ·
          have h8 := nT h8
          refine cx_seq ?_
          refine cx_ops ?_
          refine ax_q (q_mov rfl) ?_
          refine ax_nil ?_
          refine cx_keep rfl rfl ?_
          refine cx_ret (ret0 rfl rfl ?_)
          exact ⟨congrArg AM.bool (eqb_f (fun h => h8 (by rw [h]))).symm, rfl⟩
         ·
          have h8 := nF h8
          refine cx_skip ?_
          refine cx_keep rfl rfl ?_
          refine cx_seq ?_
          refine cx_seq ?_
          refine cx_ops ?_
          refine ax_q (q_fadr_ptr rfl) ?_
          refine ax_q (q_load1_ptr rfl rfl rfl) ?_
          refine ax_q (q_fadr_ptr rfl) ?_
          refine ax_q (q_load1_ptr rfl rfl rfl) ?_
          refine ax_q (q_sbin rfl rfl rfl) ?_
          refine ax_nil ?_
          refine cx_keep rfl rfl ?_
          refine cx_cond rfl (fun h9 => ?_) (fun h9 => ?_)
          ·
           have h9 := nT h9
           refine cx_seq ?_
           refine cx_ops ?_
           refine ax_q (q_mov rfl) ?_
           refine ax_nil ?_
           refine cx_keep rfl rfl ?_
           refine cx_ret (ret0 rfl rfl ?_)
           exact ⟨congrArg AM.bool (eqb_f (fun h => h9 (by rw [h]))).symm, rfl⟩
          ·
           have h9 := nF h9
           refine cx_skip ?_
           refine cx_keep rfl rfl ?_
           refine cx_seq ?_
           refine cx_ops ?_
           refine ax_q (q_mov rfl) ?_
           refine ax_nil ?_
           refine cx_keep rfl rfl ?_
           refine cx_ret (ret0 rfl rfl ?_)
           exact ⟨congrArg AM.bool (eqb_t (GLogRecord.ext1 h0 h1 h2 h3 h4 h5 h6 h7 h8 h9)).symm, rfl⟩


/- loop.example/g00332/laws.eqLogRecordS -/
def k_c_eqLogRecordS : XCode :=
 .seq (.ops [.op (some 4) (.mov (.k (.bool false)))])
 (.keep [0, 1] (.seq (.seq (.ops [.op (some 6) (.mov (.t 0)),
   .op (some 7) (.lenS (.t 6)),
   .op (some 8) (.mov (.t 1)),
   .op (some 9) (.lenS (.t 8)),
   .op (some 10) (.bin .neq (.t 7) (.t 9))])
  (.keep [0, 1, 10] (.cond (.t 10)
  (.seq (.ops [.op (some 4) (.mov (.k (.bool false)))])
   (.keep [4] (.ret)))
  (.skip))))
 (.keep [0, 1] (.seq (.seq (.ops [.op (some 5) (.mov (.k (.int .i64 0)))])
  (.keep [0, 1, 5] (.block 0 (.loop (.seq (.seq (.ops [.op (some 11) (.mov (.t 5)),
     .op (some 12) (.mov (.t 0)),
     .op (some 13) (.lenS (.t 12)),
     .op (some 14) (.bin .lss (.t 11) (.t 13))])
   (.keep [0, 1, 5, 14] (.cond (.t 14)
    (.skip)
    (.exit 0))))
   (.keep [0, 1, 5] (.seq (.block 1 (.seq (.draw [.op (some 17) (.mov (.t 0)),
     .op (some 18) (.mov (.t 5)),
     .op (some 19) (.iadr 10 (.t 17) (.t 18)),
     .op (some 20) (.loadN 10 (.t 19)),
     .op (some 21) (.mov (.t 1)),
     .op (some 22) (.mov (.t 5)),
     .op (some 23) (.iadr 10 (.t 21) (.t 22)),
     .op (some 24) (.loadN 10 (.t 23)),
     .call (some 25) 26 [.t 20, .t 24],
     .op (some 26) (.not (.t 25))])
    (.keep [0, 1, 5, 26] (.cond (.t 26)
    (.seq (.ops [.op (some 4) (.mov (.k (.bool false)))])
     (.keep [4] (.ret)))
    (.skip)))))
   (.keep [0, 1, 5] (.ops [.op (some 15) (.mov (.t 5)),
    .op (some 16) (.bin .add (.t 15) (.k (.int .i64 1))),
    .op (some 5) (.mov (.t 16))])))))))))
 (.keep [] (.seq (.ops [.op (some 4) (.mov (.k (.bool true)))])
 (.keep [4] (.ret))))))))
theorem k_c_eqLogRecordS_fits : fitsF Try.prog 10 ⟨27, k_c_eqLogRecordS, [.t 4]⟩ = true := by kernel_rfl
theorem c_eqLogRecordS {xs ys : List GLogRecord} (hw : xs.length ≤ 9223372036854775807) : Con Try.prog noMv 10 [.d (.sl 10 (xs.map GLogRecord.row)), .d (.sl 10 (ys.map GLogRecord.row))] [] (fun r h => r = bool (eqb xs ys) ∧ h = []) := by
 refine con_of2 k_c_eqLogRecordS_fits rfl fun C hP hmv => ?_
 unfold k_c_eqLogRecordS
 refine cx_seq ?_
 refine cx_ops ?_
 refine ax_q (q_mov rfl) ?_
 refine ax_nil ?_
 refine cx_keep rfl rfl ?_
 refine cx_seq ?_
 refine cx_seq ?_
 refine cx_ops ?_
 refine ax_q (q_mov rfl) ?_
 first | refine ax_q (q_lenS_map rfl) ?_ | refine ax_q (q_lenS_osl rfl) ?_ | refine ax_q (q_lenS_zs rfl) ?_ | refine ax_q (q_lenS rfl) ?_
 refine ax_q (q_mov rfl) ?_
 first | refine ax_q (q_lenS_map rfl) ?_ | refine ax_q (q_lenS_osl rfl) ?_ | refine ax_q (q_lenS_zs rfl) ?_ | refine ax_q (q_lenS rfl) ?_
 refine ax_q (q_ibin rfl rfl rfl) ?_
 refine ax_nil ?_
 refine cx_keep rfl rfl ?_
 refine cx_cond rfl (fun h0 => ?_) (fun h0 => ?_)
 ·
  have h0 := nT h0
  refine cx_seq ?_
  refine cx_ops ?_
  refine ax_q (q_mov rfl) ?_
  refine ax_nil ?_
  refine cx_keep rfl rfl ?_
  refine cx_ret (ret0 rfl rfl ?_)
  exact ⟨congrArg AM.bool (eqb_f (fun h => h0 (by rw [h]))).symm, rfl⟩
 ·
  have h0 := nF h0
  refine cx_skip ?_
  refine cx_keep rfl rfl ?_
  refine cx_seq ?_
  refine cx_seq ?_
  refine cx_ops ?_
  refine ax_q (q_mov rfl) ?_
  refine ax_nil ?_
  refine cx_keep rfl rfl ?_
  refine cx_block ?_
  have hl : xs.length = ys.length := by omega
  refine cx_loopU (fun n k => k ≤ xs.length ∧ n = xs.length - k ∧ xs.take k = ys.take k) (fun k : Nat => [(5, int k)]) (fun _ => []) ⟨_, 0, ⟨Nat.zero_le _, rfl, rfl⟩, by repeat (first | exact trivial | refine ⟨rfl, ?_⟩ | refine ⟨?_, ?_⟩)⟩ ?_
  rintro n k ⟨hk, rfl, ht⟩
  refine cx_seq ?_
  refine cx_seq ?_
  refine cx_ops ?_
  refine ax_q (q_mov rfl) ?_
  refine ax_q (q_mov rfl) ?_
  first | refine ax_q (q_lenS_map rfl) ?_ | refine ax_q (q_lenS_osl rfl) ?_ | refine ax_q (q_lenS_zs rfl) ?_ | refine ax_q (q_lenS rfl) ?_
  refine ax_q (q_ibin rfl rfl rfl) ?_
  refine ax_nil ?_
  refine cx_keep rfl rfl ?_
  refine cx_cond rfl (fun h1 => ?_) (fun h1 => ?_)
  ·
   have h1 := dT h1
   have h1x : k < xs.length := by omega
   have h1y : k < ys.length := by omega
   refine cx_skip ?_
   refine cx_keep rfl rfl ?_
   refine cx_seq ?_
   refine cx_block ?_
   refine cx_seq ?_
   refine cx_draw ?_
   refine ax_q (q_mov rfl) ?_
   refine ax_q (q_mov rfl) ?_
   refine ax_q (q_ix rfl rfl (mapAt h1x)) ?_
   first | refine ax_q (q_ldN rfl rfl rfl) ?_ | refine ax_q (q_loadN_ip rfl (Nat.le_refl _)) ?_ | refine ax_q (q_loadN_ip rfl (by decide)) ?_ | refine ax_q (q_loadN_rptr rfl rfl (by assumption) (by decide)) ?_ | refine ax_q (q_loadN_rptr rfl rfl (mapAt (by first | assumption | omega)) (by decide)) ?_
   refine ax_q (q_mov rfl) ?_
   refine ax_q (q_mov rfl) ?_
   refine ax_q (q_ix rfl rfl (mapAt h1y)) ?_
   first | refine ax_q (q_ldN rfl rfl rfl) ?_ | refine ax_q (q_loadN_ip rfl (Nat.le_refl _)) ?_ | refine ax_q (q_loadN_ip rfl (by decide)) ?_ | refine ax_q (q_loadN_rptr rfl rfl (by assumption) (by decide)) ?_ | refine ax_q (q_loadN_rptr rfl rfl (mapAt (by first | assumption | omega)) (by decide)) ?_
   first | refine ax_callq rfl (c_eqLogRecord) hP (lal_id _ rfl) rfl ?_ | refine ax_call rfl (vc_pure0 (c_eqLogRecord) hP rfl rfl ?_)
   refine ax_q (q_not rfl) ?_
   refine ax_nil ?_
   refine cx_keep rfl rfl ?_
   refine cx_cond rfl (fun h2 => ?_) (fun h2 => ?_)
   ·
    have h2 := bT h2
    refine cx_seq ?_
    refine cx_ops ?_
    refine ax_q (q_mov rfl) ?_
    refine ax_nil ?_
    refine cx_keep rfl rfl ?_
    refine cx_ret (ret0 rfl rfl ?_)
    exact ⟨congrArg AM.bool (eqbL_no h1x h1y h2).symm, rfl⟩
   ·
    have h2 := bF h2
    refine cx_skip ?_
    refine cx_keep rfl rfl ?_
    refine cx_ops ?_
    refine ax_q (q_mov rfl) ?_
    refine ax_q (q_add rfl rfl (by omega)) ?_
    refine ax_q (q_mov rfl) ?_
    refine ax_nil ?_
    exact ⟨_, k + 1, by omega, ⟨by omega, rfl, eqbL_step h1x h1y ht h2⟩, by repeat (first | exact trivial | refine ⟨rfl, ?_⟩ | refine ⟨?_, ?_⟩)⟩
  ·
   have h1 := dF h1
   refine cx_exit rfl ?_
   refine cx_keep rfl rfl ?_
   refine cx_seq ?_
   refine cx_ops ?_
   refine ax_q (q_mov rfl) ?_
   refine ax_nil ?_
   refine cx_keep rfl rfl ?_
   refine cx_ret (ret0 rfl rfl ?_)
   exact ⟨congrArg AM.bool (eqb_t (eq_of_take hl (by rwa [show k = xs.length from by omega] at ht))).symm, rfl⟩


/- loop.example/g00332/laws.markText -/
def k_c_markText : XCode :=
 .seq (.ops [.op (some 2) (.mov (.k (.str [])))])
 (.keep [0] (.seq (.seq (.ops [.op (some 4) (.mov (.t 0)),
   .op (some 5) (.bin .leq (.t 4) (.k (.int .i64 0)))])
  (.keep [0, 5] (.cond (.t 5)
  (.seq (.ops [.op (some 2) (.mov (.k (.str [109, 48])))])
   (.keep [2] (.ret)))
  (.skip))))
 (.keep [0] (.seq (.ops [.op (some 3) (.mov (.k (.str [])))])
 (.keep [0, 3] (.seq (.block 0 (.loop (.seq (.seq (.ops [.op (some 6) (.mov (.t 0)),
     .op (some 7) (.bin .gtr (.t 6) (.k (.int .i64 0)))])
   (.keep [0, 3, 7] (.cond (.t 7)
    (.skip)
    (.exit 0))))
   (.keep [0, 3] (.block 1 (.seq (.ops [.op (some 8) (.mov (.t 0)),
     .op (some 9) (.bin .rem (.t 8) (.k (.int .i64 10))),
     .op (some 10) (.bin .add (.k (.int .i64 48)) (.t 9)),
     .op (some 11) (.conv .u8 (.t 10)),
     .op (some 12) (.bslice 1 [.t 11]),
     .op (some 13) (.b2s (.t 12)),
     .op (some 14) (.mov (.t 3)),
     .op (some 15) (.bin .add (.t 13) (.t 14)),
     .op (some 3) (.mov (.t 15))])
   (.keep [0, 3] (.ops [.op (some 16) (.mov (.t 0)),
    .op (some 17) (.bin .quo (.t 16) (.k (.int .i64 10))),
    .op (some 0) (.mov (.t 17))]))))))))
 (.keep [3] (.seq (.ops [.op (some 18) (.mov (.t 3)),
   .op (some 19) (.bin .add (.k (.str [109])) (.t 18)),
   .op (some 2) (.mov (.t 19))])
 (.keep [2] (.ret))))))))))
theorem k_c_markText_fits : fitsF Try.prog 27 ⟨20, k_c_markText, [.t 2]⟩ = true := by kernel_rfl
theorem c_markText {k : Nat} (hk : k ≤ 1000000000000000000) : Con Try.prog noMv 27 [int k] [] (fun r h => r = str (mkT k) ∧ h = []) := by
 refine con_of2 k_c_markText_fits rfl fun C hP hmv => ?_
 unfold k_c_markText
 refine cx_seq ?_
 refine cx_ops ?_
 refine ax_q (q_mov rfl) ?_
 refine ax_nil ?_
 refine cx_keep rfl rfl ?_
 refine cx_seq ?_
 refine cx_seq ?_
 refine cx_ops ?_
 refine ax_q (q_mov rfl) ?_
 refine ax_q (q_ibin rfl rfl rfl) ?_
 refine ax_nil ?_
 refine cx_keep rfl rfl ?_
 refine cx_cond rfl (fun h1 => ?_) (fun h1 => ?_)
 ·
  have h1 : k = 0 := by have := of_decide_eq_true h1; omega
  refine cx_seq ?_
  refine cx_ops ?_
  refine ax_q (q_mov rfl) ?_
  refine ax_nil ?_
  refine cx_keep rfl rfl ?_
  refine cx_ret (ret0 rfl rfl ?_)
  exact ⟨by rw [mkT, if_pos h1]; rfl, rfl⟩
 ·
  have h1 : k ≠ 0 := by have := of_decide_eq_false h1; omega
  refine cx_skip ?_
  refine cx_keep rfl rfl ?_
  refine cx_seq ?_
  refine cx_ops ?_
  refine ax_q (q_mov rfl) ?_
  refine ax_nil ?_
  refine cx_keep rfl rfl ?_
  refine cx_seq ?_
  refine cx_block ?_
  refine cx_loopU (fun n (p : Nat × Str) => n = p.1 ∧ ∃ f, digs f p.1 p.2 = digs 20 k [] ∧ p.1 < 10 ^ f ∧ f + p.2.length ≤ 20 ∧ p.1 ≤ k) (fun p => [(0, int p.1), (3, str p.2)]) (fun _ => []) ⟨_, (k, []), ⟨rfl, 20, rfl, by omega, by simp, Nat.le_refl _⟩, by repeat (first | exact trivial | refine ⟨rfl, ?_⟩ | refine ⟨?_, ?_⟩)⟩ ?_
  rintro m ⟨m2, o⟩ ⟨rfl, f, hd, hm, hf, hmk⟩
  simp only at hd hm hf hmk ⊢
  refine cx_seq ?_
  refine cx_seq ?_
  refine cx_ops ?_
  refine ax_q (q_mov rfl) ?_
  refine ax_q (q_ibin rfl rfl rfl) ?_
  refine ax_nil ?_
  refine cx_keep rfl rfl ?_
  refine cx_cond rfl (fun h2 => ?_) (fun h2 => ?_)
  ·
   have h2 : 0 < m := by have := of_decide_eq_true h2; omega
   obtain ⟨f, rfl⟩ : ∃ g, f = g + 1 := ⟨f - 1, by cases f with
    | zero => simp at hm; omega
    | succ f => rfl⟩
   have hd2 : ∃ f', digs f' (m / 10) (UInt8.ofNat (48 + m % 10) :: o) = digs 20 k [] ∧ m / 10 < 10 ^ f' ∧ f' + (UInt8.ofNat (48 + m % 10) :: o).length ≤ 20 ∧ m / 10 ≤ k := ⟨f, by rw [← hd, digs, if_neg (by omega)], by rw [Nat.pow_succ] at hm; omega, by simp only [List.length_cons]; omega, by omega⟩
   refine cx_skip ?_
   refine cx_keep rfl rfl ?_
   refine cx_block ?_
   refine cx_seq ?_
   refine cx_ops ?_
   refine ax_q (q_mov rfl) ?_
   refine ax_qe (r' := int ((m % 10 : Nat) : Int)) (q_idiv rfl rfl rfl (by decide)) (by rw [Int.tmod_eq_emod_of_nonneg (by omega)]; rfl) ?_
   refine ax_qe (r' := int ((48 + m % 10 : Nat) : Int)) (q_ibin rfl rfl rfl) (by rw [wi (by omega) (by omega)]; rfl) ?_
   refine ax_qe (r' := .d (.int .u8 ((UInt8.ofNat (48 + m % 10)).toNat : Int))) (q_conv rfl) (by rw [byteConv (by omega)]) ?_
   refine ax_e (e_bslice rfl (by decide) rfl rfl) ?_
   refine ax_q (q_b2s (bs := [UInt8.ofNat (48 + m % 10)]) rfl (src_osl rfl (by simp)) (by simp [byteRow]) ⟨_, _, _, _, .inl rfl⟩) ?_
   refine ax_q (q_mov rfl) ?_
   refine ax_qe (r' := str (UInt8.ofNat (48 + m % 10) :: o)) (q_sbin_add rfl rfl (by simp; omega)) (rfl) ?_
   refine ax_q (q_mov rfl) ?_
   refine ax_nil ?_
   refine cx_keep rfl rfl ?_
   refine cx_ops ?_
   refine ax_q (q_mov rfl) ?_
   refine ax_qe (r' := int ((m / 10 : Nat) : Int)) (q_idiv rfl rfl rfl (by decide)) (by rw [Int.tdiv_eq_ediv_of_nonneg (by omega), wi (by omega) (by omega)]; rfl) ?_
   refine ax_q (q_mov rfl) ?_
   refine ax_nil ?_
   exact ⟨_, (m / 10, UInt8.ofNat (48 + m % 10) :: o), by simp only; omega, ⟨rfl, hd2⟩, by repeat (first | exact trivial | refine ⟨rfl, ?_⟩ | refine ⟨?_, ?_⟩)⟩
  ·
   have h2 : m = 0 := by have := of_decide_eq_false h2; omega
   refine cx_exit rfl ?_
   refine cx_keep rfl rfl ?_
   refine cx_seq ?_
   refine cx_ops ?_
   refine ax_q (q_mov rfl) ?_
   refine ax_q (q_sbin_add rfl rfl (by simp; omega)) ?_
   refine ax_q (q_mov rfl) ?_
   refine ax_nil ?_
   refine cx_keep rfl rfl ?_
   refine cx_ret (ret0 rfl rfl ?_)
   exact ⟨by subst h2; rw [digs0] at hd; rw [hd, mkT, if_neg h1]; rfl, rfl⟩


/- loop.example/g00332/laws.markLogRecordS -/
def k_c_markLogRecordS : XCode :=
 .seq (.ops [.op (some 4) (.mov (.k (.int .i64 0)))])
 (.keep [0, 1] (.seq (.seq (.ops [.op (some 5) (.mov (.k (.int .i64 0)))])
  (.keep [0, 1, 5] (.block 0 (.loop (.seq (.seq (.ops [.op (some 6) (.mov (.t 5)),
     .op (some 7) (.mov (.t 0)),
     .op (some 8) (.lenS (.t 7)),
     .op (some 9) (.bin .lss (.t 6) (.t 8))])
   (.keep [0, 1, 5, 9] (.cond (.t 9)
    (.skip)
    (.exit 0))))
   (.keep [0, 1, 5] (.seq (.block 1 (.seq (.ops [.op (some 12) (.mov (.t 0)),
     .op (some 13) (.mov (.t 5)),
     .op (some 14) (.mov (.t 1)),
     .op (some 15) (.iadr 10 (.t 12) (.t 13)),
     .op (some 16) (.fadr (.t 15) 0),
     .op none (.store 1 (.t 16) (.t 14))])
    (.keep [0, 1, 5] (.seq (.ops [.op (some 17) (.mov (.t 1)),
     .op (some 18) (.bin .add (.t 17) (.k (.int .i64 1))),
     .op (some 1) (.mov (.t 18))])
    (.keep [0, 1, 5] (.seq (.ops [.op (some 19) (.mov (.t 0)),
     .op (some 20) (.mov (.t 5)),
     .op (some 21) (.mov (.t 1)),
     .op (some 22) (.iadr 10 (.t 19) (.t 20)),
     .op (some 23) (.fadr (.t 22) 1),
     .op none (.store 1 (.t 23) (.t 21))])
    (.keep [0, 1, 5] (.seq (.ops [.op (some 24) (.mov (.t 1)),
     .op (some 25) (.bin .add (.t 24) (.k (.int .i64 1))),
     .op (some 1) (.mov (.t 25))])
    (.keep [0, 1, 5] (.seq (.ops [.op (some 26) (.mov (.t 0)),
     .op (some 27) (.mov (.t 5)),
     .op (some 28) (.mov (.t 1)),
     .op (some 29) (.iadr 10 (.t 26) (.t 27)),
     .op (some 30) (.fadr (.t 29) 2),
     .op none (.store 1 (.t 30) (.t 28))])
    (.keep [0, 1, 5] (.seq (.ops [.op (some 31) (.mov (.t 1)),
     .op (some 32) (.bin .add (.t 31) (.k (.int .i64 1))),
     .op (some 1) (.mov (.t 32))])
    (.keep [0, 1, 5] (.seq (.ops [.op (some 33) (.mov (.t 0)),
     .op (some 34) (.mov (.t 5)),
     .op (some 35) (.mov (.t 1)),
     .op (some 36) (.iadr 10 (.t 33) (.t 34)),
     .op (some 37) (.fadr (.t 36) 3),
     .op none (.store 1 (.t 37) (.t 35))])
    (.keep [0, 1, 5] (.seq (.ops [.op (some 38) (.mov (.t 1)),
     .op (some 39) (.bin .add (.t 38) (.k (.int .i64 1))),
     .op (some 1) (.mov (.t 39))])
    (.keep [0, 1, 5] (.seq (.ops [.op (some 40) (.mov (.t 0)),
     .op (some 41) (.mov (.t 5)),
     .op (some 42) (.mov (.t 1)),
     .op (some 43) (.iadr 10 (.t 40) (.t 41)),
     .op (some 44) (.fadr (.t 43) 4),
     .op none (.store 1 (.t 44) (.t 42))])
    (.keep [0, 1, 5] (.seq (.ops [.op (some 45) (.mov (.t 1)),
     .op (some 46) (.bin .add (.t 45) (.k (.int .i64 1))),
     .op (some 1) (.mov (.t 46))])
    (.keep [0, 1, 5] (.seq (.ops [.op (some 47) (.mov (.t 0)),
     .op (some 48) (.mov (.t 5)),
     .op (some 49) (.mov (.t 1)),
     .op (some 50) (.iadr 10 (.t 47) (.t 48)),
     .op (some 51) (.fadr (.t 50) 5),
     .op none (.store 1 (.t 51) (.t 49))])
    (.keep [0, 1, 5] (.seq (.ops [.op (some 52) (.mov (.t 1)),
     .op (some 53) (.bin .add (.t 52) (.k (.int .i64 1))),
     .op (some 1) (.mov (.t 53))])
    (.keep [0, 1, 5] (.seq (.ops [.op (some 54) (.mov (.t 0)),
     .op (some 55) (.mov (.t 5)),
     .op (some 56) (.mov (.t 1)),
     .op (some 57) (.iadr 10 (.t 54) (.t 55)),
     .op (some 58) (.fadr (.t 57) 6),
     .op none (.store 1 (.t 58) (.t 56))])
    (.keep [0, 1, 5] (.seq (.ops [.op (some 59) (.mov (.t 1)),
     .op (some 60) (.bin .add (.t 59) (.k (.int .i64 1))),
     .op (some 1) (.mov (.t 60))])
    (.keep [0, 1, 5] (.seq (.ops [.op (some 61) (.mov (.t 0)),
     .op (some 62) (.mov (.t 5)),
     .op (some 63) (.mov (.t 1)),
     .op (some 64) (.iadr 10 (.t 61) (.t 62)),
     .op (some 65) (.fadr (.t 64) 7),
     .op none (.store 1 (.t 65) (.t 63))])
    (.keep [0, 1, 5] (.seq (.ops [.op (some 66) (.mov (.t 1)),
     .op (some 67) (.bin .add (.t 66) (.k (.int .i64 1))),
     .op (some 1) (.mov (.t 67))])
    (.keep [0, 1, 5] (.seq (.ops [.op (some 68) (.mov (.t 0)),
     .op (some 69) (.mov (.t 5)),
     .op (some 70) (.mov (.t 1)),
     .call (some 71) 27 [.t 70],
     .op (some 72) (.iadr 10 (.t 68) (.t 69)),
     .op (some 73) (.fadr (.t 72) 8),
     .op none (.store 1 (.t 73) (.t 71))])
    (.keep [0, 1, 5] (.seq (.ops [.op (some 74) (.mov (.t 1)),
     .op (some 75) (.bin .add (.t 74) (.k (.int .i64 1))),
     .op (some 1) (.mov (.t 75))])
    (.keep [0, 1, 5] (.seq (.ops [.op (some 76) (.mov (.t 0)),
     .op (some 77) (.mov (.t 5)),
     .op (some 78) (.mov (.t 1)),
     .call (some 79) 27 [.t 78],
     .op (some 80) (.iadr 10 (.t 76) (.t 77)),
     .op (some 81) (.fadr (.t 80) 9),
     .op none (.store 1 (.t 81) (.t 79))])
    (.keep [0, 1, 5] (.ops [.op (some 82) (.mov (.t 1)),
     .op (some 83) (.bin .add (.t 82) (.k (.int .i64 1))),
     .op (some 1) (.mov (.t 83))]))))))))))))))))))))))))))))))))))))))))
   (.keep [0, 1, 5] (.ops [.op (some 10) (.mov (.t 5)),
    .op (some 11) (.bin .add (.t 10) (.k (.int .i64 1))),
    .op (some 5) (.mov (.t 11))])))))))))
 (.keep [1] (.seq (.ops [.op (some 84) (.mov (.t 1)),
   .op (some 4) (.mov (.t 84))])
 (.keep [4] (.ret))))))
theorem k_c_markLogRecordS_fits : fitsF Try.prog 11 ⟨85, k_c_markLogRecordS, [.t 4]⟩ = true := by kernel_rfl
theorem c_markLogRecordS {xs : List GLogRecord} {k0 : Nat} (hw : k0 + 10 * xs.length ≤ 1000000000000000000) : Con Try.prog noMv 11 [.osl 1000 10 0 xs.length, int k0] [(1000, .rows 10 (xs.map GLogRecord.row))] (fun r h => r = int ((k0 + 10 * xs.length : Nat) : Int) ∧ h = [(1000, .rows 10 ((markL GLogRecord.mk1 10 k0 xs).map GLogRecord.row))]) := by
 refine con_of2 k_c_markLogRecordS_fits rfl fun C hP hmv => ?_
 unfold k_c_markLogRecordS
 refine cx_seq ?_
 refine cx_ops ?_
 refine ax_q (q_mov rfl) ?_
 refine ax_nil ?_
 refine cx_keep rfl rfl ?_
 refine cx_seq ?_
 refine cx_seq ?_
 refine cx_ops ?_
 refine ax_q (q_mov rfl) ?_
 refine ax_nil ?_
 refine cx_keep rfl rfl ?_
 refine cx_block ?_
 refine cx_loopU (fun n k => k ≤ xs.length ∧ n = xs.length - k) (fun k : Nat => [(1, int ((k0 + 10 * k : Nat) : Int)), (5, int k)]) (fun k => [(1000, .rows 10 ((markL GLogRecord.mk1 10 k0 (xs.take k) ++ xs.drop k).map GLogRecord.row))]) ⟨_, 0, ⟨Nat.zero_le _, rfl⟩, by repeat (first | exact trivial | refine ⟨rfl, ?_⟩ | refine ⟨?_, ?_⟩)⟩ ?_
 rintro n k ⟨hk, rfl⟩
 refine cx_seq ?_
 refine cx_seq ?_
 refine cx_ops ?_
 refine ax_q (q_mov rfl) ?_
 refine ax_q (q_mov rfl) ?_
 first | refine ax_q (q_lenS_map rfl) ?_ | refine ax_q (q_lenS_osl rfl) ?_ | refine ax_q (q_lenS_zs rfl) ?_ | refine ax_q (q_lenS rfl) ?_
 refine ax_q (q_ibin rfl rfl rfl) ?_
 refine ax_nil ?_
 refine cx_keep rfl rfl ?_
 refine cx_cond rfl (fun h0 => ?_) (fun h0 => ?_)
 ·
  have h0 := dT h0
  have h1x : k < xs.length := by omega
  have h1l : k < ((markL GLogRecord.mk1 10 k0 (xs.take k) ++ xs.drop k).map GLogRecord.row).length := by rw [markL_mlen]; exact h1x
  refine cx_skip ?_
  refine cx_keep rfl rfl ?_
  refine cx_seq ?_
  refine cx_block ?_
  refine cx_seq ?_
  refine cx_ops ?_
  refine ax_q (q_mov rfl) ?_
  refine ax_q (q_mov rfl) ?_
  refine ax_q (q_mov rfl) ?_
  refine ax_q (q_ixo rfl rfl h1x) ?_
  first | refine ax_q (q_fadr_ptr rfl) ?_ | refine ax_q (q_fadr_rptr rfl) ?_ | refine ax_q (q_fadr_ip rfl) ?_
  refine ax_e (e_str (q := [.int .i64 ((k0 + 10 * k : Nat) : Int), .int .i64 xs[k].Lsn, .int .i64 xs[k].Tx, .int .i64 xs[k].Kind, .int .i64 xs[k].Prev, .int .i64 xs[k].Next, .int .i64 xs[k].Page, .int .i64 xs[k].Slot, .str xs[k].Before, .str xs[k].After]) rfl rfl rfl rfl rfl rfl (markL_at h1x) rfl rfl (rfl)) ?_
  refine ax_nil ?_
  refine cx_keep rfl rfl ?_
  refine cx_seq ?_
  refine cx_ops ?_
  refine ax_q (q_mov rfl) ?_
  refine ax_qe (r' := int ((k0 + 10 * k + 1 : Nat) : Int)) (q_ibin rfl rfl rfl) (by rw [wi (by omega) (by omega)]; rfl) ?_
  refine ax_q (q_mov rfl) ?_
  refine ax_nil ?_
  refine cx_keep rfl rfl ?_
  refine cx_seq ?_
  refine cx_ops ?_
  refine ax_q (q_mov rfl) ?_
  refine ax_q (q_mov rfl) ?_
  refine ax_q (q_mov rfl) ?_
  refine ax_q (q_ixo rfl rfl h1x) ?_
  first | refine ax_q (q_fadr_ptr rfl) ?_ | refine ax_q (q_fadr_rptr rfl) ?_ | refine ax_q (q_fadr_ip rfl) ?_
  refine ax_e (e_str (q := [.int .i64 ((k0 + 10 * k : Nat) : Int), .int .i64 ((k0 + 10 * k + 1 : Nat) : Int), .int .i64 xs[k].Tx, .int .i64 xs[k].Kind, .int .i64 xs[k].Prev, .int .i64 xs[k].Next, .int .i64 xs[k].Page, .int .i64 xs[k].Slot, .str xs[k].Before, .str xs[k].After]) rfl rfl rfl rfl rfl rfl (setAt h1l) rfl rfl (set_set' rfl)) ?_
  refine ax_nil ?_
  refine cx_keep rfl rfl ?_
  refine cx_seq ?_
  refine cx_ops ?_
  refine ax_q (q_mov rfl) ?_
  refine ax_qe (r' := int ((k0 + 10 * k + 2 : Nat) : Int)) (q_ibin rfl rfl rfl) (by rw [wi (by omega) (by omega)]; rfl) ?_
  refine ax_q (q_mov rfl) ?_
  refine ax_nil ?_
  refine cx_keep rfl rfl ?_
  refine cx_seq ?_
  refine cx_ops ?_
  refine ax_q (q_mov rfl) ?_
  refine ax_q (q_mov rfl) ?_
  refine ax_q (q_mov rfl) ?_
  refine ax_q (q_ixo rfl rfl h1x) ?_
  first | refine ax_q (q_fadr_ptr rfl) ?_ | refine ax_q (q_fadr_rptr rfl) ?_ | refine ax_q (q_fadr_ip rfl) ?_
  refine ax_e (e_str (q := [.int .i64 ((k0 + 10 * k : Nat) : Int), .int .i64 ((k0 + 10 * k + 1 : Nat) : Int), .int .i64 ((k0 + 10 * k + 2 : Nat) : Int), .int .i64 xs[k].Kind, .int .i64 xs[k].Prev, .int .i64 xs[k].Next, .int .i64 xs[k].Page, .int .i64 xs[k].Slot, .str xs[k].Before, .str xs[k].After]) rfl rfl rfl rfl rfl rfl (setAt h1l) rfl rfl (set_set' rfl)) ?_
  refine ax_nil ?_
  refine cx_keep rfl rfl ?_
  refine cx_seq ?_
  refine cx_ops ?_
  refine ax_q (q_mov rfl) ?_
  refine ax_qe (r' := int ((k0 + 10 * k + 3 : Nat) : Int)) (q_ibin rfl rfl rfl) (by rw [wi (by omega) (by omega)]; rfl) ?_
  refine ax_q (q_mov rfl) ?_
  refine ax_nil ?_
  refine cx_keep rfl rfl ?_
  refine cx_seq ?_
  refine cx_ops ?_
  refine ax_q (q_mov rfl) ?_
  refine ax_q (q_mov rfl) ?_
  refine ax_q (q_mov rfl) ?_
  refine ax_q (q_ixo rfl rfl h1x) ?_
  first | refine ax_q (q_fadr_ptr rfl) ?_ | refine ax_q (q_fadr_rptr rfl) ?_ | refine ax_q (q_fadr_ip rfl) ?_
  refine ax_e (e_str (q := [.int .i64 ((k0 + 10 * k : Nat) : Int), .int .i64 ((k0 + 10 * k + 1 : Nat) : Int), .int .i64 ((k0 + 10 * k + 2 : Nat) : Int), .int .i64 ((k0 + 10 * k + 3 : Nat) : Int), .int .i64 xs[k].Prev, .int .i64 xs[k].Next, .int .i64 xs[k].Page, .int .i64 xs[k].Slot, .str xs[k].Before, .str xs[k].After]) rfl rfl rfl rfl rfl rfl (setAt h1l) rfl rfl (set_set' rfl)) ?_
  refine ax_nil ?_
  refine cx_keep rfl rfl ?_
  refine cx_seq ?_
  refine cx_ops ?_
  refine ax_q (q_mov rfl) ?_
  refine ax_qe (r' := int ((k0 + 10 * k + 4 : Nat) : Int)) (q_ibin rfl rfl rfl) (by rw [wi (by omega) (by omega)]; rfl) ?_
  refine ax_q (q_mov rfl) ?_
  refine ax_nil ?_
  refine cx_keep rfl rfl ?_
  refine cx_seq ?_
  refine cx_ops ?_
  refine ax_q (q_mov rfl) ?_
  refine ax_q (q_mov rfl) ?_
  refine ax_q (q_mov rfl) ?_
  refine ax_q (q_ixo rfl rfl h1x) ?_
  first | refine ax_q (q_fadr_ptr rfl) ?_ | refine ax_q (q_fadr_rptr rfl) ?_ | refine ax_q (q_fadr_ip rfl) ?_
  refine ax_e (e_str (q := [.int .i64 ((k0 + 10 * k : Nat) : Int), .int .i64 ((k0 + 10 * k + 1 : Nat) : Int), .int .i64 ((k0 + 10 * k + 2 : Nat) : Int), .int .i64 ((k0 + 10 * k + 3 : Nat) : Int), .int .i64 ((k0 + 10 * k + 4 : Nat) : Int), .int .i64 xs[k].Next, .int .i64 xs[k].Page, .int .i64 xs[k].Slot, .str xs[k].Before, .str xs[k].After]) rfl rfl rfl rfl rfl rfl (setAt h1l) rfl rfl (set_set' rfl)) ?_
  refine ax_nil ?_
  refine cx_keep rfl rfl ?_
  refine cx_seq ?_
  refine cx_ops ?_
  refine ax_q (q_mov rfl) ?_
  refine ax_qe (r' := int ((k0 + 10 * k + 5 : Nat) : Int)) (q_ibin rfl rfl rfl) (by rw [wi (by omega) (by omega)]; rfl) ?_
  refine ax_q (q_mov rfl) ?_
  refine ax_nil ?_
  refine cx_keep rfl rfl ?_
  refine cx_seq ?_
  refine cx_ops ?_
  refine ax_q (q_mov rfl) ?_
  refine ax_q (q_mov rfl) ?_
  refine ax_q (q_mov rfl) ?_
  refine ax_q (q_ixo rfl rfl h1x) ?_
  first | refine ax_q (q_fadr_ptr rfl) ?_ | refine ax_q (q_fadr_rptr rfl) ?_ | refine ax_q (q_fadr_ip rfl) ?_
  refine ax_e (e_str (q := [.int .i64 ((k0 + 10 * k : Nat) : Int), .int .i64 ((k0 + 10 * k + 1 : Nat) : Int), .int .i64 ((k0 + 10 * k + 2 : Nat) : Int), .int .i64 ((k0 + 10 * k + 3 : Nat) : Int), .int .i64 ((k0 + 10 * k + 4 : Nat) : Int), .int .i64 ((k0 + 10 * k + 5 : Nat) : Int), .int .i64 xs[k].Page, .int .i64 xs[k].Slot, .str xs[k].Before, .str xs[k].After]) rfl rfl rfl rfl rfl rfl (setAt h1l) rfl rfl (set_set' rfl)) ?_
  refine ax_nil ?_
  refine cx_keep rfl rfl ?_
  refine cx_seq ?_
  refine cx_ops ?_
  refine ax_q (q_mov rfl) ?_
  refine ax_qe (r' := int ((k0 + 10 * k + 6 : Nat) : Int)) (q_ibin rfl rfl rfl) (by rw [wi (by omega) (by omega)]; rfl) ?_
  refine ax_q (q_mov rfl) ?_
  refine ax_nil ?_
  refine cx_keep rfl rfl ?_
  refine cx_seq ?_
  refine cx_ops ?_
  refine ax_q (q_mov rfl) ?_
  refine ax_q (q_mov rfl) ?_
  refine ax_q (q_mov rfl) ?_
  refine ax_q (q_ixo rfl rfl h1x) ?_
  first | refine ax_q (q_fadr_ptr rfl) ?_ | refine ax_q (q_fadr_rptr rfl) ?_ | refine ax_q (q_fadr_ip rfl) ?_
  refine ax_e (e_str (q := [.int .i64 ((k0 + 10 * k : Nat) : Int), .int .i64 ((k0 + 10 * k + 1 : Nat) : Int), .int .i64 ((k0 + 10 * k + 2 : Nat) : Int), .int .i64 ((k0 + 10 * k + 3 : Nat) : Int), .int .i64 ((k0 + 10 * k + 4 : Nat) : Int), .int .i64 ((k0 + 10 * k + 5 : Nat) : Int), .int .i64 ((k0 + 10 * k + 6 : Nat) : Int), .int .i64 xs[k].Slot, .str xs[k].Before, .str xs[k].After]) rfl rfl rfl rfl rfl rfl (setAt h1l) rfl rfl (set_set' rfl)) ?_
  refine ax_nil ?_
  refine cx_keep rfl rfl ?_
  refine cx_seq ?_
  refine cx_ops ?_
  refine ax_q (q_mov rfl) ?_
  refine ax_qe (r' := int ((k0 + 10 * k + 7 : Nat) : Int)) (q_ibin rfl rfl rfl) (by rw [wi (by omega) (by omega)]; rfl) ?_
  refine ax_q (q_mov rfl) ?_
  refine ax_nil ?_
  refine cx_keep rfl rfl ?_
  refine cx_seq ?_
  refine cx_ops ?_
  refine ax_q (q_mov rfl) ?_
  refine ax_q (q_mov rfl) ?_
  refine ax_q (q_mov rfl) ?_
  refine ax_q (q_ixo rfl rfl h1x) ?_
  first | refine ax_q (q_fadr_ptr rfl) ?_ | refine ax_q (q_fadr_rptr rfl) ?_ | refine ax_q (q_fadr_ip rfl) ?_
  refine ax_e (e_str (q := [.int .i64 ((k0 + 10 * k : Nat) : Int), .int .i64 ((k0 + 10 * k + 1 : Nat) : Int), .int .i64 ((k0 + 10 * k + 2 : Nat) : Int), .int .i64 ((k0 + 10 * k + 3 : Nat) : Int), .int .i64 ((k0 + 10 * k + 4 : Nat) : Int), .int .i64 ((k0 + 10 * k + 5 : Nat) : Int), .int .i64 ((k0 + 10 * k + 6 : Nat) : Int), .int .i64 ((k0 + 10 * k + 7 : Nat) : Int), .str xs[k].Before, .str xs[k].After]) rfl rfl rfl rfl rfl rfl (setAt h1l) rfl rfl (set_set' rfl)) ?_
  refine ax_nil ?_
  refine cx_keep rfl rfl ?_
  refine cx_seq ?_
  refine cx_ops ?_
  refine ax_q (q_mov rfl) ?_
  refine ax_qe (r' := int ((k0 + 10 * k + 8 : Nat) : Int)) (q_ibin rfl rfl rfl) (by rw [wi (by omega) (by omega)]; rfl) ?_
  refine ax_q (q_mov rfl) ?_
  refine ax_nil ?_
  refine cx_keep rfl rfl ?_
  refine cx_seq ?_
  refine cx_ops ?_
  refine ax_q (q_mov rfl) ?_
  refine ax_q (q_mov rfl) ?_
  refine ax_q (q_mov rfl) ?_
  refine ax_call rfl (vc_pure0 (c_markText (by omega)) hP rfl rfl ?_)
  refine ax_q (q_ixo rfl rfl h1x) ?_
  first | refine ax_q (q_fadr_ptr rfl) ?_ | refine ax_q (q_fadr_rptr rfl) ?_ | refine ax_q (q_fadr_ip rfl) ?_
  refine ax_e (e_str (q := [.int .i64 ((k0 + 10 * k : Nat) : Int), .int .i64 ((k0 + 10 * k + 1 : Nat) : Int), .int .i64 ((k0 + 10 * k + 2 : Nat) : Int), .int .i64 ((k0 + 10 * k + 3 : Nat) : Int), .int .i64 ((k0 + 10 * k + 4 : Nat) : Int), .int .i64 ((k0 + 10 * k + 5 : Nat) : Int), .int .i64 ((k0 + 10 * k + 6 : Nat) : Int), .int .i64 ((k0 + 10 * k + 7 : Nat) : Int), .str (mkT (k0 + 10 * k + 8)), .str xs[k].After]) rfl rfl rfl rfl rfl rfl (setAt h1l) rfl rfl (set_set' rfl)) ?_
  refine ax_nil ?_
  refine cx_keep rfl rfl ?_
  refine cx_seq ?_
  refine cx_ops ?_
  refine ax_q (q_mov rfl) ?_
  refine ax_qe (r' := int ((k0 + 10 * k + 9 : Nat) : Int)) (q_ibin rfl rfl rfl) (by rw [wi (by omega) (by omega)]; rfl) ?_
  refine ax_q (q_mov rfl) ?_
  refine ax_nil ?_
  refine cx_keep rfl rfl ?_
  refine cx_seq ?_
  refine cx_ops ?_
  refine ax_q (q_mov rfl) ?_
  refine ax_q (q_mov rfl) ?_
  refine ax_q (q_mov rfl) ?_
  refine ax_call rfl (vc_pure0 (c_markText (by omega)) hP rfl rfl ?_)
  refine ax_q (q_ixo rfl rfl h1x) ?_
  first | refine ax_q (q_fadr_ptr rfl) ?_ | refine ax_q (q_fadr_rptr rfl) ?_ | refine ax_q (q_fadr_ip rfl) ?_
  refine ax_e (e_str (q := GLogRecord.row (GLogRecord.mk1 (k0 + 10 * k) xs[k])) rfl rfl rfl rfl rfl rfl (setAt h1l) rfl rfl (set_set' (markL_set h1x))) ?_
  refine ax_nil ?_
  refine cx_keep rfl rfl ?_
  refine cx_ops ?_
  refine ax_q (q_mov rfl) ?_
  refine ax_qe (r' := int ((k0 + 10 * k + 10 : Nat) : Int)) (q_ibin rfl rfl rfl) (by rw [wi (by omega) (by omega)]; rfl) ?_
  refine ax_q (q_mov rfl) ?_
  refine ax_nil ?_
  refine cx_keep rfl rfl ?_
  refine cx_ops ?_
  refine ax_q (q_mov rfl) ?_
  refine ax_qe (r' := int ((k + 1 : Nat) : Int)) (q_ibin rfl rfl rfl) (by rw [wi (by omega) (by omega)]; rfl) ?_
  refine ax_q (q_mov rfl) ?_
  refine ax_nil ?_
  exact ⟨_, k + 1, by omega, ⟨by omega, rfl⟩, by repeat (first | exact trivial | refine ⟨rfl, ?_⟩ | refine ⟨?_, ?_⟩)⟩
 ·
  have h0 := dF h0
  refine cx_exit rfl ?_
  refine cx_keep rfl rfl ?_
  refine cx_seq ?_
  refine cx_ops ?_
  refine ax_q (q_mov rfl) ?_
  refine ax_q (q_mov rfl) ?_
  refine ax_nil ?_
  refine cx_keep rfl rfl ?_
  have hk2 : k = xs.length := by omega
  subst hk2
  refine cx_ret (retN id [1000] rfl rfl rfl rfl rfl ?_)
  exact ⟨rfl, by rw [markL_full]; rfl⟩


/- loop.example/g00332/laws.markDirtyS -/
def k_c_markDirtyS : XCode :=
 .seq (.ops [.op (some 4) (.mov (.k (.int .i64 0)))])
 (.keep [0, 1] (.seq (.seq (.ops [.op (some 5) (.mov (.k (.int .i64 0)))])
  (.keep [0, 1, 5] (.block 0 (.loop (.seq (.seq (.ops [.op (some 6) (.mov (.t 5)),
     .op (some 7) (.mov (.t 0)),
     .op (some 8) (.lenS (.t 7)),
     .op (some 9) (.bin .lss (.t 6) (.t 8))])
   (.keep [0, 1, 5, 9] (.cond (.t 9)
    (.skip)
    (.exit 0))))
   (.keep [0, 1, 5] (.seq (.block 1 (.seq (.ops [.op (some 12) (.mov (.t 0)),
     .op (some 13) (.mov (.t 5)),
     .op (some 14) (.mov (.t 1)),
     .op (some 15) (.iadr 2 (.t 12) (.t 13)),
     .op (some 16) (.fadr (.t 15) 0),
     .op none (.store 1 (.t 16) (.t 14))])
    (.keep [0, 1, 5] (.seq (.ops [.op (some 17) (.mov (.t 1)),
     .op (some 18) (.bin .add (.t 17) (.k (.int .i64 1))),
     .op (some 1) (.mov (.t 18))])
    (.keep [0, 1, 5] (.seq (.ops [.op (some 19) (.mov (.t 0)),
     .op (some 20) (.mov (.t 5)),
     .op (some 21) (.mov (.t 1)),
     .op (some 22) (.iadr 2 (.t 19) (.t 20)),
     .op (some 23) (.fadr (.t 22) 1),
     .op none (.store 1 (.t 23) (.t 21))])
    (.keep [0, 1, 5] (.ops [.op (some 24) (.mov (.t 1)),
     .op (some 25) (.bin .add (.t 24) (.k (.int .i64 1))),
     .op (some 1) (.mov (.t 25))]))))))))
   (.keep [0, 1, 5] (.ops [.op (some 10) (.mov (.t 5)),
    .op (some 11) (.bin .add (.t 10) (.k (.int .i64 1))),
    .op (some 5) (.mov (.t 11))])))))))))
 (.keep [1] (.seq (.ops [.op (some 26) (.mov (.t 1)),
   .op (some 4) (.mov (.t 26))])
 (.keep [4] (.ret))))))
theorem k_c_markDirtyS_fits : fitsF Try.prog 12 ⟨27, k_c_markDirtyS, [.t 4]⟩ = true := by kernel_rfl
theorem c_markDirtyS {xs : List GDirty} {k0 : Nat} (hw : k0 + 2 * xs.length ≤ 1000000000000000000) : Con Try.prog noMv 12 [.osl 1000 2 0 xs.length, int k0] [(1000, .rows 2 (xs.map GDirty.row))] (fun r h => r = int ((k0 + 2 * xs.length : Nat) : Int) ∧ h = [(1000, .rows 2 ((markL GDirty.mk1 2 k0 xs).map GDirty.row))]) := by
 refine con_of2 k_c_markDirtyS_fits rfl fun C hP hmv => ?_
 unfold k_c_markDirtyS
 refine cx_seq ?_
 refine cx_ops ?_
 refine ax_q (q_mov rfl) ?_
 refine ax_nil ?_
 refine cx_keep rfl rfl ?_
 refine cx_seq ?_
 refine cx_seq ?_
 refine cx_ops ?_
 refine ax_q (q_mov rfl) ?_
 refine ax_nil ?_
 refine cx_keep rfl rfl ?_
 refine cx_block ?_
 refine cx_loopU (fun n k => k ≤ xs.length ∧ n = xs.length - k) (fun k : Nat => [(1, int ((k0 + 2 * k : Nat) : Int)), (5, int k)]) (fun k => [(1000, .rows 2 ((markL GDirty.mk1 2 k0 (xs.take k) ++ xs.drop k).map GDirty.row))]) ⟨_, 0, ⟨Nat.zero_le _, rfl⟩, by repeat (first | exact trivial | refine ⟨rfl, ?_⟩ | refine ⟨?_, ?_⟩)⟩ ?_
 rintro n k ⟨hk, rfl⟩
 refine cx_seq ?_
 refine cx_seq ?_
 refine cx_ops ?_
 refine ax_q (q_mov rfl) ?_
 refine ax_q (q_mov rfl) ?_
 first | refine ax_q (q_lenS_map rfl) ?_ | refine ax_q (q_lenS_osl rfl) ?_ | refine ax_q (q_lenS_zs rfl) ?_ | refine ax_q (q_lenS rfl) ?_
 refine ax_q (q_ibin rfl rfl rfl) ?_
 refine ax_nil ?_
 refine cx_keep rfl rfl ?_
 refine cx_cond rfl (fun h0 => ?_) (fun h0 => ?_)
 ·
  have h0 := dT h0
  have h1x : k < xs.length := by omega
  have h1l : k < ((markL GDirty.mk1 2 k0 (xs.take k) ++ xs.drop k).map GDirty.row).length := by rw [markL_mlen]; exact h1x
  refine cx_skip ?_
  refine cx_keep rfl rfl ?_
  refine cx_seq ?_
  refine cx_block ?_
  refine cx_seq ?_
  refine cx_ops ?_
  refine ax_q (q_mov rfl) ?_
  refine ax_q (q_mov rfl) ?_
  refine ax_q (q_mov rfl) ?_
  refine ax_q (q_ixo rfl rfl h1x) ?_
  first | refine ax_q (q_fadr_ptr rfl) ?_ | refine ax_q (q_fadr_rptr rfl) ?_ | refine ax_q (q_fadr_ip rfl) ?_
  refine ax_e (e_str (q := [.int .i64 ((k0 + 2 * k : Nat) : Int), .int .i64 xs[k].First]) rfl rfl rfl rfl rfl rfl (markL_at h1x) rfl rfl (rfl)) ?_
  refine ax_nil ?_
  refine cx_keep rfl rfl ?_
  refine cx_seq ?_
  refine cx_ops ?_
  refine ax_q (q_mov rfl) ?_
  refine ax_qe (r' := int ((k0 + 2 * k + 1 : Nat) : Int)) (q_ibin rfl rfl rfl) (by rw [wi (by omega) (by omega)]; rfl) ?_
  refine ax_q (q_mov rfl) ?_
  refine ax_nil ?_
  refine cx_keep rfl rfl ?_
  refine cx_seq ?_
  refine cx_ops ?_
  refine ax_q (q_mov rfl) ?_
  refine ax_q (q_mov rfl) ?_
  refine ax_q (q_mov rfl) ?_
  refine ax_q (q_ixo rfl rfl h1x) ?_
  first | refine ax_q (q_fadr_ptr rfl) ?_ | refine ax_q (q_fadr_rptr rfl) ?_ | refine ax_q (q_fadr_ip rfl) ?_
  refine ax_e (e_str (q := GDirty.row (GDirty.mk1 (k0 + 2 * k) xs[k])) rfl rfl rfl rfl rfl rfl (setAt h1l) rfl rfl (set_set' (markL_set h1x))) ?_
  refine ax_nil ?_
  refine cx_keep rfl rfl ?_
  refine cx_ops ?_
  refine ax_q (q_mov rfl) ?_
  refine ax_qe (r' := int ((k0 + 2 * k + 2 : Nat) : Int)) (q_ibin rfl rfl rfl) (by rw [wi (by omega) (by omega)]; rfl) ?_
  refine ax_q (q_mov rfl) ?_
  refine ax_nil ?_
  refine cx_keep rfl rfl ?_
  refine cx_ops ?_
  refine ax_q (q_mov rfl) ?_
  refine ax_qe (r' := int ((k + 1 : Nat) : Int)) (q_ibin rfl rfl rfl) (by rw [wi (by omega) (by omega)]; rfl) ?_
  refine ax_q (q_mov rfl) ?_
  refine ax_nil ?_
  exact ⟨_, k + 1, by omega, ⟨by omega, rfl⟩, by repeat (first | exact trivial | refine ⟨rfl, ?_⟩ | refine ⟨?_, ?_⟩)⟩
 ·
  have h0 := dF h0
  refine cx_exit rfl ?_
  refine cx_keep rfl rfl ?_
  refine cx_seq ?_
  refine cx_ops ?_
  refine ax_q (q_mov rfl) ?_
  refine ax_q (q_mov rfl) ?_
  refine ax_nil ?_
  refine cx_keep rfl rfl ?_
  have hk2 : k = xs.length := by omega
  subst hk2
  refine cx_ret (retN id [1000] rfl rfl rfl rfl rfl ?_)
  exact ⟨rfl, by rw [markL_full]; rfl⟩


/- loop.example/g00332/laws.markTxS -/
def k_c_markTxS : XCode :=
 .seq (.ops [.op (some 4) (.mov (.k (.int .i64 0)))])
 (.keep [0, 1] (.seq (.seq (.ops [.op (some 5) (.mov (.k (.int .i64 0)))])
  (.keep [0, 1, 5] (.block 0 (.loop (.seq (.seq (.ops [.op (some 6) (.mov (.t 5)),
     .op (some 7) (.mov (.t 0)),
     .op (some 8) (.lenS (.t 7)),
     .op (some 9) (.bin .lss (.t 6) (.t 8))])
   (.keep [0, 1, 5, 9] (.cond (.t 9)
    (.skip)
    (.exit 0))))
   (.keep [0, 1, 5] (.seq (.block 1 (.seq (.ops [.op (some 12) (.mov (.t 0)),
     .op (some 13) (.mov (.t 5)),
     .op (some 14) (.mov (.t 1)),
     .op (some 15) (.iadr 2 (.t 12) (.t 13)),
     .op (some 16) (.fadr (.t 15) 0),
     .op none (.store 1 (.t 16) (.t 14))])
    (.keep [0, 1, 5] (.seq (.ops [.op (some 17) (.mov (.t 1)),
     .op (some 18) (.bin .add (.t 17) (.k (.int .i64 1))),
     .op (some 1) (.mov (.t 18))])
    (.keep [0, 1, 5] (.seq (.ops [.op (some 19) (.mov (.t 0)),
     .op (some 20) (.mov (.t 5)),
     .op (some 21) (.mov (.t 1)),
     .op (some 22) (.iadr 2 (.t 19) (.t 20)),
     .op (some 23) (.fadr (.t 22) 1),
     .op none (.store 1 (.t 23) (.t 21))])
    (.keep [0, 1, 5] (.ops [.op (some 24) (.mov (.t 1)),
     .op (some 25) (.bin .add (.t 24) (.k (.int .i64 1))),
     .op (some 1) (.mov (.t 25))]))))))))
   (.keep [0, 1, 5] (.ops [.op (some 10) (.mov (.t 5)),
    .op (some 11) (.bin .add (.t 10) (.k (.int .i64 1))),
    .op (some 5) (.mov (.t 11))])))))))))
 (.keep [1] (.seq (.ops [.op (some 26) (.mov (.t 1)),
   .op (some 4) (.mov (.t 26))])
 (.keep [4] (.ret))))))
theorem k_c_markTxS_fits : fitsF Try.prog 13 ⟨27, k_c_markTxS, [.t 4]⟩ = true := by kernel_rfl
theorem c_markTxS {xs : List GTx} {k0 : Nat} (hw : k0 + 2 * xs.length ≤ 1000000000000000000) : Con Try.prog noMv 13 [.osl 1000 2 0 xs.length, int k0] [(1000, .rows 2 (xs.map GTx.row))] (fun r h => r = int ((k0 + 2 * xs.length : Nat) : Int) ∧ h = [(1000, .rows 2 ((markL GTx.mk1 2 k0 xs).map GTx.row))]) := by
 refine con_of2 k_c_markTxS_fits rfl fun C hP hmv => ?_
 unfold k_c_markTxS
 refine cx_seq ?_
 refine cx_ops ?_
 refine ax_q (q_mov rfl) ?_
 refine ax_nil ?_
 refine cx_keep rfl rfl ?_
 refine cx_seq ?_
 refine cx_seq ?_
 refine cx_ops ?_
 refine ax_q (q_mov rfl) ?_
 refine ax_nil ?_
 refine cx_keep rfl rfl ?_
 refine cx_block ?_
 refine cx_loopU (fun n k => k ≤ xs.length ∧ n = xs.length - k) (fun k : Nat => [(1, int ((k0 + 2 * k : Nat) : Int)), (5, int k)]) (fun k => [(1000, .rows 2 ((markL GTx.mk1 2 k0 (xs.take k) ++ xs.drop k).map GTx.row))]) ⟨_, 0, ⟨Nat.zero_le _, rfl⟩, by repeat (first | exact trivial | refine ⟨rfl, ?_⟩ | refine ⟨?_, ?_⟩)⟩ ?_
 rintro n k ⟨hk, rfl⟩
 refine cx_seq ?_
 refine cx_seq ?_
 refine cx_ops ?_
 refine ax_q (q_mov rfl) ?_
 refine ax_q (q_mov rfl) ?_
 first | refine ax_q (q_lenS_map rfl) ?_ | refine ax_q (q_lenS_osl rfl) ?_ | refine ax_q (q_lenS_zs rfl) ?_ | refine ax_q (q_lenS rfl) ?_
 refine ax_q (q_ibin rfl rfl rfl) ?_
 refine ax_nil ?_
 refine cx_keep rfl rfl ?_
 refine cx_cond rfl (fun h0 => ?_) (fun h0 => ?_)
 ·
  have h0 := dT h0
  have h1x : k < xs.length := by omega
  have h1l : k < ((markL GTx.mk1 2 k0 (xs.take k) ++ xs.drop k).map GTx.row).length := by rw [markL_mlen]; exact h1x
  refine cx_skip ?_
  refine cx_keep rfl rfl ?_
  refine cx_seq ?_
  refine cx_block ?_
  refine cx_seq ?_
  refine cx_ops ?_
  refine ax_q (q_mov rfl) ?_
  refine ax_q (q_mov rfl) ?_
  refine ax_q (q_mov rfl) ?_
  refine ax_q (q_ixo rfl rfl h1x) ?_
  first | refine ax_q (q_fadr_ptr rfl) ?_ | refine ax_q (q_fadr_rptr rfl) ?_ | refine ax_q (q_fadr_ip rfl) ?_
  refine ax_e (e_str (q := [.int .i64 ((k0 + 2 * k : Nat) : Int), .int .i64 xs[k].Last]) rfl rfl rfl rfl rfl rfl (markL_at h1x) rfl rfl (rfl)) ?_
  refine ax_nil ?_
  refine cx_keep rfl rfl ?_
  refine cx_seq ?_
  refine cx_ops ?_
  refine ax_q (q_mov rfl) ?_
  refine ax_qe (r' := int ((k0 + 2 * k + 1 : Nat) : Int)) (q_ibin rfl rfl rfl) (by rw [wi (by omega) (by omega)]; rfl) ?_
  refine ax_q (q_mov rfl) ?_
  refine ax_nil ?_
  refine cx_keep rfl rfl ?_
  refine cx_seq ?_
  refine cx_ops ?_
  refine ax_q (q_mov rfl) ?_
  refine ax_q (q_mov rfl) ?_
  refine ax_q (q_mov rfl) ?_
  refine ax_q (q_ixo rfl rfl h1x) ?_
  first | refine ax_q (q_fadr_ptr rfl) ?_ | refine ax_q (q_fadr_rptr rfl) ?_ | refine ax_q (q_fadr_ip rfl) ?_
  refine ax_e (e_str (q := GTx.row (GTx.mk1 (k0 + 2 * k) xs[k])) rfl rfl rfl rfl rfl rfl (setAt h1l) rfl rfl (set_set' (markL_set h1x))) ?_
  refine ax_nil ?_
  refine cx_keep rfl rfl ?_
  refine cx_ops ?_
  refine ax_q (q_mov rfl) ?_
  refine ax_qe (r' := int ((k0 + 2 * k + 2 : Nat) : Int)) (q_ibin rfl rfl rfl) (by rw [wi (by omega) (by omega)]; rfl) ?_
  refine ax_q (q_mov rfl) ?_
  refine ax_nil ?_
  refine cx_keep rfl rfl ?_
  refine cx_ops ?_
  refine ax_q (q_mov rfl) ?_
  refine ax_qe (r' := int ((k + 1 : Nat) : Int)) (q_ibin rfl rfl rfl) (by rw [wi (by omega) (by omega)]; rfl) ?_
  refine ax_q (q_mov rfl) ?_
  refine ax_nil ?_
  exact ⟨_, k + 1, by omega, ⟨by omega, rfl⟩, by repeat (first | exact trivial | refine ⟨rfl, ?_⟩ | refine ⟨?_, ?_⟩)⟩
 ·
  have h0 := dF h0
  refine cx_exit rfl ?_
  refine cx_keep rfl rfl ?_
  refine cx_seq ?_
  refine cx_ops ?_
  refine ax_q (q_mov rfl) ?_
  refine ax_q (q_mov rfl) ?_
  refine ax_nil ?_
  refine cx_keep rfl rfl ?_
  have hk2 : k = xs.length := by omega
  subst hk2
  refine cx_ret (retN id [1000] rfl rfl rfl rfl rfl ?_)
  exact ⟨rfl, by rw [markL_full]; rfl⟩


/- loop.example/g00332/laws.heldDirtyS -/
def k_c_heldDirtyS : XCode :=
 .seq (.ops [.op (some 4) (.mov (.k (.int .i64 0)))])
 (.keep [0, 1] (.seq (.seq (.ops [.op (some 5) (.mov (.k (.int .i64 0)))])
  (.keep [0, 1, 5] (.block 0 (.loop (.seq (.seq (.ops [.op (some 6) (.mov (.t 5)),
     .op (some 7) (.mov (.t 0)),
     .op (some 8) (.lenS (.t 7)),
     .op (some 9) (.bin .lss (.t 6) (.t 8))])
   (.keep [0, 1, 5, 9] (.cond (.t 9)
    (.skip)
    (.exit 0))))
   (.keep [0, 1, 5] (.seq (.block 1 (.seq (.seq (.ops [.op (some 12) (.mov (.t 0)),
      .op (some 13) (.mov (.t 5)),
      .op (some 14) (.iadr 2 (.t 12) (.t 13)),
      .op (some 15) (.fadr (.t 14) 0),
      .op (some 16) (.load1 (.t 15)),
      .op (some 17) (.mov (.t 1)),
      .op (some 18) (.bin .neq (.t 16) (.t 17))])
    (.keep [0, 1, 5, 18] (.cond (.t 18)
     (.seq (.ops [.op (some 4) (.mov (.k (.int .i64 (-1))))])
     (.keep [4] (.ret)))
     (.skip))))
    (.keep [0, 1, 5] (.seq (.ops [.op (some 19) (.mov (.t 1)),
     .op (some 20) (.bin .add (.t 19) (.k (.int .i64 1))),
     .op (some 1) (.mov (.t 20))])
    (.keep [0, 1, 5] (.seq (.seq (.ops [.op (some 21) (.mov (.t 0)),
      .op (some 22) (.mov (.t 5)),
      .op (some 23) (.iadr 2 (.t 21) (.t 22)),
      .op (some 24) (.fadr (.t 23) 1),
      .op (some 25) (.load1 (.t 24)),
      .op (some 26) (.mov (.t 1)),
      .op (some 27) (.bin .neq (.t 25) (.t 26))])
    (.keep [0, 1, 5, 27] (.cond (.t 27)
     (.seq (.ops [.op (some 4) (.mov (.k (.int .i64 (-1))))])
     (.keep [4] (.ret)))
     (.skip))))
    (.keep [0, 1, 5] (.ops [.op (some 28) (.mov (.t 1)),
     .op (some 29) (.bin .add (.t 28) (.k (.int .i64 1))),
     .op (some 1) (.mov (.t 29))]))))))))
   (.keep [0, 1, 5] (.ops [.op (some 10) (.mov (.t 5)),
    .op (some 11) (.bin .add (.t 10) (.k (.int .i64 1))),
    .op (some 5) (.mov (.t 11))])))))))))
 (.keep [1] (.seq (.ops [.op (some 30) (.mov (.t 1)),
   .op (some 4) (.mov (.t 30))])
 (.keep [4] (.ret))))))
theorem k_c_heldDirtyS_fits : fitsF Try.prog 14 ⟨31, k_c_heldDirtyS, [.t 4]⟩ = true := by kernel_rfl
theorem c_heldDirtyS {xs : List GDirty} {k0 : Nat} (hw : k0 + 2 * xs.length ≤ 1000000000000000000) : Con Try.prog noMv 14 [.d (.sl 2 ((markL GDirty.mk1 2 k0 xs).map GDirty.row)), int k0] [] (fun r h => r = int ((k0 + 2 * xs.length : Nat) : Int) ∧ h = []) := by
 refine con_of2 k_c_heldDirtyS_fits rfl fun C hP hmv => ?_
 unfold k_c_heldDirtyS
 refine cx_seq ?_
 refine cx_ops ?_
 refine ax_q (q_mov rfl) ?_
 refine ax_nil ?_
 refine cx_keep rfl rfl ?_
 refine cx_seq ?_
 refine cx_seq ?_
 refine cx_ops ?_
 refine ax_q (q_mov rfl) ?_
 refine ax_nil ?_
 refine cx_keep rfl rfl ?_
 refine cx_block ?_
 refine cx_loopU (fun m k => k ≤ xs.length ∧ m = xs.length - k) (fun k : Nat => [(1, int ((k0 + 2 * k : Nat) : Int)), (5, int k)]) (fun k => []) ⟨_, 0, ⟨Nat.zero_le _, rfl⟩, by repeat (first | exact trivial | refine ⟨rfl, ?_⟩ | refine ⟨?_, ?_⟩)⟩ ?_
 rintro m k ⟨hk, rfl⟩
 refine cx_seq ?_
 refine cx_seq ?_
 refine cx_ops ?_
 refine ax_q (q_mov rfl) ?_
 refine ax_q (q_mov rfl) ?_
 first | refine ax_q (q_lenS_map rfl) ?_ | refine ax_q (q_lenS_osl rfl) ?_ | refine ax_q (q_lenS_zs rfl) ?_ | refine ax_q (q_lenS rfl) ?_
 refine ax_q (q_ibin rfl rfl rfl) ?_
 refine ax_nil ?_
 refine cx_keep rfl rfl ?_
 refine cx_cond rfl (fun h0 => ?_) (fun h0 => ?_)
 ·
  have h0 := dT h0; rw [markL_len] at h0; have h1x : k < xs.length := by omega
  refine cx_skip ?_
  refine cx_keep rfl rfl ?_
  refine cx_seq ?_
  refine cx_block ?_
  refine cx_seq ?_
  refine cx_seq ?_
  refine cx_ops ?_
  refine ax_q (q_mov rfl) ?_
  refine ax_q (q_mov rfl) ?_
  refine ax_q (q_ix rfl rfl (heldAt h1x)) ?_
  first | refine ax_q (q_fadr_ptr rfl) ?_ | refine ax_q (q_fadr_rptr rfl) ?_ | refine ax_q (q_fadr_ip rfl) ?_
  first | refine ax_q (q_load1_ptr rfl rfl rfl) ?_ | refine ax_q (q_load1_ip rfl) ?_ | refine ax_q (q_load1_rptr rfl rfl rfl rfl) ?_ | refine ax_q (q_load1_rptr rfl rfl (by assumption) rfl) ?_ | refine ax_q (q_load1_rptr rfl rfl (mapAt (by first | assumption | omega)) rfl) ?_
  refine ax_q (q_mov rfl) ?_
  refine ax_q (q_ibin rfl rfl rfl) ?_
  refine ax_nil ?_
  refine cx_keep rfl rfl ?_
  refine cx_cond rfl (fun h1 => ?_) (fun h1 => ?_)
  ·
   have h1 := nT h1
   exact absurd rfl h1
  ·
   have h1 := nF h1
   refine cx_skip ?_
   refine cx_keep rfl rfl ?_
   refine cx_seq ?_
   refine cx_ops ?_
   refine ax_q (q_mov rfl) ?_
   refine ax_qe (r' := int ((k0 + 2 * k + 1 : Nat) : Int)) (q_ibin rfl rfl rfl) (by rw [wi (by omega) (by omega)]; rfl) ?_
   refine ax_q (q_mov rfl) ?_
   refine ax_nil ?_
   refine cx_keep rfl rfl ?_
   refine cx_seq ?_
   refine cx_seq ?_
   refine cx_ops ?_
   refine ax_q (q_mov rfl) ?_
   refine ax_q (q_mov rfl) ?_
   refine ax_q (q_ix rfl rfl (heldAt h1x)) ?_
   first | refine ax_q (q_fadr_ptr rfl) ?_ | refine ax_q (q_fadr_rptr rfl) ?_ | refine ax_q (q_fadr_ip rfl) ?_
   first | refine ax_q (q_load1_ptr rfl rfl rfl) ?_ | refine ax_q (q_load1_ip rfl) ?_ | refine ax_q (q_load1_rptr rfl rfl rfl rfl) ?_ | refine ax_q (q_load1_rptr rfl rfl (by assumption) rfl) ?_ | refine ax_q (q_load1_rptr rfl rfl (mapAt (by first | assumption | omega)) rfl) ?_
   refine ax_q (q_mov rfl) ?_
   refine ax_q (q_ibin rfl rfl rfl) ?_
   refine ax_nil ?_
   refine cx_keep rfl rfl ?_
   refine cx_cond rfl (fun h2 => ?_) (fun h2 => ?_)
   ·
    have h2 := nT h2
    exact absurd rfl h2
   ·
    have h2 := nF h2
    refine cx_skip ?_
    refine cx_keep rfl rfl ?_
    refine cx_ops ?_
    refine ax_q (q_mov rfl) ?_
    refine ax_qe (r' := int ((k0 + 2 * k + 2 : Nat) : Int)) (q_ibin rfl rfl rfl) (by rw [wi (by omega) (by omega)]; rfl) ?_
    refine ax_q (q_mov rfl) ?_
    refine ax_nil ?_
    refine cx_keep rfl rfl ?_
    refine cx_ops ?_
    refine ax_q (q_mov rfl) ?_
    refine ax_qe (r' := int ((k + 1 : Nat) : Int)) (q_ibin rfl rfl rfl) (by rw [wi (by omega) (by omega)]; rfl) ?_
    refine ax_q (q_mov rfl) ?_
    refine ax_nil ?_
    exact ⟨_, k + 1, by omega, ⟨by omega, rfl⟩, by repeat (first | exact trivial | refine ⟨rfl, ?_⟩ | refine ⟨?_, ?_⟩)⟩
 ·
  have h0 := dF h0; rw [markL_len] at h0; have h1x : k = xs.length := by omega
  refine cx_exit rfl ?_
  refine cx_keep rfl rfl ?_
  refine cx_seq ?_
  refine cx_ops ?_
  refine ax_q (q_mov rfl) ?_
  refine ax_q (q_mov rfl) ?_
  refine ax_nil ?_
  refine cx_keep rfl rfl ?_
  refine cx_ret (ret0 rfl rfl ?_)
  exact ⟨by rw [h1x]; rfl, rfl⟩


/- loop.example/g00332/laws.heldTxS -/
def k_c_heldTxS : XCode :=
 .seq (.ops [.op (some 4) (.mov (.k (.int .i64 0)))])
 (.keep [0, 1] (.seq (.seq (.ops [.op (some 5) (.mov (.k (.int .i64 0)))])
  (.keep [0, 1, 5] (.block 0 (.loop (.seq (.seq (.ops [.op (some 6) (.mov (.t 5)),
     .op (some 7) (.mov (.t 0)),
     .op (some 8) (.lenS (.t 7)),
     .op (some 9) (.bin .lss (.t 6) (.t 8))])
   (.keep [0, 1, 5, 9] (.cond (.t 9)
    (.skip)
    (.exit 0))))
   (.keep [0, 1, 5] (.seq (.block 1 (.seq (.seq (.ops [.op (some 12) (.mov (.t 0)),
      .op (some 13) (.mov (.t 5)),
      .op (some 14) (.iadr 2 (.t 12) (.t 13)),
      .op (some 15) (.fadr (.t 14) 0),
      .op (some 16) (.load1 (.t 15)),
      .op (some 17) (.mov (.t 1)),
      .op (some 18) (.bin .neq (.t 16) (.t 17))])
    (.keep [0, 1, 5, 18] (.cond (.t 18)
     (.seq (.ops [.op (some 4) (.mov (.k (.int .i64 (-1))))])
     (.keep [4] (.ret)))
     (.skip))))
    (.keep [0, 1, 5] (.seq (.ops [.op (some 19) (.mov (.t 1)),
     .op (some 20) (.bin .add (.t 19) (.k (.int .i64 1))),
     .op (some 1) (.mov (.t 20))])
    (.keep [0, 1, 5] (.seq (.seq (.ops [.op (some 21) (.mov (.t 0)),
      .op (some 22) (.mov (.t 5)),
      .op (some 23) (.iadr 2 (.t 21) (.t 22)),
      .op (some 24) (.fadr (.t 23) 1),
      .op (some 25) (.load1 (.t 24)),
      .op (some 26) (.mov (.t 1)),
      .op (some 27) (.bin .neq (.t 25) (.t 26))])
    (.keep [0, 1, 5, 27] (.cond (.t 27)
     (.seq (.ops [.op (some 4) (.mov (.k (.int .i64 (-1))))])
     (.keep [4] (.ret)))
     (.skip))))
    (.keep [0, 1, 5] (.ops [.op (some 28) (.mov (.t 1)),
     .op (some 29) (.bin .add (.t 28) (.k (.int .i64 1))),
     .op (some 1) (.mov (.t 29))]))))))))
   (.keep [0, 1, 5] (.ops [.op (some 10) (.mov (.t 5)),
    .op (some 11) (.bin .add (.t 10) (.k (.int .i64 1))),
    .op (some 5) (.mov (.t 11))])))))))))
 (.keep [1] (.seq (.ops [.op (some 30) (.mov (.t 1)),
   .op (some 4) (.mov (.t 30))])
 (.keep [4] (.ret))))))
theorem k_c_heldTxS_fits : fitsF Try.prog 15 ⟨31, k_c_heldTxS, [.t 4]⟩ = true := by kernel_rfl
theorem c_heldTxS {xs : List GTx} {k0 : Nat} (hw : k0 + 2 * xs.length ≤ 1000000000000000000) : Con Try.prog noMv 15 [.d (.sl 2 ((markL GTx.mk1 2 k0 xs).map GTx.row)), int k0] [] (fun r h => r = int ((k0 + 2 * xs.length : Nat) : Int) ∧ h = []) := by
 refine con_of2 k_c_heldTxS_fits rfl fun C hP hmv => ?_
 unfold k_c_heldTxS
 refine cx_seq ?_
 refine cx_ops ?_
 refine ax_q (q_mov rfl) ?_
 refine ax_nil ?_
 refine cx_keep rfl rfl ?_
 refine cx_seq ?_
 refine cx_seq ?_
 refine cx_ops ?_
 refine ax_q (q_mov rfl) ?_
 refine ax_nil ?_
 refine cx_keep rfl rfl ?_
 refine cx_block ?_
 refine cx_loopU (fun m k => k ≤ xs.length ∧ m = xs.length - k) (fun k : Nat => [(1, int ((k0 + 2 * k : Nat) : Int)), (5, int k)]) (fun k => []) ⟨_, 0, ⟨Nat.zero_le _, rfl⟩, by repeat (first | exact trivial | refine ⟨rfl, ?_⟩ | refine ⟨?_, ?_⟩)⟩ ?_
 rintro m k ⟨hk, rfl⟩
 refine cx_seq ?_
 refine cx_seq ?_
 refine cx_ops ?_
 refine ax_q (q_mov rfl) ?_
 refine ax_q (q_mov rfl) ?_
 first | refine ax_q (q_lenS_map rfl) ?_ | refine ax_q (q_lenS_osl rfl) ?_ | refine ax_q (q_lenS_zs rfl) ?_ | refine ax_q (q_lenS rfl) ?_
 refine ax_q (q_ibin rfl rfl rfl) ?_
 refine ax_nil ?_
 refine cx_keep rfl rfl ?_
 refine cx_cond rfl (fun h0 => ?_) (fun h0 => ?_)
 ·
  have h0 := dT h0; rw [markL_len] at h0; have h1x : k < xs.length := by omega
  refine cx_skip ?_
  refine cx_keep rfl rfl ?_
  refine cx_seq ?_
  refine cx_block ?_
  refine cx_seq ?_
  refine cx_seq ?_
  refine cx_ops ?_
  refine ax_q (q_mov rfl) ?_
  refine ax_q (q_mov rfl) ?_
  refine ax_q (q_ix rfl rfl (heldAt h1x)) ?_
  first | refine ax_q (q_fadr_ptr rfl) ?_ | refine ax_q (q_fadr_rptr rfl) ?_ | refine ax_q (q_fadr_ip rfl) ?_
  first | refine ax_q (q_load1_ptr rfl rfl rfl) ?_ | refine ax_q (q_load1_ip rfl) ?_ | refine ax_q (q_load1_rptr rfl rfl rfl rfl) ?_ | refine ax_q (q_load1_rptr rfl rfl (by assumption) rfl) ?_ | refine ax_q (q_load1_rptr rfl rfl (mapAt (by first | assumption | omega)) rfl) ?_
  refine ax_q (q_mov rfl) ?_
  refine ax_q (q_ibin rfl rfl rfl) ?_
  refine ax_nil ?_
  refine cx_keep rfl rfl ?_
  refine cx_cond rfl (fun h1 => ?_) (fun h1 => ?_)
  ·
   have h1 := nT h1
   exact absurd rfl h1
  ·
   have h1 := nF h1
   refine cx_skip ?_
   refine cx_keep rfl rfl ?_
   refine cx_seq ?_
   refine cx_ops ?_
   refine ax_q (q_mov rfl) ?_
   refine ax_qe (r' := int ((k0 + 2 * k + 1 : Nat) : Int)) (q_ibin rfl rfl rfl) (by rw [wi (by omega) (by omega)]; rfl) ?_
   refine ax_q (q_mov rfl) ?_
   refine ax_nil ?_
   refine cx_keep rfl rfl ?_
   refine cx_seq ?_
   refine cx_seq ?_
   refine cx_ops ?_
   refine ax_q (q_mov rfl) ?_
   refine ax_q (q_mov rfl) ?_
   refine ax_q (q_ix rfl rfl (heldAt h1x)) ?_
   first | refine ax_q (q_fadr_ptr rfl) ?_ | refine ax_q (q_fadr_rptr rfl) ?_ | refine ax_q (q_fadr_ip rfl) ?_
   first | refine ax_q (q_load1_ptr rfl rfl rfl) ?_ | refine ax_q (q_load1_ip rfl) ?_ | refine ax_q (q_load1_rptr rfl rfl rfl rfl) ?_ | refine ax_q (q_load1_rptr rfl rfl (by assumption) rfl) ?_ | refine ax_q (q_load1_rptr rfl rfl (mapAt (by first | assumption | omega)) rfl) ?_
   refine ax_q (q_mov rfl) ?_
   refine ax_q (q_ibin rfl rfl rfl) ?_
   refine ax_nil ?_
   refine cx_keep rfl rfl ?_
   refine cx_cond rfl (fun h2 => ?_) (fun h2 => ?_)
   ·
    have h2 := nT h2
    exact absurd rfl h2
   ·
    have h2 := nF h2
    refine cx_skip ?_
    refine cx_keep rfl rfl ?_
    refine cx_ops ?_
    refine ax_q (q_mov rfl) ?_
    refine ax_qe (r' := int ((k0 + 2 * k + 2 : Nat) : Int)) (q_ibin rfl rfl rfl) (by rw [wi (by omega) (by omega)]; rfl) ?_
    refine ax_q (q_mov rfl) ?_
    refine ax_nil ?_
    refine cx_keep rfl rfl ?_
    refine cx_ops ?_
    refine ax_q (q_mov rfl) ?_
    refine ax_qe (r' := int ((k + 1 : Nat) : Int)) (q_ibin rfl rfl rfl) (by rw [wi (by omega) (by omega)]; rfl) ?_
    refine ax_q (q_mov rfl) ?_
    refine ax_nil ?_
    exact ⟨_, k + 1, by omega, ⟨by omega, rfl⟩, by repeat (first | exact trivial | refine ⟨rfl, ?_⟩ | refine ⟨?_, ?_⟩)⟩
 ·
  have h0 := dF h0; rw [markL_len] at h0; have h1x : k = xs.length := by omega
  refine cx_exit rfl ?_
  refine cx_keep rfl rfl ?_
  refine cx_seq ?_
  refine cx_ops ?_
  refine ax_q (q_mov rfl) ?_
  refine ax_q (q_mov rfl) ?_
  refine ax_nil ?_
  refine cx_keep rfl rfl ?_
  refine cx_ret (ret0 rfl rfl ?_)
  exact ⟨by rw [h1x]; rfl, rfl⟩

end Go.Proofs.Ytgfabnojbjnepaa
