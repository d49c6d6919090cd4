/- The walks: what each function computes, as a contract without a world (part 1). -/
import Derived.Test.YtnkaifkejkabhaaProg
import Derived.Test.YtnkaifkejkabhaaW0
namespace Go.Proofs.Ytnkaifkejkabhaa
open Go Go.AM
set_option maxRecDepth 10000
set_option linter.unusedVariables false
set_option linter.unusedSimpArgs false
/- (ptr loop.example/g00332/impl.byteReader).fields -/
def k_c_fields : XCode :=
 .seq (.ops [.op (some 2) (.mov (.k (.nils 1)))])
 (.keep [0] (.seq (.ops [.op (some 4) (.bslice 1 []),
   .op (some 3) (.mov (.t 4))])
 (.keep [0, 3] (.seq (.seq (.ops [.op (some 5) (.mov (.t 0)),
   .call (some 6) 51 [.t 5],
   .op (some 7) (.mov (.k (.int .i64 0)))])
  (.keep [0, 3, 6, 7] (.block 0 (.loop (.seq (.ops [.op (some 8) (.bin .lss (.t 7) (.t 6))])
   (.keep [0, 3, 6, 7, 8] (.seq (.cond (.t 8)
    (.skip)
    (.exit 0))
   (.keep [0, 3, 6, 7] (.seq (.block 1 (.ops [.op (some 9) (.mov (.t 3)),
     .op (some 10) (.mov (.t 0)),
     .op (some 11) (.mov (.t 0)),
     .call (some 12) 51 [.t 11],
     .call (some 13) 61 [.t 10, .t 12],
     .op (some 14) (.b2s (.t 13)),
     .op (some 15) (.bslice 1 [.t 14]),
     .op (some 16) (.app 1 16 [.str []] (.t 9) (.t 15)),
     .op (some 3) (.mov (.t 16))]))
   (.keep [0, 3, 6, 7] (.ops [.op (some 17) (.bin .add (.t 7) (.k (.int .i64 1))),
    .op (some 7) (.mov (.t 17))])))))))))))
 (.keep [3] (.seq (.ops [.op (some 18) (.mov (.t 3)),
   .op (some 2) (.mov (.t 18))])
 (.keep [2] (.ret))))))))
theorem k_c_fields_fits : fitsF Try.prog 52 ⟨19, k_c_fields, [.t 2]⟩ = true := by kernel_rfl
theorem c_fields {r0 : Rd} (hl : r0.rest.length ≤ 1048576) : Con Try.prog noMv 52 [.ptr 1000 0] [(1000, r0.box)] (fun r h => r = .osl 0 1 0 (fieldsF r0).1.length ∧ h = [(0, .rows 1 ((fieldsF r0).1.map strRow)), (1000, (fieldsF r0).2.box)]) := by
 refine con_of2 k_c_fields_fits rfl fun C hP hmv => ?_
 unfold k_c_fields
 refine cx_seq ?_
 refine cx_ops ?_
 refine ax_q (q_mov rfl) ?_
 refine ax_nil ?_
 refine cx_keep rfl rfl ?_
 refine cx_seq ?_
 refine cx_ops ?_
 refine ax_e (e_bslice rfl (by decide) rfl rfl) ?_
 refine ax_q (q_mov rfl) ?_
 refine ax_nil ?_
 refine cx_keep rfl rfl ?_
 refine cx_seq ?_
 refine cx_seq ?_
 refine cx_ops ?_
 refine ax_q (q_mov rfl) ?_
 refine ax_call rfl (vcall_own (c_num  ?_) hP hmv false (fun _ => 1000) [1000] ⟨rfl, rfl, rfl, rfl, ⟨rfl, trivial⟩, rfl, rfl, rfl⟩ (.pass rfl rfl .nil) ?_)
 ·
  first | assumption | omega | (simp; done) | (simp; omega)
 rintro r h ⟨rfl, rfl⟩
 refine ⟨fun _ => 1000, [], ⟨rfl, rfl, rfl, rfl, mem1 rfl, rfl, rfl, fun h => absurd h Bool.false_ne_true⟩, ?_⟩
 obtain ⟨q1, q2⟩ := @numF_lt r0
 refine ax_q (q_mov rfl) ?_
 refine ax_nil ?_
 refine cx_keep rfl rfl ?_
 refine cx_block ?_
 refine cx_loopU (fun n1 (p : Nat × Nat × Rd × List Str) => n1 = p.1 ∧ p.1 + p.2.1 = (numF r0).1 ∧ p.2.2.2.length = p.2.1 ∧ p.2.2.1.rest.length ≤ 1048576 ∧ fldL p.1 p.2.2.1 p.2.2.2 = fieldsF r0) (fun p => [(3, .osl 4 1 0 p.2.2.2.length), (7, int p.2.1)]) (fun p => [(1000, p.2.2.1.box), (4, .rows 1 (p.2.2.2.map strRow))])
  ⟨_, ((numF r0).1, 0, (numF r0).2, []), ⟨rfl, rfl, rfl, by simp only; omega, rfl⟩, by repeat (first | exact trivial | refine ⟨rfl, ?_⟩ | refine ⟨?_, ?_⟩)⟩ ?_
 rintro n1 ⟨m, k, u, l⟩ ⟨rfl, hm, hk, hu, he⟩
 simp only at hm hk hu he ⊢
 refine cx_seq ?_
 refine cx_ops ?_
 refine ax_q (q_ibin rfl rfl rfl) ?_
 refine ax_nil ?_
 refine cx_keep rfl rfl ?_
 refine cx_seq ?_
 refine cx_cond rfl (fun h0 => ?_) (fun h0 => ?_)
 ·
  have h0 := dT h0
  obtain ⟨m, rfl⟩ : ∃ m2, n1 = m2 + 1 := ⟨n1 - 1, by omega⟩
  obtain ⟨k1, k2⟩ := @numF_lt u
  obtain ⟨k3, k4⟩ := @takeF_len (numF u).2 (numF u).1
  refine cx_skip ?_
  refine cx_keep rfl rfl ?_
  refine cx_seq ?_
  refine cx_block ?_
  refine cx_ops ?_
  refine ax_q (q_mov rfl) ?_
  refine ax_q (q_mov rfl) ?_
  refine ax_q (q_mov rfl) ?_
  refine ax_call rfl (vcall_own (c_num  ?_) hP hmv false (fun _ => 1000) [1000] ⟨rfl, rfl, rfl, rfl, ⟨rfl, trivial⟩, rfl, rfl, rfl⟩ (.pass rfl rfl .nil) ?_)
  ·
   first | assumption | omega | (simp; done) | (simp; omega)
  rintro r h ⟨rfl, rfl⟩
  refine ⟨fun _ => 1000, [], ⟨rfl, rfl, rfl, rfl, mem1 rfl, rfl, rfl, fun h => absurd h Bool.false_ne_true⟩, ?_⟩
  refine ax_call rfl (vcall_own (c_take (n := (numF u).1) ?_ ?_) hP hmv false (fun _ => 1000) [1000] ⟨rfl, rfl, rfl, rfl, ⟨rfl, trivial⟩, rfl, rfl, rfl⟩ (.pass rfl rfl (.pass rfl rfl .nil)) ?_)
  ·
   first | assumption | omega | (simp; done) | (simp; omega)
  ·
   first | assumption | omega | (simp; done) | (simp; omega)
  rintro r h ⟨rfl, rfl⟩
  refine ⟨fun _ => 1000, [], ⟨rfl, rfl, rfl, rfl, mem1 rfl, rfl, rfl, fun h => absurd h Bool.false_ne_true⟩, ?_⟩
  refine ax_qe (r' := .d (.str (takeF (numF u).2 (numF u).1).1)) (q_b2s rfl (src_sl 1 _) rfl ⟨0, 1, 0, 0, .inr (.inr rfl)⟩) (rfl) ?_
  refine ax_e (e_bslice rfl (by decide) rfl rfl) ?_
  refine ax_e (e_appn (n' := (l ++ [(takeF (numF u).2 (numF u).1).1]).length) (rs' := (l ++ [(takeF (numF u).2 (numF u).1).1]).map strRow) rfl rfl (by simp) rfl (src_osl rfl (by simp)) (.inl (by decide)) (hbnd (by omega) (by simp) (by decide)) (by simp) (app1 rfl)) ?_
  refine ax_q (q_mov rfl) ?_
  refine ax_nil ?_
  refine cx_keep rfl rfl ?_
  refine cx_ops ?_
  refine ax_qe (r' := int ((k + 1 : Nat) : Int)) (q_ibin rfl rfl rfl) (by rw [wi (by omega) (by omega)]; rfl) ?_
  refine ax_q (q_mov rfl) ?_
  refine ax_nil ?_
  exact ⟨_, (m, k + 1, (takeF (numF u).2 (numF u).1).2, l ++ [(takeF (numF u).2 (numF u).1).1]), by omega, ⟨rfl, by simp only; omega, by simp [hk], by simp only; omega, by rw [← he]; rfl⟩, by repeat (first | exact trivial | refine ⟨rfl, ?_⟩ | refine ⟨?_, ?_⟩)⟩
 ·
  have h0 := dF h0
  obtain rfl : n1 = 0 := by omega
  have he2 : fieldsF r0 = (l, u) := he.symm
  refine cx_exit rfl ?_
  refine cx_keep rfl rfl ?_
  refine cx_seq ?_
  refine cx_ops ?_
  refine ax_q (q_mov rfl) ?_
  refine ax_q (q_mov rfl) ?_
  refine ax_nil ?_
  refine cx_keep rfl rfl ?_
  refine cx_ret (retN (fun e => bif Nat.beq e 4 then 0 else e) [4, 1000] rfl rfl rfl rfl rfl ?_)
  rw [he2]; exact ⟨rfl, rfl⟩


/- (ptr loop.example/g00332/impl.byteReader).isDone -/
def k_c_isDone : XCode :=
 .seq (.ops [.op (some 2) (.mov (.k (.bool false)))])
 (.keep [0] (.seq (.ops [.op (some 3) (.mov (.t 0)),
   .op (some 4) (.nilck (.t 3)),
   .op (some 5) (.fadr (.t 4) 1),
   .op (some 6) (.load1 (.t 5)),
   .op (some 7) (.not (.t 6)),
   .op (some 8) (.mov (.t 7)),
   .andor 15 true 5 8 [.op (some 9) (.mov (.t 0)), .op (some 10) (.nilck (.t 9)), .op (some 11) (.fadr (.t 10) 0), .op (some 12) (.load1 (.t 11)), .op (some 13) (.lenS (.t 12)), .op (some 14) (.bin .eql (.t 13) (.k (.int .i64 0)))] (.t 14),
   .op (some 2) (.mov (.t 15))])
 (.keep [2] (.ret))))
theorem k_c_isDone_fits : fitsF Try.prog 53 ⟨16, k_c_isDone, [.t 2]⟩ = true := by kernel_rfl
theorem c_isDone {r0 : Rd}  : Con Try.prog noMv 53 [.ptr 1000 0] [(1000, r0.box)] (fun r h => r = bool (doneF r0) ∧ h = [(1000, (r0).box)]) := by
 refine con_of2 k_c_isDone_fits rfl fun C hP hmv => ?_
 unfold k_c_isDone
 refine cx_seq ?_
 refine cx_ops ?_
 refine ax_q (q_mov rfl) ?_
 refine ax_nil ?_
 refine cx_keep rfl rfl ?_
 refine cx_seq ?_
 refine cx_ops ?_
 refine ax_q (q_mov rfl) ?_
 first | refine ax_q (q_nilck_ptr rfl) ?_ | refine ax_q (q_nilck_rptr rfl) ?_ | refine ax_q (q_nilck_ip rfl) ?_
 first | refine ax_q (q_fadr_ptr rfl) ?_ | refine ax_q (q_fadr_rptr rfl) ?_ | refine ax_q (q_fadr_ip rfl) ?_
 first | refine ax_q (q_load1_ptr rfl rfl rfl) ?_ | refine ax_q (q_load1_ip rfl) ?_ | refine ax_q (q_load1_rptr rfl rfl rfl rfl) ?_ | refine ax_q (q_load1_rptr rfl rfl (by assumption) rfl) ?_ | refine ax_q (q_load1_rptr rfl rfl (mapAt (by first | assumption | omega)) rfl) ?_
 refine ax_q (q_not rfl) ?_
 refine ax_q (q_mov rfl) ?_
 apply ax_and rfl rfl
 ·
  intro g
  have g := bT g
  refine ax_q (q_mov rfl) ?_
  first | refine ax_q (q_nilck_ptr rfl) ?_ | refine ax_q (q_nilck_rptr rfl) ?_ | refine ax_q (q_nilck_ip rfl) ?_
  first | refine ax_q (q_fadr_ptr rfl) ?_ | refine ax_q (q_fadr_rptr rfl) ?_ | refine ax_q (q_fadr_ip rfl) ?_
  first | refine ax_q (q_load1_ptr rfl rfl rfl) ?_ | refine ax_q (q_load1_ip rfl) ?_ | refine ax_q (q_load1_rptr rfl rfl rfl rfl) ?_ | refine ax_q (q_load1_rptr rfl rfl (by assumption) rfl) ?_ | refine ax_q (q_load1_rptr rfl rfl (mapAt (by first | assumption | omega)) rfl) ?_
  first | refine ax_q (q_lenS_map rfl) ?_ | refine ax_q (q_lenS_osl rfl) ?_ | refine ax_q (q_lenS_zs rfl) ?_ | refine ax_q (q_lenS rfl) ?_
  refine ax_q (q_ibin rfl rfl rfl) ?_
  exact ax_nil ⟨rfl, by repeat (first | exact trivial | refine ⟨rfl, ?_⟩ | refine ⟨?_, ?_⟩)⟩
 refine ax_q (q_mov rfl) ?_
 refine ax_nil ?_
 refine cx_keep rfl rfl ?_
 refine cx_ret (retN id [1000] rfl rfl rfl rfl rfl ?_)
 exact ⟨rfl, rfl⟩


/- (ptr loop.example/g00332/impl.byteReader).checkList -/
def k_c_checkList : XCode :=
 .seq (.ops [.op (some 10) (.mov (.k (.bool false)))])
 (.keep [0, 1, 2, 3, 4] (.seq (.ops [.op (some 16) (.mov (.t 0)),
   .call (some 17) 51 [.t 16],
   .op (some 11) (.mov (.t 17))])
 (.keep [0, 1, 2, 3, 4, 11] (.seq (.ops [.op (some 18) (.mov (.t 11)),
   .op (some 19) (.mov (.t 1)),
   .op (some 20) (.bin .leq (.t 18) (.t 19)),
   .op (some 21) (.mov (.t 2)),
   .op (some 22) (.bin .sub (.t 21) (.k (.int .i64 1))),
   .op (some 12) (.mov (.t 20)),
   .op (some 13) (.mov (.t 22))])
 (.keep [0, 3, 4, 11, 12, 13] (.seq (.seq (.ops [.op (some 23) (.mov (.t 11)),
   .op (some 24) (.mov (.k (.int .i64 0)))])
  (.keep [0, 3, 4, 12, 13, 23, 24] (.block 0 (.loop (.seq (.ops [.op (some 25) (.bin .lss (.t 24) (.t 23))])
   (.keep [0, 3, 4, 12, 13, 23, 24, 25] (.seq (.cond (.t 25)
    (.skip)
    (.exit 0))
   (.keep [0, 3, 4, 12, 13, 23, 24] (.seq (.block 1 (.seq (.ops [.op (some 26) (.mov (.t 0)),
     .call (some 27) 51 [.t 26],
     .op (some 28) (.mov (.t 0)),
     .call (some 29) 51 [.t 28],
     .op (some 14) (.mov (.t 27)),
     .op (some 15) (.mov (.t 29))])
    (.keep [0, 3, 4, 12, 13, 14, 15, 23, 24] (.seq (.ops [.op (some 30) (.mov (.t 12)),
     .op (some 31) (.mov (.t 30)),
     .andor 37 true 1 31 [.op (some 32) (.mov (.t 14)), .op (some 33) (.mov (.t 13)), .op (some 34) (.bin .add (.t 33) (.k (.int .i64 1))), .op (some 35) (.mov (.t 3)), .call (some 36) 23 [.t 32, .t 34, .t 35]] (.t 36),
     .op (some 38) (.mov (.t 37)),
     .andor 43 true 8 38 [.op (some 39) (.mov (.t 15)), .op (some 40) (.mov (.t 4)), .op (some 41) (.bin .sub (.t 40) (.k (.int .i64 1))), .call (some 42) 23 [.t 39, .k (.int .i64 1), .t 41]] (.t 42),
     .op (some 12) (.mov (.t 43))])
    (.keep [0, 3, 4, 12, 14, 23, 24] (.ops [.op (some 44) (.mov (.t 14)),
     .op (some 13) (.mov (.t 44))]))))))
   (.keep [0, 3, 4, 12, 13, 23, 24] (.ops [.op (some 45) (.bin .add (.t 24) (.k (.int .i64 1))),
    .op (some 24) (.mov (.t 45))])))))))))))
 (.keep [0, 12] (.seq (.ops [.op (some 46) (.mov (.t 12)),
   .op (some 47) (.mov (.t 46)),
   .andor 53 true 1 47 [.op (some 48) (.mov (.t 0)), .op (some 49) (.nilck (.t 48)), .op (some 50) (.fadr (.t 49) 1), .op (some 51) (.load1 (.t 50)), .op (some 52) (.not (.t 51))] (.t 52),
   .op (some 10) (.mov (.t 53))])
 (.keep [10] (.ret))))))))))
theorem k_c_checkList_fits : fitsF Try.prog 65 ⟨54, k_c_checkList, [.t 10]⟩ = true := by kernel_rfl
theorem c_checkList {r0 : Rd} {most low high lsn : Int} (hl : r0.rest.length ≤ 1048576) (hlo : 0 ≤ low ∧ low ≤ 1) (hhi : 0 ≤ high ∧ high ≤ 100) (hm : 1 ≤ lsn ∧ lsn ≤ 60) : Con Try.prog noMv 65 [.ptr 1000 0, int most, int low, int high, int lsn] [(1000, r0.box)] (fun r h => r = bool (chkF most low high lsn r0).1 ∧ h = [(1000, ((chkF most low high lsn r0).2).box)]) := by
 refine con_of2 k_c_checkList_fits rfl fun C hP hmv => ?_
 unfold k_c_checkList
 refine cx_seq ?_
 refine cx_ops ?_
 refine ax_q (q_mov rfl) ?_
 refine ax_nil ?_
 refine cx_keep rfl rfl ?_
 refine cx_seq ?_
 refine cx_ops ?_
 refine ax_q (q_mov rfl) ?_
 refine ax_call rfl (vcall_own (c_num  ?_) hP hmv false (fun _ => 1000) [1000] ⟨rfl, rfl, rfl, rfl, ⟨rfl, trivial⟩, rfl, rfl, rfl⟩ (.pass rfl rfl .nil) ?_)
 ·
  first | assumption | omega | (simp; done) | (simp; omega)
 rintro r h ⟨rfl, rfl⟩
 refine ⟨fun _ => 1000, [], ⟨rfl, rfl, rfl, rfl, mem1 rfl, rfl, rfl, fun h => absurd h Bool.false_ne_true⟩, ?_⟩
 obtain ⟨q1, q2⟩ := @numF_lt r0
 obtain ⟨T, hT⟩ : ∃ T, chkL high lsn (numF r0).1 (numF r0).2 (decide (((numF r0).1 : Int) ≤ most)) (low - 1) = T := ⟨_, rfl⟩
 refine ax_q (q_mov rfl) ?_
 refine ax_nil ?_
 refine cx_keep rfl rfl ?_
 refine cx_seq ?_
 refine cx_ops ?_
 refine ax_q (q_mov rfl) ?_
 refine ax_q (q_mov rfl) ?_
 refine ax_q (q_ibin rfl rfl rfl) ?_
 refine ax_q (q_mov rfl) ?_
 refine ax_qe (r' := int (low - 1)) (q_ibin rfl rfl rfl) (by rw [wi (by omega) (by omega)]) ?_
 refine ax_q (q_mov rfl) ?_
 refine ax_q (q_mov rfl) ?_
 refine ax_nil ?_
 refine cx_keep rfl rfl ?_
 refine cx_seq ?_
 refine cx_seq ?_
 refine cx_ops ?_
 refine ax_q (q_mov rfl) ?_
 refine ax_q (q_mov rfl) ?_
 refine ax_nil ?_
 refine cx_keep rfl rfl ?_
 refine cx_block ?_
 refine cx_loopU (fun m (p : Nat × Rd × Bool × Int) => p.1 ≤ (numF r0).1 ∧ m = p.1 ∧ p.2.1.rest.length ≤ 1048576 ∧ -1 ≤ p.2.2.2 ∧ p.2.2.2 ≤ 256 ∧ chkL high lsn p.1 p.2.1 p.2.2.1 p.2.2.2 = T) (fun p => [(24, int (((numF r0).1 - p.1 : Nat) : Int)), (12, bool p.2.2.1), (13, int p.2.2.2)]) (fun p => [(1000, p.2.1.box)])
  ⟨_, ((numF r0).1, (numF r0).2, decide (((numF r0).1 : Int) ≤ most), low - 1), ⟨Nat.le_refl _, rfl, by simp only; omega, by simp only; omega, by simp only; omega, hT⟩, by simp only [Nat.sub_self]; exact (by repeat (first | exact trivial | refine ⟨rfl, ?_⟩ | refine ⟨?_, ?_⟩))⟩ ?_
 rintro m ⟨n, u, ok, b⟩ ⟨hn, hmn, hu, hb0, hb1, hc⟩
 simp only at hn hmn hu hb0 hb1 hc ⊢
 refine cx_seq ?_
 refine cx_ops ?_
 refine ax_q (q_ibin rfl rfl rfl) ?_
 refine ax_nil ?_
 refine cx_keep rfl rfl ?_
 refine cx_seq ?_
 refine cx_cond rfl (fun h0 => ?_) (fun h0 => ?_)
 ·
  have h0 := dT h0
  obtain ⟨n, rfl⟩ : ∃ n2, n = n2 + 1 := ⟨n - 1, by omega⟩
  rw [chkL] at hc
  obtain ⟨k1, k2⟩ := @numF_lt u
  obtain ⟨k3, k4⟩ := @numF_lt (numF u).2
  refine cx_skip ?_
  refine cx_keep rfl rfl ?_
  refine cx_seq ?_
  refine cx_block ?_
  refine cx_seq ?_
  refine cx_ops ?_
  refine ax_q (q_mov rfl) ?_
  refine ax_call rfl (vcall_own (c_num  ?_) hP hmv false (fun _ => 1000) [1000] ⟨rfl, rfl, rfl, rfl, ⟨rfl, trivial⟩, rfl, rfl, rfl⟩ (.pass rfl rfl .nil) ?_)
  ·
   first | assumption | omega | (simp; done) | (simp; omega)
  rintro r h ⟨rfl, rfl⟩
  refine ⟨fun _ => 1000, [], ⟨rfl, rfl, rfl, rfl, mem1 rfl, rfl, rfl, fun h => absurd h Bool.false_ne_true⟩, ?_⟩
  refine ax_q (q_mov rfl) ?_
  refine ax_call rfl (vcall_own (c_num  ?_) hP hmv false (fun _ => 1000) [1000] ⟨rfl, rfl, rfl, rfl, ⟨rfl, trivial⟩, rfl, rfl, rfl⟩ (.pass rfl rfl .nil) ?_)
  ·
   first | assumption | omega | (simp; done) | (simp; omega)
  rintro r h ⟨rfl, rfl⟩
  refine ⟨fun _ => 1000, [], ⟨rfl, rfl, rfl, rfl, mem1 rfl, rfl, rfl, fun h => absurd h Bool.false_ne_true⟩, ?_⟩
  refine ax_q (q_mov rfl) ?_
  refine ax_q (q_mov rfl) ?_
  refine ax_nil ?_
  refine cx_keep rfl rfl ?_
  refine cx_seq ?_
  refine cx_ops ?_
  refine ax_q (q_mov rfl) ?_
  refine ax_q (q_mov rfl) ?_
  apply ax_and rfl rfl
  ·
   intro g
   refine ax_q (q_mov rfl) ?_
   refine ax_q (q_mov rfl) ?_
   refine ax_q (q_add rfl rfl (by omega)) ?_
   refine ax_q (q_mov rfl) ?_
   first | refine ax_call rfl (vc_pure0 (c_inRange  ) hP rfl rfl ?_) | refine ax_call rfl (vc_lend0 (c_inRange  ) hP (by repeat (first | exact lal_id _ rfl | exact LAL.nil | refine LAL.cons ?_ ?_ | exact la_id _ rfl | exact LA.lend (lend_whole rfl (by first | (simp; done) | (rw [List.length_map]; rfl))) | refine LA.agg ?_ | refine LA.fn ?_ | refine LA.lend ?_ | exact Lend.d _ | exact Lend.zs _ | exact lend_whole rfl (by first | (simp; done) | (rw [List.length_map]; rfl)) | refine Lend.ptr rfl ?_ | refine Lend.fn ?_ | exact LendL.nil | refine LendL.cons ?_ ?_)) rfl rfl ?_)
   exact ax_nil ⟨rfl, by repeat (first | exact trivial | refine ⟨rfl, ?_⟩ | refine ⟨?_, ?_⟩)⟩
  refine ax_q (q_mov rfl) ?_
  apply ax_and rfl rfl
  ·
   intro g
   have g := (fun h => And.intro (id (and_T h).1) (id (and_T h).2)) g
   refine ax_q (q_mov rfl) ?_
   refine ax_q (q_mov rfl) ?_
   refine ax_q (q_sub rfl rfl (by omega)) ?_
   first | refine ax_call rfl (vc_pure0 (c_inRange  ) hP rfl rfl ?_) | refine ax_call rfl (vc_lend0 (c_inRange  ) hP (by repeat (first | exact lal_id _ rfl | exact LAL.nil | refine LAL.cons ?_ ?_ | exact la_id _ rfl | exact LA.lend (lend_whole rfl (by first | (simp; done) | (rw [List.length_map]; rfl))) | refine LA.agg ?_ | refine LA.fn ?_ | refine LA.lend ?_ | exact Lend.d _ | exact Lend.zs _ | exact lend_whole rfl (by first | (simp; done) | (rw [List.length_map]; rfl)) | refine Lend.ptr rfl ?_ | refine Lend.fn ?_ | exact LendL.nil | refine LendL.cons ?_ ?_)) rfl rfl ?_)
   exact ax_nil ⟨rfl, by repeat (first | exact trivial | refine ⟨rfl, ?_⟩ | refine ⟨?_, ?_⟩)⟩
  refine ax_q (q_mov rfl) ?_
  refine ax_nil ?_
  refine cx_keep rfl rfl ?_
  refine cx_ops ?_
  refine ax_q (q_mov rfl) ?_
  refine ax_q (q_mov rfl) ?_
  refine ax_nil ?_
  refine cx_keep rfl rfl ?_
  refine cx_ops ?_
  refine ax_qe (r' := int (((numF r0).1 - n : Nat) : Int)) (q_ibin rfl rfl rfl) (by rw [wi (by omega) (by omega)]; exact congrArg AM.int (by omega)) ?_
  refine ax_q (q_mov rfl) ?_
  refine ax_nil ?_
  exact ⟨_, (n, (numF (numF u).2).2, (ok && inR (numF u).1 (b + 1) high) && inR (numF (numF u).2).1 1 (lsn - 1), ((numF u).1 : Int)), by omega, ⟨by simp only; omega, rfl, by simp only; omega, by simp only; omega, by simp only; omega, hc⟩, by simp only; exact (by repeat (first | exact trivial | refine ⟨rfl, ?_⟩ | refine ⟨?_, ?_⟩))⟩
 ·
  have h0 := dF h0
  obtain rfl : n = 0 := by omega
  subst hc
  refine cx_exit rfl ?_
  refine cx_keep rfl rfl ?_
  refine cx_seq ?_
  refine cx_ops ?_
  refine ax_q (q_mov rfl) ?_
  refine ax_q (q_mov rfl) ?_
  apply ax_and rfl rfl
  ·
   intro g
   refine ax_q (q_mov rfl) ?_
   first | refine ax_q (q_nilck_ptr rfl) ?_ | refine ax_q (q_nilck_rptr rfl) ?_ | refine ax_q (q_nilck_ip rfl) ?_
   first | refine ax_q (q_fadr_ptr rfl) ?_ | refine ax_q (q_fadr_rptr rfl) ?_ | refine ax_q (q_fadr_ip rfl) ?_
   first | refine ax_q (q_load1_ptr rfl rfl rfl) ?_ | refine ax_q (q_load1_ip rfl) ?_ | refine ax_q (q_load1_rptr rfl rfl rfl rfl) ?_ | refine ax_q (q_load1_rptr rfl rfl (by assumption) rfl) ?_ | refine ax_q (q_load1_rptr rfl rfl (mapAt (by first | assumption | omega)) rfl) ?_
   refine ax_q (q_not rfl) ?_
   exact ax_nil ⟨rfl, by repeat (first | exact trivial | refine ⟨rfl, ?_⟩ | refine ⟨?_, ?_⟩)⟩
  refine ax_q (q_mov rfl) ?_
  refine ax_nil ?_
  refine cx_keep rfl rfl ?_
  refine cx_ret (retN id [1000] rfl rfl rfl rfl rfl ?_)
  have e : chkF most low high lsn r0 = (ok && !u.fail, u) := by unfold chkF; simp only; rw [hT]; rfl
  rw [e]; exact ⟨rfl, rfl⟩


/- loop.example/g00332/impl.isCheck -/
def k_c_isCheck : XCode :=
 .seq (.ops [.op (some 4) (.mov (.k (.bool false)))])
 (.keep [0, 1] (.seq (.ops [.op (some 8) (.mov (.t 0)),
   .op (some 9) (.s2b (.t 8)),
   .op (some 10) (.build [.nils 1, .bool false] [(0, 1, .t 9)]),
   .op (some 11) (.box (.t 10)),
   .op (some 5) (.mov (.t 11))])
 (.keep [1, 5] (.seq (.ops [.op (some 12) (.mov (.t 5)),
   .op (some 13) (.mov (.t 1)),
   .call (some 14) 65 [.t 12, .k (.int .i64 8), .k (.int .i64 0), .k (.int .i64 7), .t 13],
   .op (some 6) (.mov (.t 14))])
 (.keep [1, 5, 6] (.seq (.ops [.op (some 15) (.mov (.t 5)),
   .op (some 16) (.mov (.t 1)),
   .call (some 17) 65 [.t 15, .k (.int .i64 10), .k (.int .i64 1), .k (.int .i64 60), .t 16],
   .op (some 7) (.mov (.t 17))])
 (.keep [5, 6, 7] (.seq (.ops [.op (some 18) (.mov (.t 6)),
   .op (some 19) (.mov (.t 18)),
   .andor 21 true 1 19 [.op (some 20) (.mov (.t 7))] (.t 20),
   .op (some 22) (.mov (.t 21)),
   .andor 25 true 4 22 [.op (some 23) (.mov (.t 5)), .call (some 24) 53 [.t 23]] (.t 24),
   .op (some 4) (.mov (.t 25))])
 (.keep [4] (.ret))))))))))
theorem k_c_isCheck_fits : fitsF Try.prog 62 ⟨26, k_c_isCheck, [.t 4]⟩ = true := by kernel_rfl
theorem c_isCheck {t : Str} {lsn : Int} (hl : t.length ≤ 1048576) (hm : 1 ≤ lsn ∧ lsn ≤ 60) : Con Try.prog noMv 62 [str t, int lsn] [] (fun r h => r = bool (isCheckF t lsn) ∧ h = []) := by
 refine con_of2 k_c_isCheck_fits rfl fun C hP hmv => ?_
 unfold k_c_isCheck
 refine cx_seq ?_
 refine cx_ops ?_
 refine ax_q (q_mov rfl) ?_
 refine ax_nil ?_
 refine cx_keep rfl rfl ?_
 refine cx_seq ?_
 refine cx_ops ?_
 refine ax_q (q_mov rfl) ?_
 refine ax_e (e_s2b rfl (by decide) rfl rfl) ?_
 refine ax_wk (wk_frz 9 9 rfl rfl (.whole (by simp)) rfl) ?_
 refine ax_q (q_build rfl) ?_
 refine ax_e (e_box rfl rfl (by decide) rfl rfl rfl) ?_
 refine ax_q (q_mov rfl) ?_
 refine ax_nil ?_
 refine cx_keep rfl rfl ?_
 refine cx_seq ?_
 refine cx_ops ?_
 refine ax_q (q_mov rfl) ?_
 refine ax_q (q_mov rfl) ?_
 refine ax_call rfl (vcall_own (c_checkList (r0 := ⟨t, false⟩) (most := 8) (low := 0) (high := 7) (lsn := lsn) hl (by omega) (by omega) hm) hP hmv false (fun _ => 11) [1000] ⟨rfl, rfl, rfl, rfl, ⟨rfl, trivial⟩, rfl, rfl, rfl⟩ (.pass rfl rfl (.pass rfl rfl (.pass rfl rfl (.pass rfl rfl (.pass rfl rfl .nil))))) ?_)
 rintro r h ⟨rfl, rfl⟩
 refine ⟨fun _ => 11, [], ⟨rfl, rfl, rfl, rfl, mem1 rfl, rfl, rfl, fun h => absurd h Bool.false_ne_true⟩, ?_⟩
 have hl2 := @chkF_len 8 0 7 lsn ⟨t, false⟩
 simp only at hl2
 refine ax_q (q_mov rfl) ?_
 refine ax_nil ?_
 refine cx_keep rfl rfl ?_
 refine cx_seq ?_
 refine cx_ops ?_
 refine ax_q (q_mov rfl) ?_
 refine ax_q (q_mov rfl) ?_
 refine ax_call rfl (vcall_own (c_checkList (r0 := (chkF 8 0 7 lsn ⟨t, false⟩).2) (most := 10) (low := 1) (high := 60) (lsn := lsn) (by omega) (by omega) (by omega) hm) hP hmv false (fun _ => 11) [1000] ⟨rfl, rfl, rfl, rfl, ⟨rfl, trivial⟩, rfl, rfl, rfl⟩ (.pass rfl rfl (.pass rfl rfl (.pass rfl rfl (.pass rfl rfl (.pass rfl rfl .nil))))) ?_)
 rintro r h ⟨rfl, rfl⟩
 refine ⟨fun _ => 11, [], ⟨rfl, rfl, rfl, rfl, mem1 rfl, rfl, rfl, fun h => absurd h Bool.false_ne_true⟩, ?_⟩
 refine ax_q (q_mov rfl) ?_
 refine ax_nil ?_
 refine cx_keep rfl rfl ?_
 refine cx_seq ?_
 refine cx_ops ?_
 refine ax_q (q_mov rfl) ?_
 refine ax_q (q_mov rfl) ?_
 apply ax_and rfl rfl
 ·
  intro g
  refine ax_q (q_mov rfl) ?_
  exact ax_nil ⟨rfl, by repeat (first | exact trivial | refine ⟨rfl, ?_⟩ | refine ⟨?_, ?_⟩)⟩
 refine ax_q (q_mov rfl) ?_
 apply ax_and rfl rfl
 ·
  intro g
  have g := (fun h => And.intro (id (and_T h).1) (id (and_T h).2)) g
  refine ax_q (q_mov rfl) ?_
  refine ax_call rfl (vcall_own (c_isDone (r0 := (chkF 10 1 60 lsn (chkF 8 0 7 lsn ⟨t, false⟩).2).2)) hP hmv false (fun _ => 11) [1000] ⟨rfl, rfl, rfl, rfl, ⟨rfl, trivial⟩, rfl, rfl, rfl⟩ (.pass rfl rfl .nil) ?_)
  rintro r h ⟨rfl, rfl⟩
  refine ⟨fun _ => 11, [], ⟨rfl, rfl, rfl, rfl, mem1 rfl, rfl, rfl, fun h => absurd h Bool.false_ne_true⟩, ?_⟩
  exact ax_nil ⟨rfl, by repeat (first | exact trivial | refine ⟨rfl, ?_⟩ | refine ⟨?_, ?_⟩)⟩
 refine ax_q (q_mov rfl) ?_
 refine ax_nil ?_
 refine cx_keep rfl rfl ?_
 refine cx_ret (ret0 rfl rfl ?_)
 exact ⟨rfl, rfl⟩


/- loop.example/g00332/impl.RecordOK -/
def k_c_RecordOK : XCode :=
 .seq (.ops [.op (some 1) (.box (.t 0)),
   .op (some 2) (.mov (.k (.bool false)))])
 (.keep [1] (.seq (.seq (.ops [.op (some 5) (.fadr (.t 1) 0),
   .op (some 6) (.load1 (.t 5)),
   .call (some 7) 23 [.t 6, .k (.int .i64 1), .k (.int .i64 60)],
   .op (some 8) (.not (.t 7)),
   .op (some 9) (.mov (.t 8)),
   .andor 14 false 4 9 [.op (some 10) (.fadr (.t 1) 1), .op (some 11) (.load1 (.t 10)), .call (some 12) 23 [.t 11, .k (.int .i64 1), .k (.int .i64 60)], .op (some 13) (.not (.t 12))] (.t 13)])
  (.keep [1, 14] (.cond (.t 14)
  (.seq (.ops [.op (some 2) (.mov (.k (.bool false)))])
   (.keep [2] (.ret)))
  (.skip))))
 (.keep [1] (.seq (.ops [.op (some 15) (.loadN 10 (.t 1)),
   .op (some 3) (.alloc [.int .i64 0, .int .i64 0, .int .i64 0, .int .i64 0, .int .i64 0, .int .i64 0, .int .i64 0, .int .i64 0, .str [], .str []]),
   .op none (.store 10 (.t 3) (.t 15))])
 (.keep [1, 3] (.seq (.ops [.op (some 16) (.fadr (.t 3) 0),
   .op none (.store 1 (.t 16) (.k (.int .i64 0))),
   .op (some 17) (.fadr (.t 3) 1),
   .op none (.store 1 (.t 17) (.k (.int .i64 0))),
   .op (some 18) (.fadr (.t 3) 2),
   .op none (.store 1 (.t 18) (.k (.int .i64 0))),
   .op (some 19) (.fadr (.t 3) 3),
   .op none (.store 1 (.t 19) (.k (.int .i64 0))),
   .op (some 20) (.fadr (.t 3) 4),
   .op none (.store 1 (.t 20) (.k (.int .i64 0)))])
 (.keep [1, 3] (.seq (.seq (.ops [.op (some 21) (.fadr (.t 1) 3),
   .op (some 22) (.load1 (.t 21))])
  (.keep [1, 3, 22] (.block 0 (.seq (.ops [.op (some 24) (.bin .eql (.t 22) (.k (.int .i64 6))),
    .op (some 23) (.mov (.t 24))])
  (.keep [1, 3, 22, 23] (.cond (.t 23)
   (.seq (.ops [.op (some 25) (.fadr (.t 3) 9),
     .op none (.store 1 (.t 25) (.k (.str [])))])
   (.keep [1, 3] (.seq (.ops [.op (some 26) (.fadr (.t 1) 2),
     .op (some 27) (.load1 (.t 26)),
     .op (some 28) (.bin .eql (.t 27) (.k (.int .i64 0))),
     .op (some 29) (.mov (.t 28)),
     .andor 33 true 3 29 [.op (some 30) (.fadr (.t 1) 4), .op (some 31) (.load1 (.t 30)), .op (some 32) (.bin .eql (.t 31) (.k (.int .i64 0)))] (.t 32),
     .op (some 34) (.mov (.t 33)),
     .andor 38 true 8 34 [.op (some 35) (.loadN 10 (.t 3)), .op (some 36) (.build [.int .i64 0, .int .i64 0, .int .i64 0, .int .i64 0, .int .i64 0, .int .i64 0, .int .i64 0, .int .i64 0, .str [], .str []] []), .op (some 37) (.eqs false [0, 0, 0, 0, 0, 0, 0, 0, 2, 2] (.t 35) (.t 36))] (.t 37),
     .op (some 39) (.mov (.t 38)),
     .andor 45 true 13 39 [.op (some 40) (.fadr (.t 1) 9), .op (some 41) (.load1 (.t 40)), .op (some 42) (.fadr (.t 1) 1), .op (some 43) (.load1 (.t 42)), .call (some 44) 62 [.t 41, .t 43]] (.t 44),
     .op (some 2) (.mov (.t 45))])
   (.keep [2] (.ret)))))
   (.seq (.seq (.ops [.op (some 47) (.bin .eql (.t 22) (.k (.int .i64 2))),
     .op (some 46) (.mov (.t 47))])
    (.keep [1, 3, 22, 46] (.cond (.t 46)
    (.skip)
    (.ops [.op (some 48) (.bin .eql (.t 22) (.k (.int .i64 3))),
      .op (some 46) (.mov (.t 48))]))))
   (.keep [1, 3, 46] (.cond (.t 46)
    (.seq (.ops [.op (some 49) (.fadr (.t 1) 6),
      .op (some 50) (.load1 (.t 49)),
      .call (some 51) 41 [.t 50, .k (.int .i64 8)],
      .op (some 52) (.mov (.t 51)),
      .andor 56 true 3 52 [.op (some 53) (.fadr (.t 1) 7), .op (some 54) (.load1 (.t 53)), .call (some 55) 41 [.t 54, .k (.int .i64 4)]] (.t 55),
      .op (some 4) (.mov (.t 56))])
    (.keep [1, 3, 4] (.seq (.seq (.ops [.op (some 57) (.mov (.t 4)),
      .op (some 58) (.not (.t 57)),
      .op (some 59) (.mov (.t 58)),
      .andor 64 false 2 59 [.op (some 60) (.fadr (.t 1) 8), .op (some 61) (.load1 (.t 60)), .op (some 62) (.lenT (.t 61)), .op (some 63) (.bin .gtr (.t 62) (.k (.int .i64 30)))] (.t 63),
      .op (some 65) (.mov (.t 64)),
      .andor 70 false 8 65 [.op (some 66) (.fadr (.t 1) 9), .op (some 67) (.load1 (.t 66)), .op (some 68) (.lenT (.t 67)), .op (some 69) (.bin .gtr (.t 68) (.k (.int .i64 30)))] (.t 69),
      .op (some 71) (.mov (.t 70)),
      .andor 84 false 14 71 [.op (some 72) (.fadr (.t 1) 3), .op (some 73) (.load1 (.t 72)), .op (some 74) (.bin .eql (.t 73) (.k (.int .i64 3))), .op (some 75) (.mov (.t 74)), .andor 83 true 18 75 [.op (some 76) (.fadr (.t 1) 5), .op (some 77) (.load1 (.t 76)), .op (some 78) (.fadr (.t 1) 1), .op (some 79) (.load1 (.t 78)), .op (some 80) (.bin .sub (.t 79) (.k (.int .i64 1))), .call (some 81) 23 [.t 77, .k (.int .i64 0), .t 80], .op (some 82) (.not (.t 81))] (.t 82)] (.t 83)])
     (.keep [1, 3, 84] (.cond (.t 84)
     (.seq (.ops [.op (some 2) (.mov (.k (.bool false)))])
      (.keep [2] (.ret)))
     (.skip))))
    (.keep [1, 3] (.seq (.ops [.op (some 85) (.fadr (.t 3) 6),
      .op none (.store 1 (.t 85) (.k (.int .i64 0))),
      .op (some 86) (.fadr (.t 3) 7),
      .op none (.store 1 (.t 86) (.k (.int .i64 0))),
      .op (some 87) (.fadr (.t 3) 9),
      .op none (.store 1 (.t 87) (.k (.str [])))])
    (.keep [1, 3] (.seq (.ops [.op (some 88) (.fadr (.t 1) 3),
      .op (some 89) (.load1 (.t 88)),
      .op (some 90) (.bin .eql (.t 89) (.k (.int .i64 2)))])
    (.keep [1, 3, 90] (.cond (.t 90)
     (.ops [.op (some 91) (.fadr (.t 3) 8),
      .op none (.store 1 (.t 91) (.k (.str [])))])
     (.ops [.op (some 92) (.fadr (.t 3) 5),
      .op none (.store 1 (.t 92) (.k (.int .i64 0)))]))))))))))
    (.skip))))))))))
 (.keep [1, 3] (.seq (.ops [.op (some 93) (.fadr (.t 1) 3),
   .op (some 94) (.load1 (.t 93)),
   .call (some 95) 23 [.t 94, .k (.int .i64 1), .k (.int .i64 5)],
   .op (some 96) (.mov (.t 95)),
   .andor 100 true 3 96 [.op (some 97) (.loadN 10 (.t 3)), .op (some 98) (.build [.int .i64 0, .int .i64 0, .int .i64 0, .int .i64 0, .int .i64 0, .int .i64 0, .int .i64 0, .int .i64 0, .str [], .str []] []), .op (some 99) (.eqs false [0, 0, 0, 0, 0, 0, 0, 0, 2, 2] (.t 97) (.t 98))] (.t 99),
   .op (some 101) (.mov (.t 100)),
   .andor 105 true 8 101 [.op (some 102) (.fadr (.t 1) 2), .op (some 103) (.load1 (.t 102)), .call (some 104) 23 [.t 103, .k (.int .i64 1), .k (.int .i64 60)]] (.t 104),
   .op (some 106) (.mov (.t 105)),
   .andor 113 true 13 106 [.op (some 107) (.fadr (.t 1) 4), .op (some 108) (.load1 (.t 107)), .op (some 109) (.fadr (.t 1) 1), .op (some 110) (.load1 (.t 109)), .op (some 111) (.bin .sub (.t 110) (.k (.int .i64 1))), .call (some 112) 23 [.t 108, .k (.int .i64 0), .t 111]] (.t 112),
   .op (some 114) (.mov (.t 113)),
   .andor 122 true 21 114 [.op (some 115) (.fadr (.t 1) 4), .op (some 116) (.load1 (.t 115)), .op (some 117) (.bin .eql (.t 116) (.k (.int .i64 0))), .op (some 118) (.fadr (.t 1) 3), .op (some 119) (.load1 (.t 118)), .op (some 120) (.bin .eql (.t 119) (.k (.int .i64 1))), .op (some 121) (.eqb false (.t 117) (.t 120))] (.t 121),
   .op (some 2) (.mov (.t 122))])
 (.keep [2] (.ret))))))))))))
theorem k_c_RecordOK_fits : fitsF Try.prog 54 ⟨123, k_c_RecordOK, [.t 2]⟩ = true := by kernel_rfl
set_option maxHeartbeats 4000000 in
theorem c_RecordOK {x : GLogRecord} (hl : x.After.length ≤ 1048576) : Con Try.prog noMv 54 [x.av] [] (fun r h => r = bool (recOK x) ∧ h = []) := by
 refine con_of2 k_c_RecordOK_fits rfl fun C hP hmv => ?_
 unfold k_c_RecordOK
 refine cx_seq ?_
 refine cx_ops ?_
 refine ax_e (e_box rfl rfl (by decide) rfl rfl rfl) ?_
 refine ax_q (q_mov rfl) ?_
 refine ax_nil ?_
 refine cx_keep rfl rfl ?_
 refine cx_seq ?_
 refine cx_seq ?_
 refine cx_ops ?_
 refine ax_q (q_fadr_ptr rfl) ?_
 refine ax_q (q_load1_ptr rfl rfl rfl) ?_
 first | refine ax_call rfl (vc_pure0 (c_inRange  ) hP rfl rfl ?_) | refine ax_call rfl (vc_lend0 (c_inRange  ) hP (by repeat (first | exact lal_id _ rfl | exact LAL.nil | refine LAL.cons ?_ ?_ | exact la_id _ rfl | exact LA.lend (lend_whole rfl (by first | (simp; done) | (rw [List.length_map]; rfl))) | refine LA.agg ?_ | refine LA.fn ?_ | refine LA.lend ?_ | exact Lend.d _ | exact Lend.zs _ | exact lend_whole rfl (by first | (simp; done) | (rw [List.length_map]; rfl)) | refine Lend.ptr rfl ?_ | refine Lend.fn ?_ | exact LendL.nil | refine LendL.cons ?_ ?_)) rfl rfl ?_)
 refine ax_q (q_not rfl) ?_
 refine ax_q (q_mov rfl) ?_
 apply ax_or rfl rfl
 ·
  intro g
  have g := bF g
  refine ax_q (q_fadr_ptr rfl) ?_
  refine ax_q (q_load1_ptr rfl rfl rfl) ?_
  first | refine ax_call rfl (vc_pure0 (c_inRange  ) hP rfl rfl ?_) | refine ax_call rfl (vc_lend0 (c_inRange  ) hP (by repeat (first | exact lal_id _ rfl | exact LAL.nil | refine LAL.cons ?_ ?_ | exact la_id _ rfl | exact LA.lend (lend_whole rfl (by first | (simp; done) | (rw [List.length_map]; rfl))) | refine LA.agg ?_ | refine LA.fn ?_ | refine LA.lend ?_ | exact Lend.d _ | exact Lend.zs _ | exact lend_whole rfl (by first | (simp; done) | (rw [List.length_map]; rfl)) | refine Lend.ptr rfl ?_ | refine Lend.fn ?_ | exact LendL.nil | refine LendL.cons ?_ ?_)) rfl rfl ?_)
  refine ax_q (q_not rfl) ?_
  exact ax_nil ⟨rfl, by repeat (first | exact trivial | refine ⟨rfl, ?_⟩ | refine ⟨?_, ?_⟩)⟩
 refine ax_nil ?_
 refine cx_keep rfl rfl ?_
 refine cx_cond rfl (fun h0 => ?_) (fun h0 => ?_)
 ·
  have h0 : (!inR x.Epoch 1 60 || !inR x.Lsn 1 60) = true := h0
  have e0 : recOK x = false := hd_in (by
   rw [Bool.or_eq_true, Bool.not_eq_true', Bool.not_eq_true'] at h0
   exact h0.imp (fun q => fun c => by rw [inR_iff.2 c] at q; cases q) (fun q => fun c => by rw [inR_iff.2 c] at q; cases q))
  refine cx_seq ?_
  refine cx_ops ?_
  refine ax_q (q_mov rfl) ?_
  refine ax_nil ?_
  refine cx_keep rfl rfl ?_
  refine cx_ret (ret0 rfl rfl ?_)
  exact ⟨by rw [e0]; rfl, rfl⟩
 ·
  have h0 : (!inR x.Epoch 1 60 || !inR x.Lsn 1 60) = false := h0
  have hi : (1 ≤ x.Epoch ∧ x.Epoch ≤ 60) ∧ (1 ≤ x.Lsn ∧ x.Lsn ≤ 60) := by
   rw [Bool.or_eq_false_iff, Bool.not_eq_false', Bool.not_eq_false', inR_iff, inR_iff] at h0
   exact h0
  refine cx_skip ?_
  refine cx_keep rfl rfl ?_
  refine cx_seq ?_
  refine cx_ops ?_
  refine ax_q (q_ldN rfl rfl rfl) ?_
  refine ax_e (e_alloc (by decide) rfl rfl) ?_
  refine ax_e (e_st rfl rfl rfl rfl rfl rfl rfl) ?_
  refine ax_nil ?_
  refine cx_keep rfl rfl ?_
  refine cx_seq ?_
  refine cx_ops ?_
  refine ax_q (q_fadr_ptr rfl) ?_
  refine ax_e (e_st rfl rfl rfl rfl rfl rfl rfl) ?_
  refine ax_q (q_fadr_ptr rfl) ?_
  refine ax_e (e_st rfl rfl rfl rfl rfl rfl rfl) ?_
  refine ax_q (q_fadr_ptr rfl) ?_
  refine ax_e (e_st rfl rfl rfl rfl rfl rfl rfl) ?_
  refine ax_q (q_fadr_ptr rfl) ?_
  refine ax_e (e_st rfl rfl rfl rfl rfl rfl rfl) ?_
  refine ax_q (q_fadr_ptr rfl) ?_
  refine ax_e (e_st rfl rfl rfl rfl rfl rfl rfl) ?_
  refine ax_nil ?_
  refine cx_keep rfl rfl ?_
  refine cx_seq ?_
  refine cx_seq ?_
  refine cx_ops ?_
  refine ax_q (q_fadr_ptr rfl) ?_
  refine ax_q (q_load1_ptr rfl rfl rfl) ?_
  refine ax_nil ?_
  refine cx_keep rfl rfl ?_
  refine cx_block ?_
  refine cx_seq ?_
  refine cx_ops ?_
  refine ax_q (q_ibin rfl rfl rfl) ?_
  refine ax_q (q_mov rfl) ?_
  refine ax_nil ?_
  refine cx_keep rfl rfl ?_
  refine cx_cond rfl (fun h1 => ?_) (fun h1 => ?_)
  ·
   have h1 := dT h1
   refine cx_seq ?_
   refine cx_ops ?_
   refine ax_q (q_fadr_ptr rfl) ?_
   refine ax_e (e_st rfl rfl rfl rfl rfl rfl rfl) ?_
   refine ax_nil ?_
   refine cx_keep rfl rfl ?_
   refine cx_seq ?_
   refine cx_ops ?_
   refine ax_q (q_fadr_ptr rfl) ?_
   refine ax_q (q_load1_ptr rfl rfl rfl) ?_
   refine ax_q (q_ibin rfl rfl rfl) ?_
   refine ax_q (q_mov rfl) ?_
   apply ax_and rfl rfl
   ·
    intro g
    have g := dT g
    refine ax_q (q_fadr_ptr rfl) ?_
    refine ax_q (q_load1_ptr rfl rfl rfl) ?_
    refine ax_q (q_ibin rfl rfl rfl) ?_
    exact ax_nil ⟨rfl, by repeat (first | exact trivial | refine ⟨rfl, ?_⟩ | refine ⟨?_, ?_⟩)⟩
   refine ax_q (q_mov rfl) ?_
   apply ax_and rfl rfl
   ·
    intro g
    have g := (fun h => And.intro (dT (and_T h).1) (dT (and_T h).2)) g
    refine ax_q (q_ldN rfl rfl rfl) ?_
    refine ax_q (q_build rfl) ?_
    refine ax_q (GLogRecord.q_eqs (a := rest6 x) (b := .zero) rfl rfl) ?_
    exact ax_nil ⟨rfl, by repeat (first | exact trivial | refine ⟨rfl, ?_⟩ | refine ⟨?_, ?_⟩)⟩
   refine ax_q (q_mov rfl) ?_
   apply ax_and rfl rfl
   ·
    intro g
    have g := (fun h => And.intro ((fun h => And.intro (dT (and_T h).1) (dT (and_T h).2)) (and_T h).1) (id (and_T h).2)) g
    refine ax_q (q_fadr_ptr rfl) ?_
    refine ax_q (q_load1_ptr rfl rfl rfl) ?_
    refine ax_q (q_fadr_ptr rfl) ?_
    refine ax_q (q_load1_ptr rfl rfl rfl) ?_
    first | refine ax_call rfl (vc_pure0 (c_isCheck (t := x.After) (lsn := x.Lsn) ?_ ?_) hP rfl rfl ?_) | refine ax_call rfl (vc_lend0 (c_isCheck (t := x.After) (lsn := x.Lsn) ?_ ?_) hP (by repeat (first | exact lal_id _ rfl | exact LAL.nil | refine LAL.cons ?_ ?_ | exact la_id _ rfl | exact LA.lend (lend_whole rfl (by first | (simp; done) | (rw [List.length_map]; rfl))) | refine LA.agg ?_ | refine LA.fn ?_ | refine LA.lend ?_ | exact Lend.d _ | exact Lend.zs _ | exact lend_whole rfl (by first | (simp; done) | (rw [List.length_map]; rfl)) | refine Lend.ptr rfl ?_ | refine Lend.fn ?_ | exact LendL.nil | refine LendL.cons ?_ ?_)) rfl rfl ?_)
    ·
     first | assumption | omega | (simp; done) | (simp; omega)
    ·
     first | assumption | omega | (simp; done) | (simp; omega)
    exact ax_nil ⟨rfl, by repeat (first | exact trivial | refine ⟨rfl, ?_⟩ | refine ⟨?_, ?_⟩)⟩
   refine ax_q (q_mov rfl) ?_
   refine ax_nil ?_
   refine cx_keep rfl rfl ?_
   refine cx_ret (ret0 rfl rfl ?_)
   exact ⟨congrArg AM.bool (recI_6 hi h1), rfl⟩
  ·
   have h1 := dF h1
   refine cx_seq ?_
   refine cx_seq ?_
   refine cx_ops ?_
   refine ax_q (q_ibin rfl rfl rfl) ?_
   refine ax_q (q_mov rfl) ?_
   refine ax_nil ?_
   refine cx_keep rfl rfl ?_
   refine cx_cond rfl (fun h2 => ?_) (fun h2 => ?_)
   ·
    have h2 := dT h2
    refine cx_skip ?_
    refine cx_keep rfl rfl ?_
    refine cx_cond rfl (fun h3 => ?_) (fun h3 => ?_)
    ·
     have h3 := dT h3
     skip
     refine cx_seq ?_
     refine cx_ops ?_
     refine ax_q (q_fadr_ptr rfl) ?_
     refine ax_q (q_load1_ptr rfl rfl rfl) ?_
     first | refine ax_call rfl (vc_pure0 (c_isPlace (n := x.Page) (k := 8) ?_) hP rfl rfl ?_) | refine ax_call rfl (vc_lend0 (c_isPlace (n := x.Page) (k := 8) ?_) hP (by repeat (first | exact lal_id _ rfl | exact LAL.nil | refine LAL.cons ?_ ?_ | exact la_id _ rfl | exact LA.lend (lend_whole rfl (by first | (simp; done) | (rw [List.length_map]; rfl))) | refine LA.agg ?_ | refine LA.fn ?_ | refine LA.lend ?_ | exact Lend.d _ | exact Lend.zs _ | exact lend_whole rfl (by first | (simp; done) | (rw [List.length_map]; rfl)) | refine Lend.ptr rfl ?_ | refine Lend.fn ?_ | exact LendL.nil | refine LendL.cons ?_ ?_)) rfl rfl ?_)
     ·
      first | assumption | omega | (simp; done) | (simp; omega)
     refine ax_q (q_mov rfl) ?_
     apply ax_and rfl rfl
     ·
      intro g
      refine ax_q (q_fadr_ptr rfl) ?_
      refine ax_q (q_load1_ptr rfl rfl rfl) ?_
      first | refine ax_call rfl (vc_pure0 (c_isPlace (n := x.Slot) (k := 4) ?_) hP rfl rfl ?_) | refine ax_call rfl (vc_lend0 (c_isPlace (n := x.Slot) (k := 4) ?_) hP (by repeat (first | exact lal_id _ rfl | exact LAL.nil | refine LAL.cons ?_ ?_ | exact la_id _ rfl | exact LA.lend (lend_whole rfl (by first | (simp; done) | (rw [List.length_map]; rfl))) | refine LA.agg ?_ | refine LA.fn ?_ | refine LA.lend ?_ | exact Lend.d _ | exact Lend.zs _ | exact lend_whole rfl (by first | (simp; done) | (rw [List.length_map]; rfl)) | refine Lend.ptr rfl ?_ | refine Lend.fn ?_ | exact LendL.nil | refine LendL.cons ?_ ?_)) rfl rfl ?_)
      ·
       first | assumption | omega | (simp; done) | (simp; omega)
      exact ax_nil ⟨rfl, by repeat (first | exact trivial | refine ⟨rfl, ?_⟩ | refine ⟨?_, ?_⟩)⟩
     refine ax_q (q_mov rfl) ?_
     refine ax_nil ?_
     refine cx_keep rfl rfl ?_
     refine cx_seq ?_
     refine cx_seq ?_
     refine cx_ops ?_
     refine ax_q (q_mov rfl) ?_
     refine ax_q (q_not rfl) ?_
     refine ax_q (q_mov rfl) ?_
     apply ax_or rfl rfl
     ·
      intro g
      have g := (fun h => (fun h => And.intro (id (and_T h).1) (id (and_T h).2)) (bF h)) g
      refine ax_q (q_fadr_ptr rfl) ?_
      refine ax_q (q_load1_ptr rfl rfl rfl) ?_
      refine ax_q (q_lenT rfl) ?_
      refine ax_q (q_ibin rfl rfl rfl) ?_
      exact ax_nil ⟨rfl, by repeat (first | exact trivial | refine ⟨rfl, ?_⟩ | refine ⟨?_, ?_⟩)⟩
     refine ax_q (q_mov rfl) ?_
     apply ax_or rfl rfl
     ·
      intro g
      have g := (fun h => And.intro ((fun h => (fun h => And.intro (id (and_T h).1) (id (and_T h).2)) (bF h)) (or_F h).1) (dF (or_F h).2)) g
      refine ax_q (q_fadr_ptr rfl) ?_
      refine ax_q (q_load1_ptr rfl rfl rfl) ?_
      refine ax_q (q_lenT rfl) ?_
      refine ax_q (q_ibin rfl rfl rfl) ?_
      exact ax_nil ⟨rfl, by repeat (first | exact trivial | refine ⟨rfl, ?_⟩ | refine ⟨?_, ?_⟩)⟩
     refine ax_q (q_mov rfl) ?_
     apply ax_or rfl rfl
     ·
      intro g
      have g := (fun h => And.intro ((fun h => And.intro ((fun h => (fun h => And.intro (id (and_T h).1) (id (and_T h).2)) (bF h)) (or_F h).1) (dF (or_F h).2)) (or_F h).1) (dF (or_F h).2)) g
      refine ax_q (q_fadr_ptr rfl) ?_
      refine ax_q (q_load1_ptr rfl rfl rfl) ?_
      refine ax_q (q_ibin rfl rfl rfl) ?_
      refine ax_q (q_mov rfl) ?_
      apply ax_and rfl rfl
      ·
       intro g
       have g := dT g
       refine ax_q (q_fadr_ptr rfl) ?_
       refine ax_q (q_load1_ptr rfl rfl rfl) ?_
       refine ax_q (q_fadr_ptr rfl) ?_
       refine ax_q (q_load1_ptr rfl rfl rfl) ?_
       refine ax_q (q_sub rfl rfl (by omega)) ?_
       first | refine ax_call rfl (vc_pure0 (c_inRange  ) hP rfl rfl ?_) | refine ax_call rfl (vc_lend0 (c_inRange  ) hP (by repeat (first | exact lal_id _ rfl | exact LAL.nil | refine LAL.cons ?_ ?_ | exact la_id _ rfl | exact LA.lend (lend_whole rfl (by first | (simp; done) | (rw [List.length_map]; rfl))) | refine LA.agg ?_ | refine LA.fn ?_ | refine LA.lend ?_ | exact Lend.d _ | exact Lend.zs _ | exact lend_whole rfl (by first | (simp; done) | (rw [List.length_map]; rfl)) | refine Lend.ptr rfl ?_ | refine Lend.fn ?_ | exact LendL.nil | refine LendL.cons ?_ ?_)) rfl rfl ?_)
       refine ax_q (q_not rfl) ?_
       exact ax_nil ⟨rfl, by repeat (first | exact trivial | refine ⟨rfl, ?_⟩ | refine ⟨?_, ?_⟩)⟩
      exact ax_nil ⟨rfl, by repeat (first | exact trivial | refine ⟨rfl, ?_⟩ | refine ⟨?_, ?_⟩)⟩
     refine ax_nil ?_
     refine cx_keep rfl rfl ?_
     refine cx_cond rfl (fun h4 => ?_) (fun h4 => ?_)
     ·
      have h4 : badU x = true := h4
      refine cx_seq ?_
      refine cx_ops ?_
      refine ax_q (q_mov rfl) ?_
      refine ax_nil ?_
      refine cx_keep rfl rfl ?_
      refine cx_ret (ret0 rfl rfl ?_)
      exact ⟨by rw [recI_bad (.inl h2) h4]; rfl, rfl⟩
     ·
      have h4 : badU x = false := h4
      refine cx_skip ?_
      refine cx_keep rfl rfl ?_
      refine cx_seq ?_
      refine cx_ops ?_
      refine ax_q (q_fadr_ptr rfl) ?_
      refine ax_e (e_st rfl rfl rfl rfl rfl rfl rfl) ?_
      refine ax_q (q_fadr_ptr rfl) ?_
      refine ax_e (e_st rfl rfl rfl rfl rfl rfl rfl) ?_
      refine ax_q (q_fadr_ptr rfl) ?_
      refine ax_e (e_st rfl rfl rfl rfl rfl rfl rfl) ?_
      refine ax_nil ?_
      refine cx_keep rfl rfl ?_
      refine cx_seq ?_
      refine cx_ops ?_
      refine ax_q (q_fadr_ptr rfl) ?_
      refine ax_q (q_load1_ptr rfl rfl rfl) ?_
      refine ax_q (q_ibin rfl rfl rfl) ?_
      refine ax_nil ?_
      refine cx_keep rfl rfl ?_
      refine cx_cond rfl (fun h5 => ?_) (fun h5 => ?_)
      ·
       have h5 := dT h5
       refine cx_ops ?_
       refine ax_q (q_fadr_ptr rfl) ?_
       refine ax_e (e_st rfl rfl rfl rfl rfl rfl rfl) ?_
       refine ax_nil ?_
       refine cx_keep rfl rfl ?_
       refine cx_seq ?_
       refine cx_ops ?_
       refine ax_q (q_fadr_ptr rfl) ?_
       refine ax_q (q_load1_ptr rfl rfl rfl) ?_
       first | refine ax_call rfl (vc_pure0 (c_inRange  ) hP rfl rfl ?_) | refine ax_call rfl (vc_lend0 (c_inRange  ) hP (by repeat (first | exact lal_id _ rfl | exact LAL.nil | refine LAL.cons ?_ ?_ | exact la_id _ rfl | exact LA.lend (lend_whole rfl (by first | (simp; done) | (rw [List.length_map]; rfl))) | refine LA.agg ?_ | refine LA.fn ?_ | refine LA.lend ?_ | exact Lend.d _ | exact Lend.zs _ | exact lend_whole rfl (by first | (simp; done) | (rw [List.length_map]; rfl)) | refine Lend.ptr rfl ?_ | refine Lend.fn ?_ | exact LendL.nil | refine LendL.cons ?_ ?_)) rfl rfl ?_)
       refine ax_q (q_mov rfl) ?_
       apply ax_and rfl rfl
       ·
        intro g
        refine ax_q (q_ldN rfl rfl rfl) ?_
        refine ax_q (q_build rfl) ?_
        refine ax_q (GLogRecord.q_eqs (a := rest2 x) (b := .zero) rfl rfl) ?_
        exact ax_nil ⟨rfl, by repeat (first | exact trivial | refine ⟨rfl, ?_⟩ | refine ⟨?_, ?_⟩)⟩
       refine ax_q (q_mov rfl) ?_
       apply ax_and rfl rfl
       ·
        intro g
        have g := (fun h => And.intro (id (and_T h).1) (id (and_T h).2)) g
        refine ax_q (q_fadr_ptr rfl) ?_
        refine ax_q (q_load1_ptr rfl rfl rfl) ?_
        first | refine ax_call rfl (vc_pure0 (c_inRange  ) hP rfl rfl ?_) | refine ax_call rfl (vc_lend0 (c_inRange  ) hP (by repeat (first | exact lal_id _ rfl | exact LAL.nil | refine LAL.cons ?_ ?_ | exact la_id _ rfl | exact LA.lend (lend_whole rfl (by first | (simp; done) | (rw [List.length_map]; rfl))) | refine LA.agg ?_ | refine LA.fn ?_ | refine LA.lend ?_ | exact Lend.d _ | exact Lend.zs _ | exact lend_whole rfl (by first | (simp; done) | (rw [List.length_map]; rfl)) | refine Lend.ptr rfl ?_ | refine Lend.fn ?_ | exact LendL.nil | refine LendL.cons ?_ ?_)) rfl rfl ?_)
        exact ax_nil ⟨rfl, by repeat (first | exact trivial | refine ⟨rfl, ?_⟩ | refine ⟨?_, ?_⟩)⟩
       refine ax_q (q_mov rfl) ?_
       apply ax_and rfl rfl
       ·
        intro g
        have g := (fun h => And.intro ((fun h => And.intro (id (and_T h).1) (id (and_T h).2)) (and_T h).1) (id (and_T h).2)) g
        refine ax_q (q_fadr_ptr rfl) ?_
        refine ax_q (q_load1_ptr rfl rfl rfl) ?_
        refine ax_q (q_fadr_ptr rfl) ?_
        refine ax_q (q_load1_ptr rfl rfl rfl) ?_
        refine ax_q (q_sub rfl rfl (by omega)) ?_
        first | refine ax_call rfl (vc_pure0 (c_inRange  ) hP rfl rfl ?_) | refine ax_call rfl (vc_lend0 (c_inRange  ) hP (by repeat (first | exact lal_id _ rfl | exact LAL.nil | refine LAL.cons ?_ ?_ | exact la_id _ rfl | exact LA.lend (lend_whole rfl (by first | (simp; done) | (rw [List.length_map]; rfl))) | refine LA.agg ?_ | refine LA.fn ?_ | refine LA.lend ?_ | exact Lend.d _ | exact Lend.zs _ | exact lend_whole rfl (by first | (simp; done) | (rw [List.length_map]; rfl)) | refine Lend.ptr rfl ?_ | refine Lend.fn ?_ | exact LendL.nil | refine LendL.cons ?_ ?_)) rfl rfl ?_)
        exact ax_nil ⟨rfl, by repeat (first | exact trivial | refine ⟨rfl, ?_⟩ | refine ⟨?_, ?_⟩)⟩
       refine ax_q (q_mov rfl) ?_
       apply ax_and rfl rfl
       ·
        intro g
        have g := (fun h => And.intro ((fun h => And.intro ((fun h => And.intro (id (and_T h).1) (id (and_T h).2)) (and_T h).1) (id (and_T h).2)) (and_T h).1) (id (and_T h).2)) g
        refine ax_q (q_fadr_ptr rfl) ?_
        refine ax_q (q_load1_ptr rfl rfl rfl) ?_
        refine ax_q (q_ibin rfl rfl rfl) ?_
        refine ax_q (q_fadr_ptr rfl) ?_
        refine ax_q (q_load1_ptr rfl rfl rfl) ?_
        refine ax_q (q_ibin rfl rfl rfl) ?_
        refine ax_q (q_eqb rfl rfl) ?_
        exact ax_nil ⟨rfl, by repeat (first | exact trivial | refine ⟨rfl, ?_⟩ | refine ⟨?_, ?_⟩)⟩
       refine ax_q (q_mov rfl) ?_
       refine ax_nil ?_
       refine cx_keep rfl rfl ?_
       refine cx_ret (ret0 rfl rfl ?_)
       exact ⟨congrArg AM.bool (recI_2 hi h2 h4), rfl⟩
      ·
       have h5 := dF h5
       exact absurd h2 h5
    ·
     have h3 := dF h3
     exact absurd h2 h3
   ·
    have h2 := dF h2
    refine cx_ops ?_
    refine ax_q (q_ibin rfl rfl rfl) ?_
    refine ax_q (q_mov rfl) ?_
    refine ax_nil ?_
    refine cx_keep rfl rfl ?_
    refine cx_cond rfl (fun h3 => ?_) (fun h3 => ?_)
    ·
     have h3 := dT h3
     refine cx_seq ?_
     refine cx_ops ?_
     refine ax_q (q_fadr_ptr rfl) ?_
     refine ax_q (q_load1_ptr rfl rfl rfl) ?_
     first | refine ax_call rfl (vc_pure0 (c_isPlace (n := x.Page) (k := 8) ?_) hP rfl rfl ?_) | refine ax_call rfl (vc_lend0 (c_isPlace (n := x.Page) (k := 8) ?_) hP (by repeat (first | exact lal_id _ rfl | exact LAL.nil | refine LAL.cons ?_ ?_ | exact la_id _ rfl | exact LA.lend (lend_whole rfl (by first | (simp; done) | (rw [List.length_map]; rfl))) | refine LA.agg ?_ | refine LA.fn ?_ | refine LA.lend ?_ | exact Lend.d _ | exact Lend.zs _ | exact lend_whole rfl (by first | (simp; done) | (rw [List.length_map]; rfl)) | refine Lend.ptr rfl ?_ | refine Lend.fn ?_ | exact LendL.nil | refine LendL.cons ?_ ?_)) rfl rfl ?_)
     ·
      first | assumption | omega | (simp; done) | (simp; omega)
     refine ax_q (q_mov rfl) ?_
     apply ax_and rfl rfl
     ·
      intro g
      refine ax_q (q_fadr_ptr rfl) ?_
      refine ax_q (q_load1_ptr rfl rfl rfl) ?_
      first | refine ax_call rfl (vc_pure0 (c_isPlace (n := x.Slot) (k := 4) ?_) hP rfl rfl ?_) | refine ax_call rfl (vc_lend0 (c_isPlace (n := x.Slot) (k := 4) ?_) hP (by repeat (first | exact lal_id _ rfl | exact LAL.nil | refine LAL.cons ?_ ?_ | exact la_id _ rfl | exact LA.lend (lend_whole rfl (by first | (simp; done) | (rw [List.length_map]; rfl))) | refine LA.agg ?_ | refine LA.fn ?_ | refine LA.lend ?_ | exact Lend.d _ | exact Lend.zs _ | exact lend_whole rfl (by first | (simp; done) | (rw [List.length_map]; rfl)) | refine Lend.ptr rfl ?_ | refine Lend.fn ?_ | exact LendL.nil | refine LendL.cons ?_ ?_)) rfl rfl ?_)
      ·
       first | assumption | omega | (simp; done) | (simp; omega)
      exact ax_nil ⟨rfl, by repeat (first | exact trivial | refine ⟨rfl, ?_⟩ | refine ⟨?_, ?_⟩)⟩
     refine ax_q (q_mov rfl) ?_
     refine ax_nil ?_
     refine cx_keep rfl rfl ?_
     refine cx_seq ?_
     refine cx_seq ?_
     refine cx_ops ?_
     refine ax_q (q_mov rfl) ?_
     refine ax_q (q_not rfl) ?_
     refine ax_q (q_mov rfl) ?_
     apply ax_or rfl rfl
     ·
      intro g
      have g := (fun h => (fun h => And.intro (id (and_T h).1) (id (and_T h).2)) (bF h)) g
      refine ax_q (q_fadr_ptr rfl) ?_
      refine ax_q (q_load1_ptr rfl rfl rfl) ?_
      refine ax_q (q_lenT rfl) ?_
      refine ax_q (q_ibin rfl rfl rfl) ?_
      exact ax_nil ⟨rfl, by repeat (first | exact trivial | refine ⟨rfl, ?_⟩ | refine ⟨?_, ?_⟩)⟩
     refine ax_q (q_mov rfl) ?_
     apply ax_or rfl rfl
     ·
      intro g
      have g := (fun h => And.intro ((fun h => (fun h => And.intro (id (and_T h).1) (id (and_T h).2)) (bF h)) (or_F h).1) (dF (or_F h).2)) g
      refine ax_q (q_fadr_ptr rfl) ?_
      refine ax_q (q_load1_ptr rfl rfl rfl) ?_
      refine ax_q (q_lenT rfl) ?_
      refine ax_q (q_ibin rfl rfl rfl) ?_
      exact ax_nil ⟨rfl, by repeat (first | exact trivial | refine ⟨rfl, ?_⟩ | refine ⟨?_, ?_⟩)⟩
     refine ax_q (q_mov rfl) ?_
     apply ax_or rfl rfl
     ·
      intro g
      have g := (fun h => And.intro ((fun h => And.intro ((fun h => (fun h => And.intro (id (and_T h).1) (id (and_T h).2)) (bF h)) (or_F h).1) (dF (or_F h).2)) (or_F h).1) (dF (or_F h).2)) g
      refine ax_q (q_fadr_ptr rfl) ?_
      refine ax_q (q_load1_ptr rfl rfl rfl) ?_
      refine ax_q (q_ibin rfl rfl rfl) ?_
      refine ax_q (q_mov rfl) ?_
      apply ax_and rfl rfl
      ·
       intro g
       have g := dT g
       refine ax_q (q_fadr_ptr rfl) ?_
       refine ax_q (q_load1_ptr rfl rfl rfl) ?_
       refine ax_q (q_fadr_ptr rfl) ?_
       refine ax_q (q_load1_ptr rfl rfl rfl) ?_
       refine ax_q (q_sub rfl rfl (by omega)) ?_
       first | refine ax_call rfl (vc_pure0 (c_inRange  ) hP rfl rfl ?_) | refine ax_call rfl (vc_lend0 (c_inRange  ) hP (by repeat (first | exact lal_id _ rfl | exact LAL.nil | refine LAL.cons ?_ ?_ | exact la_id _ rfl | exact LA.lend (lend_whole rfl (by first | (simp; done) | (rw [List.length_map]; rfl))) | refine LA.agg ?_ | refine LA.fn ?_ | refine LA.lend ?_ | exact Lend.d _ | exact Lend.zs _ | exact lend_whole rfl (by first | (simp; done) | (rw [List.length_map]; rfl)) | refine Lend.ptr rfl ?_ | refine Lend.fn ?_ | exact LendL.nil | refine LendL.cons ?_ ?_)) rfl rfl ?_)
       refine ax_q (q_not rfl) ?_
       exact ax_nil ⟨rfl, by repeat (first | exact trivial | refine ⟨rfl, ?_⟩ | refine ⟨?_, ?_⟩)⟩
      exact ax_nil ⟨rfl, by repeat (first | exact trivial | refine ⟨rfl, ?_⟩ | refine ⟨?_, ?_⟩)⟩
     refine ax_nil ?_
     refine cx_keep rfl rfl ?_
     refine cx_cond rfl (fun h4 => ?_) (fun h4 => ?_)
     ·
      have h4 : badU x = true := h4
      refine cx_seq ?_
      refine cx_ops ?_
      refine ax_q (q_mov rfl) ?_
      refine ax_nil ?_
      refine cx_keep rfl rfl ?_
      refine cx_ret (ret0 rfl rfl ?_)
      exact ⟨by rw [recI_bad (.inr h3) h4]; rfl, rfl⟩
     ·
      have h4 : badU x = false := h4
      refine cx_skip ?_
      refine cx_keep rfl rfl ?_
      refine cx_seq ?_
      refine cx_ops ?_
      refine ax_q (q_fadr_ptr rfl) ?_
      refine ax_e (e_st rfl rfl rfl rfl rfl rfl rfl) ?_
      refine ax_q (q_fadr_ptr rfl) ?_
      refine ax_e (e_st rfl rfl rfl rfl rfl rfl rfl) ?_
      refine ax_q (q_fadr_ptr rfl) ?_
      refine ax_e (e_st rfl rfl rfl rfl rfl rfl rfl) ?_
      refine ax_nil ?_
      refine cx_keep rfl rfl ?_
      refine cx_seq ?_
      refine cx_ops ?_
      refine ax_q (q_fadr_ptr rfl) ?_
      refine ax_q (q_load1_ptr rfl rfl rfl) ?_
      refine ax_q (q_ibin rfl rfl rfl) ?_
      refine ax_nil ?_
      refine cx_keep rfl rfl ?_
      refine cx_cond rfl (fun h5 => ?_) (fun h5 => ?_)
      ·
       have h5 := dT h5
       exact absurd h5 h2
      ·
       have h5 := dF h5
       refine cx_ops ?_
       refine ax_q (q_fadr_ptr rfl) ?_
       refine ax_e (e_st rfl rfl rfl rfl rfl rfl rfl) ?_
       refine ax_nil ?_
       refine cx_keep rfl rfl ?_
       refine cx_seq ?_
       refine cx_ops ?_
       refine ax_q (q_fadr_ptr rfl) ?_
       refine ax_q (q_load1_ptr rfl rfl rfl) ?_
       first | refine ax_call rfl (vc_pure0 (c_inRange  ) hP rfl rfl ?_) | refine ax_call rfl (vc_lend0 (c_inRange  ) hP (by repeat (first | exact lal_id _ rfl | exact LAL.nil | refine LAL.cons ?_ ?_ | exact la_id _ rfl | exact LA.lend (lend_whole rfl (by first | (simp; done) | (rw [List.length_map]; rfl))) | refine LA.agg ?_ | refine LA.fn ?_ | refine LA.lend ?_ | exact Lend.d _ | exact Lend.zs _ | exact lend_whole rfl (by first | (simp; done) | (rw [List.length_map]; rfl)) | refine Lend.ptr rfl ?_ | refine Lend.fn ?_ | exact LendL.nil | refine LendL.cons ?_ ?_)) rfl rfl ?_)
       refine ax_q (q_mov rfl) ?_
       apply ax_and rfl rfl
       ·
        intro g
        refine ax_q (q_ldN rfl rfl rfl) ?_
        refine ax_q (q_build rfl) ?_
        refine ax_q (GLogRecord.q_eqs (a := rest3 x) (b := .zero) rfl rfl) ?_
        exact ax_nil ⟨rfl, by repeat (first | exact trivial | refine ⟨rfl, ?_⟩ | refine ⟨?_, ?_⟩)⟩
       refine ax_q (q_mov rfl) ?_
       apply ax_and rfl rfl
       ·
        intro g
        have g := (fun h => And.intro (id (and_T h).1) (id (and_T h).2)) g
        refine ax_q (q_fadr_ptr rfl) ?_
        refine ax_q (q_load1_ptr rfl rfl rfl) ?_
        first | refine ax_call rfl (vc_pure0 (c_inRange  ) hP rfl rfl ?_) | refine ax_call rfl (vc_lend0 (c_inRange  ) hP (by repeat (first | exact lal_id _ rfl | exact LAL.nil | refine LAL.cons ?_ ?_ | exact la_id _ rfl | exact LA.lend (lend_whole rfl (by first | (simp; done) | (rw [List.length_map]; rfl))) | refine LA.agg ?_ | refine LA.fn ?_ | refine LA.lend ?_ | exact Lend.d _ | exact Lend.zs _ | exact lend_whole rfl (by first | (simp; done) | (rw [List.length_map]; rfl)) | refine Lend.ptr rfl ?_ | refine Lend.fn ?_ | exact LendL.nil | refine LendL.cons ?_ ?_)) rfl rfl ?_)
        exact ax_nil ⟨rfl, by repeat (first | exact trivial | refine ⟨rfl, ?_⟩ | refine ⟨?_, ?_⟩)⟩
       refine ax_q (q_mov rfl) ?_
       apply ax_and rfl rfl
       ·
        intro g
        have g := (fun h => And.intro ((fun h => And.intro (id (and_T h).1) (id (and_T h).2)) (and_T h).1) (id (and_T h).2)) g
        refine ax_q (q_fadr_ptr rfl) ?_
        refine ax_q (q_load1_ptr rfl rfl rfl) ?_
        refine ax_q (q_fadr_ptr rfl) ?_
        refine ax_q (q_load1_ptr rfl rfl rfl) ?_
        refine ax_q (q_sub rfl rfl (by omega)) ?_
        first | refine ax_call rfl (vc_pure0 (c_inRange  ) hP rfl rfl ?_) | refine ax_call rfl (vc_lend0 (c_inRange  ) hP (by repeat (first | exact lal_id _ rfl | exact LAL.nil | refine LAL.cons ?_ ?_ | exact la_id _ rfl | exact LA.lend (lend_whole rfl (by first | (simp; done) | (rw [List.length_map]; rfl))) | refine LA.agg ?_ | refine LA.fn ?_ | refine LA.lend ?_ | exact Lend.d _ | exact Lend.zs _ | exact lend_whole rfl (by first | (simp; done) | (rw [List.length_map]; rfl)) | refine Lend.ptr rfl ?_ | refine Lend.fn ?_ | exact LendL.nil | refine LendL.cons ?_ ?_)) rfl rfl ?_)
        exact ax_nil ⟨rfl, by repeat (first | exact trivial | refine ⟨rfl, ?_⟩ | refine ⟨?_, ?_⟩)⟩
       refine ax_q (q_mov rfl) ?_
       apply ax_and rfl rfl
       ·
        intro g
        have g := (fun h => And.intro ((fun h => And.intro ((fun h => And.intro (id (and_T h).1) (id (and_T h).2)) (and_T h).1) (id (and_T h).2)) (and_T h).1) (id (and_T h).2)) g
        refine ax_q (q_fadr_ptr rfl) ?_
        refine ax_q (q_load1_ptr rfl rfl rfl) ?_
        refine ax_q (q_ibin rfl rfl rfl) ?_
        refine ax_q (q_fadr_ptr rfl) ?_
        refine ax_q (q_load1_ptr rfl rfl rfl) ?_
        refine ax_q (q_ibin rfl rfl rfl) ?_
        refine ax_q (q_eqb rfl rfl) ?_
        exact ax_nil ⟨rfl, by repeat (first | exact trivial | refine ⟨rfl, ?_⟩ | refine ⟨?_, ?_⟩)⟩
       refine ax_q (q_mov rfl) ?_
       refine ax_nil ?_
       refine cx_keep rfl rfl ?_
       refine cx_ret (ret0 rfl rfl ?_)
       exact ⟨congrArg AM.bool (recI_3 hi h3 h4), rfl⟩
    ·
     have h3 := dF h3
     refine cx_skip ?_
     refine cx_keep rfl rfl ?_
     refine cx_seq ?_
     refine cx_ops ?_
     refine ax_q (q_fadr_ptr rfl) ?_
     refine ax_q (q_load1_ptr rfl rfl rfl) ?_
     first | refine ax_call rfl (vc_pure0 (c_inRange  ) hP rfl rfl ?_) | refine ax_call rfl (vc_lend0 (c_inRange  ) hP (by repeat (first | exact lal_id _ rfl | exact LAL.nil | refine LAL.cons ?_ ?_ | exact la_id _ rfl | exact LA.lend (lend_whole rfl (by first | (simp; done) | (rw [List.length_map]; rfl))) | refine LA.agg ?_ | refine LA.fn ?_ | refine LA.lend ?_ | exact Lend.d _ | exact Lend.zs _ | exact lend_whole rfl (by first | (simp; done) | (rw [List.length_map]; rfl)) | refine Lend.ptr rfl ?_ | refine Lend.fn ?_ | exact LendL.nil | refine LendL.cons ?_ ?_)) rfl rfl ?_)
     refine ax_q (q_mov rfl) ?_
     apply ax_and rfl rfl
     ·
      intro g
      refine ax_q (q_ldN rfl rfl rfl) ?_
      refine ax_q (q_build rfl) ?_
      refine ax_q (GLogRecord.q_eqs (a := restO x) (b := .zero) rfl rfl) ?_
      exact ax_nil ⟨rfl, by repeat (first | exact trivial | refine ⟨rfl, ?_⟩ | refine ⟨?_, ?_⟩)⟩
     refine ax_q (q_mov rfl) ?_
     apply ax_and rfl rfl
     ·
      intro g
      have g := (fun h => And.intro (id (and_T h).1) (id (and_T h).2)) g
      refine ax_q (q_fadr_ptr rfl) ?_
      refine ax_q (q_load1_ptr rfl rfl rfl) ?_
      first | refine ax_call rfl (vc_pure0 (c_inRange  ) hP rfl rfl ?_) | refine ax_call rfl (vc_lend0 (c_inRange  ) hP (by repeat (first | exact lal_id _ rfl | exact LAL.nil | refine LAL.cons ?_ ?_ | exact la_id _ rfl | exact LA.lend (lend_whole rfl (by first | (simp; done) | (rw [List.length_map]; rfl))) | refine LA.agg ?_ | refine LA.fn ?_ | refine LA.lend ?_ | exact Lend.d _ | exact Lend.zs _ | exact lend_whole rfl (by first | (simp; done) | (rw [List.length_map]; rfl)) | refine Lend.ptr rfl ?_ | refine Lend.fn ?_ | exact LendL.nil | refine LendL.cons ?_ ?_)) rfl rfl ?_)
      exact ax_nil ⟨rfl, by repeat (first | exact trivial | refine ⟨rfl, ?_⟩ | refine ⟨?_, ?_⟩)⟩
     refine ax_q (q_mov rfl) ?_
     apply ax_and rfl rfl
     ·
      intro g
      have g := (fun h => And.intro ((fun h => And.intro (id (and_T h).1) (id (and_T h).2)) (and_T h).1) (id (and_T h).2)) g
      refine ax_q (q_fadr_ptr rfl) ?_
      refine ax_q (q_load1_ptr rfl rfl rfl) ?_
      refine ax_q (q_fadr_ptr rfl) ?_
      refine ax_q (q_load1_ptr rfl rfl rfl) ?_
      refine ax_q (q_sub rfl rfl (by omega)) ?_
      first | refine ax_call rfl (vc_pure0 (c_inRange  ) hP rfl rfl ?_) | refine ax_call rfl (vc_lend0 (c_inRange  ) hP (by repeat (first | exact lal_id _ rfl | exact LAL.nil | refine LAL.cons ?_ ?_ | exact la_id _ rfl | exact LA.lend (lend_whole rfl (by first | (simp; done) | (rw [List.length_map]; rfl))) | refine LA.agg ?_ | refine LA.fn ?_ | refine LA.lend ?_ | exact Lend.d _ | exact Lend.zs _ | exact lend_whole rfl (by first | (simp; done) | (rw [List.length_map]; rfl)) | refine Lend.ptr rfl ?_ | refine Lend.fn ?_ | exact LendL.nil | refine LendL.cons ?_ ?_)) rfl rfl ?_)
      exact ax_nil ⟨rfl, by repeat (first | exact trivial | refine ⟨rfl, ?_⟩ | refine ⟨?_, ?_⟩)⟩
     refine ax_q (q_mov rfl) ?_
     apply ax_and rfl rfl
     ·
      intro g
      have g := (fun h => And.intro ((fun h => And.intro ((fun h => And.intro (id (and_T h).1) (id (and_T h).2)) (and_T h).1) (id (and_T h).2)) (and_T h).1) (id (and_T h).2)) g
      refine ax_q (q_fadr_ptr rfl) ?_
      refine ax_q (q_load1_ptr rfl rfl rfl) ?_
      refine ax_q (q_ibin rfl rfl rfl) ?_
      refine ax_q (q_fadr_ptr rfl) ?_
      refine ax_q (q_load1_ptr rfl rfl rfl) ?_
      refine ax_q (q_ibin rfl rfl rfl) ?_
      refine ax_q (q_eqb rfl rfl) ?_
      exact ax_nil ⟨rfl, by repeat (first | exact trivial | refine ⟨rfl, ?_⟩ | refine ⟨?_, ?_⟩)⟩
     refine ax_q (q_mov rfl) ?_
     refine ax_nil ?_
     refine cx_keep rfl rfl ?_
     refine cx_ret (ret0 rfl rfl ?_)
     exact ⟨congrArg AM.bool (recI_o hi h1 h2 h3), rfl⟩


/- loop.example/g00332/impl.ReadRecord -/
def k_c_ReadRecord : XCode :=
 .seq (.ops [.op (some 2) (.alloc [.int .i64 0, .int .i64 0, .int .i64 0, .int .i64 0, .int .i64 0, .int .i64 0, .int .i64 0, .int .i64 0, .str [], .str []]),
   .op (some 3) (.mov (.k (.int .i64 0)))])
 (.keep [0, 2] (.seq (.seq (.ops [.op (some 10) (.mov (.t 0)),
   .op (some 11) (.lenS (.t 10)),
   .op (some 12) (.bin .gtr (.t 11) (.k (.int .i64 65536)))])
  (.keep [0, 2, 12] (.cond (.t 12)
  (.seq (.ops [.op (some 13) (.build [.int .i64 0, .int .i64 0, .int .i64 0, .int .i64 0, .int .i64 0, .int .i64 0, .int .i64 0, .int .i64 0, .str [], .str []] []),
    .op none (.store 10 (.t 2) (.t 13)),
    .op (some 3) (.mov (.k (.int .i64 2)))])
   (.keep [2, 3] (.ret)))
  (.skip))))
 (.keep [0, 2] (.seq (.ops [.op (some 15) (.mov (.t 0)),
   .call (some 16) 50 [.t 15],
   .op (some 14) (.mov (.t 16)),
   .op (some 17) (.ext (.t 14) 0),
   .op (some 18) (.ext (.t 14) 1),
   .op (some 4) (.mov (.t 17)),
   .op (some 5) (.mov (.t 18))])
 (.keep [2, 4, 5] (.seq (.seq (.ops [.op (some 19) (.mov (.t 5)),
   .op (some 20) (.not (.t 19))])
  (.keep [2, 4, 20] (.cond (.t 20)
  (.seq (.ops [.op (some 21) (.build [.int .i64 0, .int .i64 0, .int .i64 0, .int .i64 0, .int .i64 0, .int .i64 0, .int .i64 0, .int .i64 0, .str [], .str []] []),
    .op none (.store 10 (.t 2) (.t 21)),
    .op (some 3) (.mov (.k (.int .i64 8)))])
   (.keep [2, 3] (.ret)))
  (.skip))))
 (.keep [2, 4] (.seq (.ops [.op (some 22) (.mov (.t 4)),
   .op (some 23) (.build [.nils 1, .bool false] [(0, 1, .t 22)]),
   .op (some 24) (.box (.t 23)),
   .op (some 6) (.mov (.t 24))])
 (.keep [2, 6] (.seq (.ops [.op (some 25) (.mov (.t 6)),
   .call (some 26) 51 [.t 25],
   .op (some 7) (.mov (.t 26))])
 (.keep [2, 6, 7] (.seq (.ops [.op (some 27) (.mov (.t 6)),
   .call (some 28) 51 [.t 27],
   .op (some 29) (.mov (.t 6)),
   .call (some 30) 51 [.t 29],
   .op (some 31) (.mov (.t 6)),
   .call (some 32) 51 [.t 31],
   .op (some 33) (.mov (.t 6)),
   .call (some 34) 51 [.t 33],
   .op (some 35) (.mov (.t 6)),
   .call (some 36) 51 [.t 35],
   .op (some 37) (.mov (.t 6)),
   .call (some 38) 51 [.t 37],
   .op (some 39) (.mov (.t 6)),
   .call (some 40) 51 [.t 39],
   .op (some 41) (.mov (.t 6)),
   .call (some 42) 51 [.t 41],
   .op (some 43) (.build [.int .i64 0, .int .i64 0, .int .i64 0, .int .i64 0, .int .i64 0, .int .i64 0, .int .i64 0, .int .i64 0, .str [], .str []] [(0, 1, .t 28), (1, 1, .t 30), (2, 1, .t 32), (3, 1, .t 34), (4, 1, .t 36), (5, 1, .t 38), (6, 1, .t 40), (7, 1, .t 42)]),
   .op (some 8) (.alloc [.int .i64 0, .int .i64 0, .int .i64 0, .int .i64 0, .int .i64 0, .int .i64 0, .int .i64 0, .int .i64 0, .str [], .str []]),
   .op none (.store 10 (.t 8) (.t 43))])
 (.keep [2, 6, 7, 8] (.seq (.ops [.op (some 44) (.mov (.t 6)),
   .call (some 45) 52 [.t 44],
   .op (some 9) (.mov (.t 45))])
 (.keep [2, 6, 7, 8, 9] (.seq (.seq (.ops [.op (some 46) (.mov (.t 6)),
   .call (some 47) 53 [.t 46],
   .op (some 48) (.not (.t 47)),
   .op (some 49) (.mov (.t 48)),
   .andor 52 false 3 49 [.op (some 50) (.mov (.t 7)), .op (some 51) (.bin .neq (.t 50) (.k (.int .i64 108)))] (.t 51),
   .op (some 53) (.mov (.t 52)),
   .andor 57 false 7 53 [.op (some 54) (.mov (.t 9)), .op (some 55) (.lenS (.t 54)), .op (some 56) (.bin .neq (.t 55) (.k (.int .i64 2)))] (.t 56)])
  (.keep [2, 8, 9, 57] (.cond (.t 57)
  (.seq (.ops [.op (some 58) (.build [.int .i64 0, .int .i64 0, .int .i64 0, .int .i64 0, .int .i64 0, .int .i64 0, .int .i64 0, .int .i64 0, .str [], .str []] []),
    .op none (.store 10 (.t 2) (.t 58)),
    .op (some 3) (.mov (.k (.int .i64 3)))])
   (.keep [2, 3] (.ret)))
  (.skip))))
 (.keep [2, 8, 9] (.seq (.drawE [[], [0], [0, 1], [], [3], [3, 4], [0, 1, 2], [0, 1, 2, 6], [0, 1, 2, 3, 4, 5, 6, 7], [0, 1, 2, 3, 4, 5, 6, 7, 8]] [.op (some 59) (.mov (.t 9)),
   .op (some 60) (.iadr 1 (.t 59) (.k (.int .i64 0))),
   .op (some 61) (.load1 (.t 60)),
   .op (some 62) (.mov (.t 9)),
   .op (some 63) (.iadr 1 (.t 62) (.k (.int .i64 1))),
   .op (some 64) (.load1 (.t 63)),
   .op (some 65) (.fadr (.t 8) 8),
   .op none (.store 1 (.t 65) (.t 61))]
  [.op (some 66) (.fadr (.t 8) 9),
   .op none (.store 1 (.t 66) (.t 64))])
 (.keep [2, 8] (.seq (.seq (.ops [.op (some 67) (.loadN 10 (.t 8)),
   .call (some 68) 54 [.t 67],
   .op (some 69) (.not (.t 68))])
  (.keep [2, 8, 69] (.cond (.t 69)
  (.seq (.ops [.op (some 70) (.build [.int .i64 0, .int .i64 0, .int .i64 0, .int .i64 0, .int .i64 0, .int .i64 0, .int .i64 0, .int .i64 0, .str [], .str []] []),
    .op none (.store 10 (.t 2) (.t 70)),
    .op (some 3) (.mov (.k (.int .i64 3)))])
   (.keep [2, 3] (.ret)))
  (.skip))))
 (.keep [2, 8] (.seq (.ops [.op (some 71) (.loadN 10 (.t 8)),
   .op none (.store 10 (.t 2) (.t 71)),
   .op (some 3) (.mov (.k (.int .i64 0)))])
 (.keep [2, 3] (.ret))))))))))))))))))))))))
theorem k_c_ReadRecord_fits : fitsF Try.prog 42 ⟨72, k_c_ReadRecord, [.cN 2 10, .t 3]⟩ = true := by kernel_rfl
set_option maxHeartbeats 4000000 in
theorem c_ReadRecord {t : Str} (hl : t.length ≤ 1048576) : Con Try.prog noMv 42 [.d (.sl 1 (t.map byteRow))] [] (fun r h => r = .tup [(recF t).1.av, int (recF t).2] ∧ h = []) := by
 refine con_of2 k_c_ReadRecord_fits rfl fun C hP hmv => ?_
 unfold k_c_ReadRecord
 refine cx_seq ?_
 refine cx_ops ?_
 refine ax_e (e_alloc (by decide) rfl rfl) ?_
 refine ax_q (q_mov rfl) ?_
 refine ax_nil ?_
 refine cx_keep rfl rfl ?_
 refine cx_seq ?_
 refine cx_seq ?_
 refine cx_ops ?_
 refine ax_q (q_mov rfl) ?_
 first | refine ax_q (q_lenS_map rfl) ?_ | refine ax_q (q_lenS_osl rfl) ?_ | refine ax_q (q_lenS_zs rfl) ?_ | refine ax_q (q_lenS rfl) ?_
 refine ax_q (q_ibin rfl rfl rfl) ?_
 refine ax_nil ?_
 refine cx_keep rfl rfl ?_
 refine cx_cond rfl (fun h0 => ?_) (fun h0 => ?_)
 ·
  have h0 := dT h0
  refine cx_seq ?_
  refine cx_ops ?_
  refine ax_q (q_build rfl) ?_
  refine ax_e (e_st rfl rfl rfl rfl rfl rfl rfl) ?_
  refine ax_q (q_mov rfl) ?_
  refine ax_nil ?_
  refine cx_keep rfl rfl ?_
  refine cx_ret (ret0 rfl rfl ?_)
  exact ⟨by rw [recF_1 h0]; rfl, rfl⟩
 ·
  have h0 := dF h0
  refine cx_skip ?_
  refine cx_keep rfl rfl ?_
  refine cx_seq ?_
  refine cx_ops ?_
  refine ax_q (q_mov rfl) ?_
  first | refine ax_call rfl (vc_pure0 (c_unsealed (l := t) ?_) hP rfl rfl ?_) | refine ax_call rfl (vc_lend0 (c_unsealed (l := t) ?_) hP (by repeat (first | exact lal_id _ rfl | exact LAL.nil | refine LAL.cons ?_ ?_ | exact la_id _ rfl | exact LA.lend (lend_whole rfl (by first | (simp; done) | (rw [List.length_map]; rfl))) | refine LA.agg ?_ | refine LA.fn ?_ | refine LA.lend ?_ | exact Lend.d _ | exact Lend.zs _ | exact lend_whole rfl (by first | (simp; done) | (rw [List.length_map]; rfl)) | refine Lend.ptr rfl ?_ | refine Lend.fn ?_ | exact LendL.nil | refine LendL.cons ?_ ?_)) rfl rfl ?_)
  ·
   first | assumption | omega | (simp; done) | (simp; omega)
  have hul := @unseal_len t
  refine ax_q (q_mov rfl) ?_
  refine ax_q (q_ext rfl rfl) ?_
  refine ax_q (q_ext rfl rfl) ?_
  refine ax_q (q_mov rfl) ?_
  refine ax_q (q_mov rfl) ?_
  refine ax_nil ?_
  refine cx_keep rfl rfl ?_
  refine cx_seq ?_
  refine cx_seq ?_
  refine cx_ops ?_
  refine ax_q (q_mov rfl) ?_
  refine ax_q (q_not rfl) ?_
  refine ax_nil ?_
  refine cx_keep rfl rfl ?_
  refine cx_cond rfl (fun h1 => ?_) (fun h1 => ?_)
  ·
   have h1 := bT h1
   refine cx_seq ?_
   refine cx_ops ?_
   refine ax_q (q_build rfl) ?_
   refine ax_e (e_st rfl rfl rfl rfl rfl rfl rfl) ?_
   refine ax_q (q_mov rfl) ?_
   refine ax_nil ?_
   refine cx_keep rfl rfl ?_
   refine cx_ret (ret0 rfl rfl ?_)
   exact ⟨by rw [recF_2 h0 h1]; rfl, rfl⟩
  ·
   have h1 := bF h1
   obtain ⟨u, hu⟩ : ∃ u, (unsealF t).1 = u := ⟨_, rfl⟩
   rw [hu] at hul ⊢
   have k0 : Nn u 0 = ⟨u, false⟩ := rfl
   have l0 : (⟨u, false⟩ : Rd).rest.length ≤ 1048576 := by simp only; omega
   refine cx_skip ?_
   refine cx_keep rfl rfl ?_
   refine cx_seq ?_
   refine cx_ops ?_
   refine ax_q (q_mov rfl) ?_
   refine ax_q (q_build rfl) ?_
   refine ax_e (e_box rfl rfl (by decide) rfl rfl rfl) ?_
   refine ax_q (q_mov rfl) ?_
   refine ax_nil ?_
   refine cx_keep rfl rfl ?_
   refine cx_seq ?_
   refine cx_ops ?_
   refine ax_q (q_mov rfl) ?_
   refine ax_call rfl (vcall_own (c_num (r0 := ⟨u, false⟩) ?_) hP hmv false (fun _ => 24) [1000] ⟨rfl, rfl, rfl, rfl, ⟨rfl, trivial⟩, rfl, rfl, rfl⟩ (.pass rfl rfl .nil) ?_)
   ·
    exact l0
   rintro r h ⟨rfl, rfl⟩
   refine ⟨fun _ => 24, [], ⟨rfl, rfl, rfl, rfl, mem1 rfl, rfl, rfl, fun h => absurd h Bool.false_ne_true⟩, ?_⟩
   obtain ⟨v0, r1, e0⟩ : ∃ v r, numF ⟨u, false⟩ = (v, r) := ⟨_, _, rfl⟩
   rw [e0]
   obtain ⟨k1, w0, l1⟩ := Nn_next k0 e0 l0
   refine ax_q (q_mov rfl) ?_
   refine ax_nil ?_
   refine cx_keep rfl rfl ?_
   refine cx_seq ?_
   refine cx_ops ?_
   refine ax_q (q_mov rfl) ?_
   refine ax_call rfl (vcall_own (c_num (r0 := r1) ?_) hP hmv false (fun _ => 24) [1000] ⟨rfl, rfl, rfl, rfl, ⟨rfl, trivial⟩, rfl, rfl, rfl⟩ (.pass rfl rfl .nil) ?_)
   ·
    exact l1
   rintro r h ⟨rfl, rfl⟩
   refine ⟨fun _ => 24, [], ⟨rfl, rfl, rfl, rfl, mem1 rfl, rfl, rfl, fun h => absurd h Bool.false_ne_true⟩, ?_⟩
   obtain ⟨v1, r2, e1⟩ : ∃ v r, numF r1 = (v, r) := ⟨_, _, rfl⟩
   rw [e1]
   obtain ⟨k2, w1, l2⟩ := Nn_next k1 e1 l1
   refine ax_q (q_mov rfl) ?_
   refine ax_call rfl (vcall_own (c_num (r0 := r2) ?_) hP hmv false (fun _ => 24) [1000] ⟨rfl, rfl, rfl, rfl, ⟨rfl, trivial⟩, rfl, rfl, rfl⟩ (.pass rfl rfl .nil) ?_)
   ·
    exact l2
   rintro r h ⟨rfl, rfl⟩
   refine ⟨fun _ => 24, [], ⟨rfl, rfl, rfl, rfl, mem1 rfl, rfl, rfl, fun h => absurd h Bool.false_ne_true⟩, ?_⟩
   obtain ⟨v2, r3, e2⟩ : ∃ v r, numF r2 = (v, r) := ⟨_, _, rfl⟩
   rw [e2]
   obtain ⟨k3, w2, l3⟩ := Nn_next k2 e2 l2
   refine ax_q (q_mov rfl) ?_
   refine ax_call rfl (vcall_own (c_num (r0 := r3) ?_) hP hmv false (fun _ => 24) [1000] ⟨rfl, rfl, rfl, rfl, ⟨rfl, trivial⟩, rfl, rfl, rfl⟩ (.pass rfl rfl .nil) ?_)
   ·
    exact l3
   rintro r h ⟨rfl, rfl⟩
   refine ⟨fun _ => 24, [], ⟨rfl, rfl, rfl, rfl, mem1 rfl, rfl, rfl, fun h => absurd h Bool.false_ne_true⟩, ?_⟩
   obtain ⟨v3, r4, e3⟩ : ∃ v r, numF r3 = (v, r) := ⟨_, _, rfl⟩
   rw [e3]
   obtain ⟨k4, w3, l4⟩ := Nn_next k3 e3 l3
   refine ax_q (q_mov rfl) ?_
   refine ax_call rfl (vcall_own (c_num (r0 := r4) ?_) hP hmv false (fun _ => 24) [1000] ⟨rfl, rfl, rfl, rfl, ⟨rfl, trivial⟩, rfl, rfl, rfl⟩ (.pass rfl rfl .nil) ?_)
   ·
    exact l4
   rintro r h ⟨rfl, rfl⟩
   refine ⟨fun _ => 24, [], ⟨rfl, rfl, rfl, rfl, mem1 rfl, rfl, rfl, fun h => absurd h Bool.false_ne_true⟩, ?_⟩
   obtain ⟨v4, r5, e4⟩ : ∃ v r, numF r4 = (v, r) := ⟨_, _, rfl⟩
   rw [e4]
   obtain ⟨k5, w4, l5⟩ := Nn_next k4 e4 l4
   refine ax_q (q_mov rfl) ?_
   refine ax_call rfl (vcall_own (c_num (r0 := r5) ?_) hP hmv false (fun _ => 24) [1000] ⟨rfl, rfl, rfl, rfl, ⟨rfl, trivial⟩, rfl, rfl, rfl⟩ (.pass rfl rfl .nil) ?_)
   ·
    exact l5
   rintro r h ⟨rfl, rfl⟩
   refine ⟨fun _ => 24, [], ⟨rfl, rfl, rfl, rfl, mem1 rfl, rfl, rfl, fun h => absurd h Bool.false_ne_true⟩, ?_⟩
   obtain ⟨v5, r6, e5⟩ : ∃ v r, numF r5 = (v, r) := ⟨_, _, rfl⟩
   rw [e5]
   obtain ⟨k6, w5, l6⟩ := Nn_next k5 e5 l5
   refine ax_q (q_mov rfl) ?_
   refine ax_call rfl (vcall_own (c_num (r0 := r6) ?_) hP hmv false (fun _ => 24) [1000] ⟨rfl, rfl, rfl, rfl, ⟨rfl, trivial⟩, rfl, rfl, rfl⟩ (.pass rfl rfl .nil) ?_)
   ·
    exact l6
   rintro r h ⟨rfl, rfl⟩
   refine ⟨fun _ => 24, [], ⟨rfl, rfl, rfl, rfl, mem1 rfl, rfl, rfl, fun h => absurd h Bool.false_ne_true⟩, ?_⟩
   obtain ⟨v6, r7, e6⟩ : ∃ v r, numF r6 = (v, r) := ⟨_, _, rfl⟩
   rw [e6]
   obtain ⟨k7, w6, l7⟩ := Nn_next k6 e6 l6
   refine ax_q (q_mov rfl) ?_
   refine ax_call rfl (vcall_own (c_num (r0 := r7) ?_) hP hmv false (fun _ => 24) [1000] ⟨rfl, rfl, rfl, rfl, ⟨rfl, trivial⟩, rfl, rfl, rfl⟩ (.pass rfl rfl .nil) ?_)
   ·
    exact l7
   rintro r h ⟨rfl, rfl⟩
   refine ⟨fun _ => 24, [], ⟨rfl, rfl, rfl, rfl, mem1 rfl, rfl, rfl, fun h => absurd h Bool.false_ne_true⟩, ?_⟩
   obtain ⟨v7, r8, e7⟩ : ∃ v r, numF r7 = (v, r) := ⟨_, _, rfl⟩
   rw [e7]
   obtain ⟨k8, w7, l8⟩ := Nn_next k7 e7 l7
   refine ax_q (q_mov rfl) ?_
   refine ax_call rfl (vcall_own (c_num (r0 := r8) ?_) hP hmv false (fun _ => 24) [1000] ⟨rfl, rfl, rfl, rfl, ⟨rfl, trivial⟩, rfl, rfl, rfl⟩ (.pass rfl rfl .nil) ?_)
   ·
    exact l8
   rintro r h ⟨rfl, rfl⟩
   refine ⟨fun _ => 24, [], ⟨rfl, rfl, rfl, rfl, mem1 rfl, rfl, rfl, fun h => absurd h Bool.false_ne_true⟩, ?_⟩
   obtain ⟨v8, r9, e8⟩ : ∃ v r, numF r8 = (v, r) := ⟨_, _, rfl⟩
   rw [e8]
   obtain ⟨k9, w8, l9⟩ := Nn_next k8 e8 l8
   refine ax_q (q_build rfl) ?_
   refine ax_e (e_alloc (by decide) rfl rfl) ?_
   refine ax_e (e_st rfl rfl rfl rfl rfl rfl rfl) ?_
   refine ax_nil ?_
   refine cx_keep rfl rfl ?_
   refine cx_seq ?_
   refine cx_ops ?_
   refine ax_q (q_mov rfl) ?_
   refine ax_call rfl (vcall_own (c_fields (r0 := r9) l9) hP hmv false (fun _ => 24) [1000] ⟨rfl, rfl, rfl, rfl, ⟨rfl, trivial⟩, rfl, rfl, rfl⟩ (.pass rfl rfl .nil) ?_)
   rintro r h ⟨rfl, rfl⟩
   refine ⟨fun e => bif Nat.beq e 1000 then 24 else 45, [0], ⟨rfl, rfl, rfl, rfl, mem1 rfl, rfl, rfl, fun h => absurd h Bool.false_ne_true⟩, ?_⟩
   obtain ⟨F, r10, e10⟩ : ∃ F r, fieldsF r9 = (F, r) := ⟨_, _, rfl⟩
   rw [e10]
   dsimp only
   have hbad := badI_of k9 e10 w0
   have hrec := recI_of k9 e10 w1 w2 w3 w4 w5 w6 w7 w8
   have hA := recI_After (u := u) (m := 1048576) (by omega) (by omega)
   rw [hrec] at hA
   refine ax_q (q_mov rfl) ?_
   refine ax_nil ?_
   refine cx_keep rfl rfl ?_
   refine cx_seq ?_
   refine cx_seq ?_
   refine cx_ops ?_
   refine ax_q (q_mov rfl) ?_
   refine ax_call rfl (vcall_own (c_isDone (r0 := r10) ) hP hmv false (fun _ => 24) [1000] ⟨rfl, rfl, rfl, rfl, ⟨rfl, trivial⟩, rfl, rfl, rfl⟩ (.pass rfl rfl .nil) ?_)
   rintro r h ⟨rfl, rfl⟩
   refine ⟨fun _ => 24, [], ⟨rfl, rfl, rfl, rfl, mem1 rfl, rfl, rfl, fun h => absurd h Bool.false_ne_true⟩, ?_⟩
   refine ax_q (q_not rfl) ?_
   refine ax_q (q_mov rfl) ?_
   apply ax_or rfl rfl
   ·
    intro g
    have g := bF g
    refine ax_q (q_mov rfl) ?_
    refine ax_q (q_ibin rfl rfl rfl) ?_
    exact ax_nil ⟨rfl, by repeat (first | exact trivial | refine ⟨rfl, ?_⟩ | refine ⟨?_, ?_⟩)⟩
   refine ax_q (q_mov rfl) ?_
   apply ax_or rfl rfl
   ·
    intro g
    have g := (fun h => And.intro (bF (or_F h).1) (nF (or_F h).2)) g
    refine ax_q (q_mov rfl) ?_
    first | refine ax_q (q_lenS_map rfl) ?_ | refine ax_q (q_lenS_osl rfl) ?_ | refine ax_q (q_lenS_zs rfl) ?_ | refine ax_q (q_lenS rfl) ?_
    refine ax_q (q_ibin rfl rfl rfl) ?_
    exact ax_nil ⟨rfl, by repeat (first | exact trivial | refine ⟨rfl, ?_⟩ | refine ⟨?_, ?_⟩)⟩
   refine ax_nil ?_
   refine cx_keep rfl rfl ?_
   refine cx_cond rfl (fun h2 => ?_) (fun h2 => ?_)
   ·
    have h2 : badI u = true := by rw [hbad]; exact h2
    refine cx_seq ?_
    refine cx_ops ?_
    refine ax_q (q_build rfl) ?_
    refine ax_e (e_st rfl rfl rfl rfl rfl rfl rfl) ?_
    refine ax_q (q_mov rfl) ?_
    refine ax_nil ?_
    refine cx_keep rfl rfl ?_
    refine cx_ret (ret0 rfl rfl ?_)
    exact ⟨by rw [recF_3 h0 h1 (by rw [hu]; exact h2)]; rfl, rfl⟩
   ·
    have h2 : badI u = false := by rw [hbad]; exact h2
    have h2l : F.length = 2 := by
     have h3 := h2; rw [hbad, Bool.or_eq_false_iff, Bool.not_eq_false', decide_eq_true_eq] at h3; omega
    refine cx_skip ?_
    refine cx_keep rfl rfl ?_
    refine cx_seq ?_
    refine cx_drawL 7 5000 (fun _ => false) (fun _ => true) [] ([(8, .box [int (v1 : Nat), int (v2 : Nat), int (v3 : Nat), int (v4 : Nat), int (v5 : Nat), int (v6 : Nat), int (v7 : Nat), int (v8 : Nat), .d (.str (F.getD 0 [])), .d (.str [])])]) [[9], [59], [60], [9], [62], [63], [8], [61, 65]] [[], [], [], [8], [8], [8], [], [8]] rfl ?_
    first | refine ⟨_, .inr ⟨rfl, _, rfl, .inl rfl, loc_q (q_mov rfl)⟩, ?_⟩
    first | refine ⟨_, .inr ⟨rfl, _, rfl, .inl rfl, loc_q (q_ixoI rfl rfl (by omega) (by omega))⟩, ?_⟩
    first | refine ⟨_, .inr ⟨rfl, _, rfl, .inl rfl, loc_q (q_load1_rptr rfl rfl (mapAtZ (z := []) (by omega)) rfl)⟩, ?_⟩
    first | refine ⟨_, .inr ⟨rfl, _, rfl, .inr ⟨rfl, rfl, .inr rfl, rfl, rfl⟩, loc_q (q_mov rfl)⟩, ?_⟩
    first | refine ⟨_, .inr ⟨rfl, _, rfl, .inr ⟨rfl, rfl, .inr rfl, rfl, rfl⟩, loc_q (q_ixoI rfl rfl (by omega) (by omega))⟩, ?_⟩
    first | refine ⟨_, .inr ⟨rfl, _, rfl, .inr ⟨rfl, rfl, .inr rfl, rfl, rfl⟩, loc_q (q_load1_rptr rfl rfl (mapAtZ (z := []) (by omega)) rfl)⟩, ?_⟩
    first | refine ⟨_, .inr ⟨rfl, _, rfl, .inl rfl, loc_q (q_fadr_ptr rfl)⟩, ?_⟩
    refine ⟨⟨5000, .dead, []⟩, .inl ⟨rfl, rfl, rfl, locl_st rfl rfl rfl rfl rfl rfl rfl⟩, ?_⟩
    refine ⟨rfl, ?_⟩
    refine ax_q (q_fadr_ptr rfl) ?_
    refine ax_e (e_st rfl rfl rfl rfl rfl rfl rfl) ?_
    refine ax_nil ?_
    refine cx_keep rfl rfl ?_
    refine cx_seq ?_
    refine cx_seq ?_
    refine cx_ops ?_
    refine ax_q (q_ldN rfl rfl rfl) ?_
    first | refine ax_call rfl (vc_pure0 (c_RecordOK (x := (⟨v1, v2, v3, v4, v5, v6, v7, v8, F.getD 0 [], F.getD 1 []⟩ : GLogRecord)) ?_) hP rfl rfl ?_) | refine ax_call rfl (vc_lend0 (c_RecordOK (x := (⟨v1, v2, v3, v4, v5, v6, v7, v8, F.getD 0 [], F.getD 1 []⟩ : GLogRecord)) ?_) hP (by repeat (first | exact lal_id _ rfl | exact LAL.nil | refine LAL.cons ?_ ?_ | exact la_id _ rfl | exact LA.lend (lend_whole rfl (by first | (simp; done) | (rw [List.length_map]; rfl))) | refine LA.agg ?_ | refine LA.fn ?_ | refine LA.lend ?_ | exact Lend.d _ | exact Lend.zs _ | exact lend_whole rfl (by first | (simp; done) | (rw [List.length_map]; rfl)) | refine Lend.ptr rfl ?_ | refine Lend.fn ?_ | exact LendL.nil | refine LendL.cons ?_ ?_)) rfl rfl ?_)
    ·
     exact hA
    refine ax_q (q_not rfl) ?_
    refine ax_nil ?_
    refine cx_keep rfl rfl ?_
    refine cx_cond rfl (fun h3 => ?_) (fun h3 => ?_)
    ·
     have h3 := bT h3
     refine cx_seq ?_
     refine cx_ops ?_
     refine ax_q (q_build rfl) ?_
     refine ax_e (e_st rfl rfl rfl rfl rfl rfl rfl) ?_
     refine ax_q (q_mov rfl) ?_
     refine ax_nil ?_
     refine cx_keep rfl rfl ?_
     refine cx_ret (ret0 rfl rfl ?_)
     exact ⟨by rw [recF_4 h0 h1 (by rw [hu]; exact h2) (by rw [hu, hrec]; exact h3)]; rfl, rfl⟩
    ·
     have h3 := bF h3
     refine cx_skip ?_
     refine cx_keep rfl rfl ?_
     refine cx_seq ?_
     refine cx_ops ?_
     refine ax_q (q_ldN rfl rfl rfl) ?_
     refine ax_e (e_st rfl rfl rfl rfl rfl rfl rfl) ?_
     refine ax_q (q_mov rfl) ?_
     refine ax_nil ?_
     refine cx_keep rfl rfl ?_
     refine cx_ret (ret0 rfl rfl ?_)
     exact ⟨by rw [recF_5 h0 h1 (by rw [hu]; exact h2) (by rw [hu, hrec]; exact h3), hu, hrec]; rfl, rfl⟩


/- loop.example/g00332/impl.readLog -/
def k_c_readLog : XCode :=
 .seq (.ops [.op (some 2) (.box (.t 0)),
   .op (some 4) (.mov (.k (.nils 10)))])
 (.keep [1, 2] (.seq (.ops [.op (some 10) (.bslice 10 []),
   .op (some 5) (.mov (.t 10)),
   .op (some 6) (.mov (.k (.int .i64 1)))])
 (.keep [1, 2, 5, 6] (.seq (.seq (.ops [.op (some 7) (.mov (.k (.int .i64 9)))])
  (.keep [1, 2, 5, 6, 7] (.block 0 (.loop (.seq (.seq (.ops [.op (some 11) (.mov (.t 7)),
     .op (some 12) (.fadr (.t 2) 0),
     .op (some 13) (.load1 (.t 12)),
     .op (some 14) (.lenS (.t 13)),
     .op (some 15) (.bin .lss (.t 11) (.t 14))])
   (.keep [1, 2, 5, 6, 7, 15] (.cond (.t 15)
    (.skip)
    (.exit 0))))
   (.keep [1, 2, 5, 6, 7] (.seq (.block 1 (.seq (.ops [.op (some 19) (.loadN 4 (.t 2)),
     .op (some 20) (.mov (.t 7)),
     .call (some 21) 43 [.t 19, .t 20],
     .op (some 22) (.s2b (.t 21)),
     .call (some 23) 42 [.t 22],
     .op (some 18) (.mov (.t 23)),
     .op (some 24) (.ext (.t 18) 0),
     .op (some 25) (.ext (.t 18) 1),
     .op (some 8) (.alloc [.int .i64 0, .int .i64 0, .int .i64 0, .int .i64 0, .int .i64 0, .int .i64 0, .int .i64 0, .int .i64 0, .str [], .str []]),
     .op none (.store 10 (.t 8) (.t 24)),
     .op (some 9) (.mov (.t 25))])
    (.keep [1, 2, 5, 6, 7, 8, 9] (.seq (.seq (.ops [.op (some 26) (.mov (.t 9)),
      .op (some 27) (.bin .neq (.t 26) (.k (.int .i64 0))),
      .op (some 28) (.mov (.t 27)),
      .andor 35 false 2 28 [.op (some 29) (.fadr (.t 8) 1), .op (some 30) (.load1 (.t 29)), .op (some 31) (.mov (.t 5)), .op (some 32) (.lenS (.t 31)), .op (some 33) (.bin .add (.t 32) (.k (.int .i64 1))), .op (some 34) (.bin .neq (.t 30) (.t 33))] (.t 34),
      .op (some 36) (.mov (.t 35)),
      .andor 43 false 10 36 [.op (some 37) (.fadr (.t 8) 0), .op (some 38) (.load1 (.t 37)), .op (some 39) (.mov (.t 6)), .op (some 40) (.mov (.t 1)), .call (some 41) 23 [.t 38, .t 39, .t 40], .op (some 42) (.not (.t 41))] (.t 42)])
    (.keep [1, 2, 5, 7, 8, 43] (.cond (.t 43)
     (.exit 0)
     (.skip))))
    (.keep [1, 2, 5, 7, 8] (.drawE [[], [], [1], [0, 1, 2], [], [4], [0, 1, 2, 3], [0, 1, 2, 3, 4, 5, 6]] [.op (some 44) (.mov (.t 5)),
     .op (some 45) (.loadN 10 (.t 8)),
     .op (some 46) (.bslice 10 [.t 45]),
     .op (some 47) (.app 10 96 [.int .i64 0, .int .i64 0, .int .i64 0, .int .i64 0, .int .i64 0, .int .i64 0, .int .i64 0, .int .i64 0, .str [], .str []] (.t 44) (.t 46)),
     .op (some 48) (.fadr (.t 8) 0),
     .op (some 49) (.load1 (.t 48)),
     .op (some 5) (.mov (.t 47))]
    [.op (some 6) (.mov (.t 49))]))))))
   (.keep [1, 2, 5, 6, 7] (.ops [.op (some 16) (.mov (.t 7)),
    .op (some 17) (.bin .add (.t 16) (.k (.int .i64 1))),
    .op (some 7) (.mov (.t 17))])))))))))
 (.keep [5] (.seq (.ops [.op (some 50) (.mov (.t 5)),
   .op (some 4) (.mov (.t 50))])
 (.keep [4] (.ret))))))))
theorem k_c_readLog_fits : fitsF Try.prog 24 ⟨51, k_c_readLog, [.t 4]⟩ = true := by kernel_rfl
set_option maxHeartbeats 4000000 in
theorem c_readLog {d : GDisk} {top : Int} (hd : diskOK d = true) (htop : 0 ≤ top ∧ top ≤ 60) : Con Try.prog noMv 24 [d.av, int top] [] (fun r h => r = .osl 0 10 0 (logF d top).length ∧ h = [(0, .rows 10 ((logF d top).map GLogRecord.row))]) := by
 refine con_of2 k_c_readLog_fits rfl fun C hP hmv => ?_
 unfold k_c_readLog
 obtain ⟨q1, q2, q3⟩ := diskOK_head hd
 refine cx_seq ?_
 refine cx_ops ?_
 refine ax_e (e_box rfl rfl (by decide) rfl rfl rfl) ?_
 refine ax_q (q_mov rfl) ?_
 refine ax_nil ?_
 refine cx_keep rfl rfl ?_
 refine cx_seq ?_
 refine cx_ops ?_
 refine ax_e (e_bslice rfl (by decide) rfl rfl) ?_
 refine ax_q (q_mov rfl) ?_
 refine ax_q (q_mov rfl) ?_
 refine ax_nil ?_
 refine cx_keep rfl rfl ?_
 refine cx_seq ?_
 refine cx_seq ?_
 refine cx_ops ?_
 refine ax_q (q_mov rfl) ?_
 refine ax_nil ?_
 refine cx_keep rfl rfl ?_
 refine cx_block ?_
 refine cx_loopU (fun m (p : Nat × Int × List GLogRecord) => p.1 ≤ d.Sectors.length - 9 ∧ m = d.Sectors.length - 9 - p.1 ∧ p.2.2.length = p.1 ∧ p.2.2 ++ logR d top (d.Sectors.length - 9 - p.1) p.1 p.2.1 = logF d top) (fun p => [(7, int ((9 + p.1 : Nat) : Int)), (6, int p.2.1), (5, .osl 10 10 0 p.2.2.length)]) (fun p => [(2, .box [.d (.sl 1 (d.Sectors.map strRow)), .d (.sl 2 (d.Cache.map GPending.row)), .d (.bool d.Armed), .d (.sl 1 (d.Keep.map intRow))]), (10, .rows 10 (p.2.2.map GLogRecord.row))])
  ⟨_, (0, 1, []), ⟨Nat.zero_le _, rfl, rfl, rfl⟩, by repeat (first | exact trivial | refine ⟨rfl, ?_⟩ | refine ⟨?_, ?_⟩)⟩ ?_
 rintro m ⟨k, low, l⟩ ⟨hk, rfl, hlk, hT⟩
 simp only at hk hlk hT ⊢
 refine cx_seq ?_
 refine cx_seq ?_
 refine cx_ops ?_
 refine ax_q (q_mov rfl) ?_
 refine ax_q (q_fadr_ptr rfl) ?_
 refine ax_q (q_load1_ptr rfl rfl rfl) ?_
 first | refine ax_q (q_lenS_map rfl) ?_ | refine ax_q (q_lenS_osl rfl) ?_ | refine ax_q (q_lenS_zs rfl) ?_ | refine ax_q (q_lenS rfl) ?_
 refine ax_q (q_ibin rfl rfl rfl) ?_
 refine ax_nil ?_
 refine cx_keep rfl rfl ?_
 refine cx_cond rfl (fun h0 => ?_) (fun h0 => ?_)
 ·
  have h0 := dT h0
  have hkx : 9 + k < d.Sectors.length := by omega
  have htl := diskOK_txt hd (9 + k)
  obtain ⟨f, hf⟩ : ∃ f, d.Sectors.length - 9 - k = f + 1 := ⟨d.Sectors.length - 9 - k - 1, by omega⟩
  refine cx_skip ?_
  refine cx_keep rfl rfl ?_
  refine cx_seq ?_
  refine cx_block ?_
  refine cx_seq ?_
  refine cx_ops ?_
  refine ax_q (q_ldN rfl rfl rfl) ?_
  refine ax_q (q_mov rfl) ?_
  first | refine ax_call rfl (vc_pure0 (c_read (d := d) (i := 9 + k) ?_ ?_) hP rfl rfl ?_) | refine ax_call rfl (vc_lend0 (c_read (d := d) (i := 9 + k) ?_ ?_) hP (by repeat (first | exact lal_id _ rfl | exact LAL.nil | refine LAL.cons ?_ ?_ | exact la_id _ rfl | exact LA.lend (lend_whole rfl (by first | (simp; done) | (rw [List.length_map]; rfl))) | refine LA.agg ?_ | refine LA.fn ?_ | refine LA.lend ?_ | exact Lend.d _ | exact Lend.zs _ | exact lend_whole rfl (by first | (simp; done) | (rw [List.length_map]; rfl)) | refine Lend.ptr rfl ?_ | refine Lend.fn ?_ | exact LendL.nil | refine LendL.cons ?_ ?_)) rfl rfl ?_)
  ·
   first | assumption | omega | (simp; done) | (simp; omega)
  ·
   first | assumption | omega | (simp; done) | (simp; omega)
  show AXI _ _ _ _ ⟨(21, str (txtD d (9 + k))) :: _, _⟩ _
  refine ax_e (e_s2b rfl (by decide) rfl rfl) ?_
  first | refine ax_call rfl (vc_pure0 (c_ReadRecord (t := (txtD d (9 + k))) ?_) hP rfl rfl ?_) | refine ax_call rfl (vc_lend0 (c_ReadRecord (t := (txtD d (9 + k))) ?_) hP (by repeat (first | exact lal_id _ rfl | exact LAL.nil | refine LAL.cons ?_ ?_ | exact la_id _ rfl | exact LA.lend (lend_whole rfl (by first | (simp; done) | (rw [List.length_map]; rfl))) | refine LA.agg ?_ | refine LA.fn ?_ | refine LA.lend ?_ | exact Lend.d _ | exact Lend.zs _ | exact lend_whole rfl (by first | (simp; done) | (rw [List.length_map]; rfl)) | refine Lend.ptr rfl ?_ | refine Lend.fn ?_ | exact LendL.nil | refine LendL.cons ?_ ?_)) rfl rfl ?_)
  ·
   first | assumption | omega | (simp; done) | (simp; omega)
  refine ax_q (q_mov rfl) ?_
  refine ax_q (q_ext rfl rfl) ?_
  refine ax_q (q_ext rfl rfl) ?_
  refine ax_e (e_alloc (by decide) rfl rfl) ?_
  refine ax_e (e_st rfl rfl rfl rfl rfl rfl rfl) ?_
  refine ax_q (q_mov rfl) ?_
  refine ax_nil ?_
  refine cx_keep rfl rfl ?_
  refine cx_seq ?_
  refine cx_seq ?_
  refine cx_ops ?_
  refine ax_q (q_mov rfl) ?_
  refine ax_q (q_ibin rfl rfl rfl) ?_
  refine ax_q (q_mov rfl) ?_
  apply ax_or rfl rfl
  ·
   intro g
   have g := nF g
   refine ax_q (q_fadr_ptr rfl) ?_
   refine ax_q (q_load1_ptr rfl rfl rfl) ?_
   refine ax_q (q_mov rfl) ?_
   first | refine ax_q (q_lenS_map rfl) ?_ | refine ax_q (q_lenS_osl rfl) ?_ | refine ax_q (q_lenS_zs rfl) ?_ | refine ax_q (q_lenS rfl) ?_
   refine ax_qe (r' := int ((l.length + 1 : Nat) : Int)) (q_ibin rfl rfl rfl) (by rw [wi (by omega) (by omega)]; rfl) ?_
   refine ax_q (q_ibin rfl rfl rfl) ?_
   exact ax_nil ⟨rfl, by repeat (first | exact trivial | refine ⟨rfl, ?_⟩ | refine ⟨?_, ?_⟩)⟩
  refine ax_q (q_mov rfl) ?_
  apply ax_or rfl rfl
  ·
   intro g
   have g := (fun h => And.intro (nF (or_F h).1) (nF (or_F h).2)) g
   refine ax_q (q_fadr_ptr rfl) ?_
   refine ax_q (q_load1_ptr rfl rfl rfl) ?_
   refine ax_q (q_mov rfl) ?_
   refine ax_q (q_mov rfl) ?_
   first | refine ax_call rfl (vc_pure0 (c_inRange  ) hP rfl rfl ?_) | refine ax_call rfl (vc_lend0 (c_inRange  ) hP (by repeat (first | exact lal_id _ rfl | exact LAL.nil | refine LAL.cons ?_ ?_ | exact la_id _ rfl | exact LA.lend (lend_whole rfl (by first | (simp; done) | (rw [List.length_map]; rfl))) | refine LA.agg ?_ | refine LA.fn ?_ | refine LA.lend ?_ | exact Lend.d _ | exact Lend.zs _ | exact lend_whole rfl (by first | (simp; done) | (rw [List.length_map]; rfl)) | refine Lend.ptr rfl ?_ | refine Lend.fn ?_ | exact LendL.nil | refine LendL.cons ?_ ?_)) rfl rfl ?_)
   refine ax_q (q_not rfl) ?_
   exact ax_nil ⟨rfl, by repeat (first | exact trivial | refine ⟨rfl, ?_⟩ | refine ⟨?_, ?_⟩)⟩
  refine ax_nil ?_
  refine cx_keep rfl rfl ?_
  refine cx_cond rfl (fun h1 => ?_) (fun h1 => ?_)
  ·
   have h1 := (fun h => (or_T h).imp (fun h => (or_T h).imp nT nT) bT) h1
   rw [hlk] at h1
   have hN := takesR_f (by omega) h1
   have hE : l = logF d top := by rw [← hT, logR_f hN, List.append_nil]
   refine cx_exit rfl ?_
   refine cx_keep rfl rfl ?_
   refine cx_seq ?_
   refine cx_ops ?_
   refine ax_q (q_mov rfl) ?_
   refine ax_q (q_mov rfl) ?_
   refine ax_nil ?_
   refine cx_keep rfl rfl ?_
   refine cx_ret (retN (fun _ => 0) [10] rfl rfl rfl rfl rfl ?_)
   rw [← hE]; exact ⟨rfl, rfl⟩
  ·
   have h1 := (fun h => And.intro ((fun h => And.intro (nF (or_F h).1) (nF (or_F h).2)) (or_F h).1) (bF (or_F h).2)) h1
   rw [hlk] at h1
   have hN := takesR_t (by omega) h1
   refine cx_skip ?_
   refine cx_keep rfl rfl ?_
   refine cx_drawW 3 47 6 5 5001 (Nat.beq 10) (nrA 10) [] ([(10, .rows 10 ((l ++ [(recF (txtD d (9 + k))).1]).map GLogRecord.row))]) [[5], [8], [45], [44, 46], [8], [48], [47]] [[], [], [], [10], [10], [10], [10]] rfl rfl rfl ?_
   first | refine ⟨_, .inr ⟨rfl, _, rfl, .inl rfl, loc_q (q_mov rfl)⟩, ?_⟩
   first | refine ⟨_, .inr ⟨rfl, _, rfl, .inl rfl, loc_q (q_ldN rfl rfl rfl)⟩, ?_⟩
   first | refine ⟨_, .inr ⟨rfl, _, rfl, .inl rfl, loc_bsliceD (rows := [GLogRecord.row (recF (txtD d (9 + k))).1]) rfl⟩, ?_⟩
   refine ⟨⟨47, _, []⟩, .inl ⟨rfl, rfl, rfl, locl_app (n' := (l ++ [(recF (txtD d (9 + k))).1]).length) (rs' := (l ++ [(recF (txtD d (9 + k))).1]).map GLogRecord.row) rfl rfl (by simp) rfl (fun _ _ _ => src_sl 10 _) (.inl (by decide)) (hbnd (by omega) (by simp) (by decide)) (by simp) app_one⟩, ?_⟩
   first | refine ⟨_, .inr ⟨rfl, _, rfl, .inr ⟨rfl, rfl, .inr rfl, rfl, rfl⟩, loc_q (q_fadr_ptr rfl)⟩, ?_⟩
   first | refine ⟨_, .inr ⟨rfl, _, rfl, .inr ⟨rfl, rfl, .inr rfl, rfl, rfl⟩, loc_q (q_load1_ptr rfl rfl rfl)⟩, ?_⟩
   first | refine ⟨_, .inr ⟨rfl, _, rfl, .inr ⟨rfl, rfl, .inl rfl, rfl, rfl⟩, loc_q (q_mov rfl)⟩, ?_⟩
   refine ⟨rfl, ?_⟩
   refine ax_q (q_mov rfl) ?_
   refine ax_nil ?_
   refine cx_keep rfl rfl ?_
   refine cx_ops ?_
   refine ax_q (q_mov rfl) ?_
   refine ax_qe (r' := int ((9 + k + 1 : Nat) : Int)) (q_ibin rfl rfl rfl) (by rw [wi (by omega) (by omega)]; rfl) ?_
   refine ax_q (q_mov rfl) ?_
   refine ax_nil ?_
   exact ⟨_, (k + 1, (recF (txtD d (9 + k))).1.Epoch, l ++ [(recF (txtD d (9 + k))).1]), by simp only; omega, ⟨by simp only; omega, rfl, by simp [hlk], by rw [← hT, hf, show d.Sectors.length - 9 - (k + 1) = f from by omega, logR_t hN.1, ← hN.2]; simp⟩, by repeat (first | exact trivial | refine ⟨rfl, ?_⟩ | refine ⟨?_, ?_⟩)⟩
 ·
  have h0 := dF h0
  have hE : l = logF d top := by rw [← hT, show d.Sectors.length - 9 - k = 0 from by omega]; exact (List.append_nil l).symm
  refine cx_exit rfl ?_
  refine cx_keep rfl rfl ?_
  refine cx_seq ?_
  refine cx_ops ?_
  refine ax_q (q_mov rfl) ?_
  refine ax_q (q_mov rfl) ?_
  refine ax_nil ?_
  refine cx_keep rfl rfl ?_
  refine cx_ret (retN (fun _ => 0) [10] rfl rfl rfl rfl rfl ?_)
  rw [← hE]; exact ⟨rfl, rfl⟩


/- loop.example/g00332/impl.ReadLog -/
def k_c_ReadLog : XCode :=
 .seq (.ops [.op (some 2) (.box (.t 0)),
   .op (some 4) (.mov (.k (.nils 10))),
   .op (some 5) (.mov (.k (.int .i64 0)))])
 (.keep [1, 2] (.seq (.block 0 (.seq (.ops [.op (some 7) (.loadN 4 (.t 2)),
    .call (some 8) 22 [.t 7],
    .op (some 9) (.not (.t 8)),
    .op (some 6) (.mov (.t 9))])
  (.keep [1, 2, 6] (.cond (.t 6)
   (.seq (.ops [.op (some 4) (.mov (.k (.nils 10))),
     .op (some 5) (.mov (.k (.int .i64 1)))])
   (.keep [4, 5] (.ret)))
   (.seq (.ops [.op (some 11) (.mov (.t 1)),
     .call (some 12) 23 [.t 11, .k (.int .i64 0), .k (.int .i64 60)],
     .op (some 13) (.not (.t 12)),
     .op (some 10) (.mov (.t 13))])
   (.keep [1, 2, 10] (.cond (.t 10)
    (.seq (.ops [.op (some 4) (.mov (.k (.nils 10))),
      .op (some 5) (.mov (.k (.int .i64 4)))])
    (.keep [4, 5] (.ret)))
    (.skip))))))))
 (.keep [1, 2] (.seq (.ops [.op (some 14) (.loadN 4 (.t 2)),
   .op (some 15) (.mov (.t 1)),
   .call (some 16) 24 [.t 14, .t 15],
   .op (some 4) (.mov (.t 16)),
   .op (some 5) (.mov (.k (.int .i64 0)))])
 (.keep [4, 5] (.ret))))))
theorem k_c_ReadLog_fits : fitsF Try.prog 7 ⟨17, k_c_ReadLog, [.t 4, .t 5]⟩ = true := by kernel_rfl
theorem c_ReadLog {d : GDisk} {top : Int} (hw0 : d.Sectors.length ≤ 1048576) (hw1 : d.Cache.length ≤ 1048576) (hw2 : d.Keep.length ≤ 1048576) : Con Try.prog noMv 7 [d.av, int top] [] (fun r h => r = .tup [.osl 0 10 0 (readF d top).1.length, int (readF d top).2] ∧ h = [(0, .rows 10 ((readF d top).1.map GLogRecord.row))]) := by
 refine con_of2 k_c_ReadLog_fits rfl fun C hP hmv => ?_
 unfold k_c_ReadLog
 refine cx_seq ?_
 refine cx_ops ?_
 refine ax_e (e_box rfl rfl (by decide) rfl rfl rfl) ?_
 refine ax_q (q_mov rfl) ?_
 refine ax_q (q_mov rfl) ?_
 refine ax_nil ?_
 refine cx_keep rfl rfl ?_
 refine cx_seq ?_
 refine cx_block ?_
 refine cx_seq ?_
 refine cx_ops ?_
 refine ax_q (q_ldN rfl rfl rfl) ?_
 first | refine ax_call rfl (vc_pure0 (c_DiskOK  ?_ ?_ ?_) hP rfl rfl ?_) | refine ax_call rfl (vc_lend0 (c_DiskOK  ?_ ?_ ?_) hP (by repeat (first | exact lal_id _ rfl | exact LAL.nil | refine LAL.cons ?_ ?_ | exact la_id _ rfl | exact LA.lend (lend_whole rfl (by first | (simp; done) | (rw [List.length_map]; rfl))) | refine LA.agg ?_ | refine LA.fn ?_ | refine LA.lend ?_ | exact Lend.d _ | exact Lend.zs _ | exact lend_whole rfl (by first | (simp; done) | (rw [List.length_map]; rfl)) | refine Lend.ptr rfl ?_ | refine Lend.fn ?_ | exact LendL.nil | refine LendL.cons ?_ ?_)) rfl rfl ?_)
 ·
  first | assumption | omega | (simp; done) | (simp; omega)
 ·
  first | assumption | omega | (simp; done) | (simp; omega)
 ·
  first | assumption | omega | (simp; done) | (simp; omega)
 refine ax_q (q_not rfl) ?_
 refine ax_q (q_mov rfl) ?_
 refine ax_nil ?_
 refine cx_keep rfl rfl ?_
 refine cx_cond rfl (fun h0 => ?_) (fun h0 => ?_)
 ·
  have h0 := bT h0
  refine cx_seq ?_
  refine cx_ops ?_
  refine ax_q (q_mov rfl) ?_
  refine ax_q (q_mov rfl) ?_
  refine ax_nil ?_
  refine cx_keep rfl rfl ?_
  refine cx_wk (wk_virt 901 10 rfl rfl rfl) ?_
  refine cx_wk (wk_zs 4 901 [] rfl rfl) ?_
  refine cx_ret (retN (fun _ => 0) [901] rfl rfl rfl rfl rfl ?_)
  rw [readF_1 h0]; exact ⟨rfl, rfl⟩
 ·
  have h0 := bF h0
  refine cx_seq ?_
  refine cx_ops ?_
  refine ax_q (q_mov rfl) ?_
  first | refine ax_call rfl (vc_pure0 (c_inRange  ) hP rfl rfl ?_) | refine ax_call rfl (vc_lend0 (c_inRange  ) hP (by repeat (first | exact lal_id _ rfl | exact LAL.nil | refine LAL.cons ?_ ?_ | exact la_id _ rfl | exact LA.lend (lend_whole rfl (by first | (simp; done) | (rw [List.length_map]; rfl))) | refine LA.agg ?_ | refine LA.fn ?_ | refine LA.lend ?_ | exact Lend.d _ | exact Lend.zs _ | exact lend_whole rfl (by first | (simp; done) | (rw [List.length_map]; rfl)) | refine Lend.ptr rfl ?_ | refine Lend.fn ?_ | exact LendL.nil | refine LendL.cons ?_ ?_)) rfl rfl ?_)
  refine ax_q (q_not rfl) ?_
  refine ax_q (q_mov rfl) ?_
  refine ax_nil ?_
  refine cx_keep rfl rfl ?_
  refine cx_cond rfl (fun h1 => ?_) (fun h1 => ?_)
  ·
   have h1 := bT h1
   refine cx_seq ?_
   refine cx_ops ?_
   refine ax_q (q_mov rfl) ?_
   refine ax_q (q_mov rfl) ?_
   refine ax_nil ?_
   refine cx_keep rfl rfl ?_
   refine cx_wk (wk_virt 901 10 rfl rfl rfl) ?_
   refine cx_wk (wk_zs 4 901 [] rfl rfl) ?_
   refine cx_ret (retN (fun _ => 0) [901] rfl rfl rfl rfl rfl ?_)
   rw [readF_2 h0 h1]; exact ⟨rfl, rfl⟩
  ·
   have h1 := bF h1
   have htop := inR_iff.1 h1
   refine cx_skip ?_
   refine cx_keep rfl rfl ?_
   refine cx_seq ?_
   refine cx_ops ?_
   refine ax_q (q_ldN rfl rfl rfl) ?_
   refine ax_q (q_mov rfl) ?_
   first | refine ax_call rfl (vc_pure (c_readLog (d := d) (top := top) ?_ ?_) hP rfl ?_) | refine ax_call rfl (vc_lend (c_readLog (d := d) (top := top) ?_ ?_) hP (by repeat (first | exact lal_id _ rfl | exact LAL.nil | refine LAL.cons ?_ ?_ | exact la_id _ rfl | exact LA.lend (lend_whole rfl (by first | (simp; done) | (rw [List.length_map]; rfl))) | refine LA.agg ?_ | refine LA.fn ?_ | refine LA.lend ?_ | exact Lend.d _ | exact Lend.zs _ | exact lend_whole rfl (by first | (simp; done) | (rw [List.length_map]; rfl)) | refine Lend.ptr rfl ?_ | refine Lend.fn ?_ | exact LendL.nil | refine LendL.cons ?_ ?_)) ?_)
   ·
    first | assumption | omega | (simp; done) | (simp; omega)
   ·
    first | assumption | omega | (simp; done) | (simp; omega)
   rintro r h ⟨rfl, rfl⟩
   refine ⟨fun i => 16 + 200 * i, [0], ⟨rfl, rfl, rfl, rfl, rfl, (by first | exact (fun h => absurd h Bool.false_ne_true) | exact (fun _ => ⟨rfl, (noisl_of (by repeat (first | exact trivial | refine ⟨noisl_map (fun _ => rfl), ?_⟩ | refine ⟨?_, ?_⟩)))⟩))⟩, ?_⟩
   skip
   refine ax_q (q_mov rfl) ?_
   refine ax_q (q_mov rfl) ?_
   refine ax_nil ?_
   refine cx_keep rfl rfl ?_
   refine cx_ret (retN (fun _ => 0) [16] rfl rfl rfl rfl rfl ?_)
   rw [readF_3 h0 h1]; exact ⟨rfl, rfl⟩


/- loop.example/g00332/laws.eqLogRecord -/
def k_c_eqLogRecord : XCode :=
 .seq (.ops [.op (some 2) (.box (.t 0)),
   .op (some 3) (.box (.t 1)),
   .op (some 4) (.mov (.k (.bool false)))])
 (.keep [2, 3] (.seq (.seq (.ops [.op (some 5) (.fadr (.t 2) 0),
   .op (some 6) (.load1 (.t 5)),
   .op (some 7) (.fadr (.t 3) 0),
   .op (some 8) (.load1 (.t 7)),
   .op (some 9) (.bin .neq (.t 6) (.t 8))])
  (.keep [2, 3, 9] (.cond (.t 9)
  (.seq (.ops [.op (some 4) (.mov (.k (.bool false)))])
   (.keep [4] (.ret)))
  (.skip))))
 (.keep [2, 3] (.seq (.seq (.ops [.op (some 10) (.fadr (.t 2) 1),
   .op (some 11) (.load1 (.t 10)),
   .op (some 12) (.fadr (.t 3) 1),
   .op (some 13) (.load1 (.t 12)),
   .op (some 14) (.bin .neq (.t 11) (.t 13))])
  (.keep [2, 3, 14] (.cond (.t 14)
  (.seq (.ops [.op (some 4) (.mov (.k (.bool false)))])
   (.keep [4] (.ret)))
  (.skip))))
 (.keep [2, 3] (.seq (.seq (.ops [.op (some 15) (.fadr (.t 2) 2),
   .op (some 16) (.load1 (.t 15)),
   .op (some 17) (.fadr (.t 3) 2),
   .op (some 18) (.load1 (.t 17)),
   .op (some 19) (.bin .neq (.t 16) (.t 18))])
  (.keep [2, 3, 19] (.cond (.t 19)
  (.seq (.ops [.op (some 4) (.mov (.k (.bool false)))])
   (.keep [4] (.ret)))
  (.skip))))
 (.keep [2, 3] (.seq (.seq (.ops [.op (some 20) (.fadr (.t 2) 3),
   .op (some 21) (.load1 (.t 20)),
   .op (some 22) (.fadr (.t 3) 3),
   .op (some 23) (.load1 (.t 22)),
   .op (some 24) (.bin .neq (.t 21) (.t 23))])
  (.keep [2, 3, 24] (.cond (.t 24)
  (.seq (.ops [.op (some 4) (.mov (.k (.bool false)))])
   (.keep [4] (.ret)))
  (.skip))))
 (.keep [2, 3] (.seq (.seq (.ops [.op (some 25) (.fadr (.t 2) 4),
   .op (some 26) (.load1 (.t 25)),
   .op (some 27) (.fadr (.t 3) 4),
   .op (some 28) (.load1 (.t 27)),
   .op (some 29) (.bin .neq (.t 26) (.t 28))])
  (.keep [2, 3, 29] (.cond (.t 29)
  (.seq (.ops [.op (some 4) (.mov (.k (.bool false)))])
   (.keep [4] (.ret)))
  (.skip))))
 (.keep [2, 3] (.seq (.seq (.ops [.op (some 30) (.fadr (.t 2) 5),
   .op (some 31) (.load1 (.t 30)),
   .op (some 32) (.fadr (.t 3) 5),
   .op (some 33) (.load1 (.t 32)),
   .op (some 34) (.bin .neq (.t 31) (.t 33))])
  (.keep [2, 3, 34] (.cond (.t 34)
  (.seq (.ops [.op (some 4) (.mov (.k (.bool false)))])
   (.keep [4] (.ret)))
  (.skip))))
 (.keep [2, 3] (.seq (.seq (.ops [.op (some 35) (.fadr (.t 2) 6),
   .op (some 36) (.load1 (.t 35)),
   .op (some 37) (.fadr (.t 3) 6),
   .op (some 38) (.load1 (.t 37)),
   .op (some 39) (.bin .neq (.t 36) (.t 38))])
  (.keep [2, 3, 39] (.cond (.t 39)
  (.seq (.ops [.op (some 4) (.mov (.k (.bool false)))])
   (.keep [4] (.ret)))
  (.skip))))
 (.keep [2, 3] (.seq (.seq (.ops [.op (some 40) (.fadr (.t 2) 7),
   .op (some 41) (.load1 (.t 40)),
   .op (some 42) (.fadr (.t 3) 7),
   .op (some 43) (.load1 (.t 42)),
   .op (some 44) (.bin .neq (.t 41) (.t 43))])
  (.keep [2, 3, 44] (.cond (.t 44)
  (.seq (.ops [.op (some 4) (.mov (.k (.bool false)))])
   (.keep [4] (.ret)))
  (.skip))))
 (.keep [2, 3] (.seq (.seq (.ops [.op (some 45) (.fadr (.t 2) 8),
   .op (some 46) (.load1 (.t 45)),
   .op (some 47) (.fadr (.t 3) 8),
   .op (some 48) (.load1 (.t 47)),
   .op (some 49) (.bin .neq (.t 46) (.t 48))])
  (.keep [2, 3, 49] (.cond (.t 49)
  (.seq (.ops [.op (some 4) (.mov (.k (.bool false)))])
   (.keep [4] (.ret)))
  (.skip))))
 (.keep [2, 3] (.seq (.seq (.ops [.op (some 50) (.fadr (.t 2) 9),
   .op (some 51) (.load1 (.t 50)),
   .op (some 52) (.fadr (.t 3) 9),
   .op (some 53) (.load1 (.t 52)),
   .op (some 54) (.bin .neq (.t 51) (.t 53))])
  (.keep [54] (.cond (.t 54)
  (.seq (.ops [.op (some 4) (.mov (.k (.bool false)))])
   (.keep [4] (.ret)))
  (.skip))))
 (.keep [] (.seq (.ops [.op (some 4) (.mov (.k (.bool true)))])
 (.keep [4] (.ret))))))))))))))))))))))))
theorem k_c_eqLogRecord_fits : fitsF Try.prog 25 ⟨55, k_c_eqLogRecord, [.t 4]⟩ = true := by kernel_rfl
theorem c_eqLogRecord {a b : GLogRecord}  : Con Try.prog noMv 25 [a.av, b.av] [] (fun r h => r = bool (eqb a b) ∧ h = []) := by
 refine con_of2 k_c_eqLogRecord_fits rfl fun C hP hmv => ?_
 unfold k_c_eqLogRecord
 refine cx_seq ?_
 refine cx_ops ?_
 refine ax_e (e_box rfl rfl (by decide) rfl rfl rfl) ?_
 refine ax_e (e_box rfl rfl (by decide) rfl rfl rfl) ?_
 refine ax_q (q_mov rfl) ?_
 refine ax_nil ?_
 refine cx_keep rfl rfl ?_
 refine cx_seq ?_
 refine cx_seq ?_
 refine cx_ops ?_
 refine ax_q (q_fadr_ptr rfl) ?_
 refine ax_q (q_load1_ptr rfl rfl rfl) ?_
 refine ax_q (q_fadr_ptr rfl) ?_
 refine ax_q (q_load1_ptr rfl rfl rfl) ?_
 refine ax_q (q_ibin rfl rfl rfl) ?_
 refine ax_nil ?_
 refine cx_keep rfl rfl ?_
 refine cx_cond rfl (fun h0 => ?_) (fun h0 => ?_)
 ·
  have h0 := nT h0
  refine cx_seq ?_
  refine cx_ops ?_
  refine ax_q (q_mov rfl) ?_
  refine ax_nil ?_
  refine cx_keep rfl rfl ?_
  refine cx_ret (ret0 rfl rfl ?_)
  exact ⟨congrArg AM.bool (eqb_f (fun h => h0 (by rw [h]))).symm, rfl⟩
 ·
  have h0 := nF h0
  refine cx_skip ?_
  refine cx_keep rfl rfl ?_
  refine cx_seq ?_
  refine cx_seq ?_
  refine cx_ops ?_
  refine ax_q (q_fadr_ptr rfl) ?_
  refine ax_q (q_load1_ptr rfl rfl rfl) ?_
  refine ax_q (q_fadr_ptr rfl) ?_
  refine ax_q (q_load1_ptr rfl rfl rfl) ?_
  refine ax_q (q_ibin rfl rfl rfl) ?_
  refine ax_nil ?_
  refine cx_keep rfl rfl ?_
  refine cx_cond rfl (fun h1 => ?_) (fun h1 => ?_)
  ·
   have h1 := nT h1
   refine cx_seq ?_
   refine cx_ops ?_
   refine ax_q (q_mov rfl) ?_
   refine ax_nil ?_
   refine cx_keep rfl rfl ?_
   refine cx_ret (ret0 rfl rfl ?_)
   exact ⟨congrArg AM.bool (eqb_f (fun h => h1 (by rw [h]))).symm, rfl⟩
  ·
   have h1 := nF h1
   refine cx_skip ?_
   refine cx_keep rfl rfl ?_
   refine cx_seq ?_
   refine cx_seq ?_
   refine cx_ops ?_
   refine ax_q (q_fadr_ptr rfl) ?_
   refine ax_q (q_load1_ptr rfl rfl rfl) ?_
   refine ax_q (q_fadr_ptr rfl) ?_
   refine ax_q (q_load1_ptr rfl rfl rfl) ?_
   refine ax_q (q_ibin rfl rfl rfl) ?_
   refine ax_nil ?_
   refine cx_keep rfl rfl ?_
   refine cx_cond rfl (fun h2 => ?_) (fun h2 => ?_)
   ·
    have h2 := nT h2
    refine cx_seq ?_
    refine cx_ops ?_
    refine ax_q (q_mov rfl) ?_
    refine ax_nil ?_
    refine cx_keep rfl rfl ?_
    refine cx_ret (ret0 rfl rfl ?_)
    exact ⟨congrArg AM.bool (eqb_f (fun h => h2 (by rw [h]))).symm, rfl⟩
   ·
    have h2 := nF h2
    refine cx_skip ?_
    refine cx_keep rfl rfl ?_
    refine cx_seq ?_
    refine cx_seq ?_
    refine cx_ops ?_
    refine ax_q (q_fadr_ptr rfl) ?_
    refine ax_q (q_load1_ptr rfl rfl rfl) ?_
    refine ax_q (q_fadr_ptr rfl) ?_
    refine ax_q (q_load1_ptr rfl rfl rfl) ?_
    refine ax_q (q_ibin rfl rfl rfl) ?_
    refine ax_nil ?_
    refine cx_keep rfl rfl ?_
    refine cx_cond rfl (fun h3 => ?_) (fun h3 => ?_)
    ·
     have h3 := nT h3
     refine cx_seq ?_
     refine cx_ops ?_
     refine ax_q (q_mov rfl) ?_
     refine ax_nil ?_
     refine cx_keep rfl rfl ?_
     refine cx_ret (ret0 rfl rfl ?_)
     exact ⟨congrArg AM.bool (eqb_f (fun h => h3 (by rw [h]))).symm, rfl⟩
    ·
     have h3 := nF h3
     refine cx_skip ?_
     refine cx_keep rfl rfl ?_
     refine cx_seq ?_
     refine cx_seq ?_
     refine cx_ops ?_
     refine ax_q (q_fadr_ptr rfl) ?_
     refine ax_q (q_load1_ptr rfl rfl rfl) ?_
     refine ax_q (q_fadr_ptr rfl) ?_
     refine ax_q (q_load1_ptr rfl rfl rfl) ?_
     refine ax_q (q_ibin rfl rfl rfl) ?_
     refine ax_nil ?_
     refine cx_keep rfl rfl ?_
     refine cx_cond rfl (fun h4 => ?_) (fun h4 => ?_)
     ·
      have h4 := nT h4
      refine cx_seq ?_
      refine cx_ops ?_
      refine ax_q (q_mov rfl) ?_
      refine ax_nil ?_
      refine cx_keep rfl rfl ?_
      refine cx_ret (ret0 rfl rfl ?_)
      exact ⟨congrArg AM.bool (eqb_f (fun h => h4 (by rw [h]))).symm, rfl⟩
     ·
      have h4 := nF h4
      refine cx_skip ?_
      refine cx_keep rfl rfl ?_
      refine cx_seq ?_
      refine cx_seq ?_
      refine cx_ops ?_
      refine ax_q (q_fadr_ptr rfl) ?_
      refine ax_q (q_load1_ptr rfl rfl rfl) ?_
      refine ax_q (q_fadr_ptr rfl) ?_
      refine ax_q (q_load1_ptr rfl rfl rfl) ?_
      refine ax_q (q_ibin rfl rfl rfl) ?_
      refine ax_nil ?_
      refine cx_keep rfl rfl ?_
      refine cx_cond rfl (fun h5 => ?_) (fun h5 => ?_)
      ·
       have h5 := nT h5
       refine cx_seq ?_
       refine cx_ops ?_
       refine ax_q (q_mov rfl) ?_
       refine ax_nil ?_
       refine cx_keep rfl rfl ?_
       refine cx_ret (ret0 rfl rfl ?_)
       exact ⟨congrArg AM.bool (eqb_f (fun h => h5 (by rw [h]))).symm, rfl⟩
      ·
       have h5 := nF h5
       refine cx_skip ?_
       refine cx_keep rfl rfl ?_
       refine cx_seq ?_
       refine cx_seq ?_
       refine cx_ops ?_
       refine ax_q (q_fadr_ptr rfl) ?_
       refine ax_q (q_load1_ptr rfl rfl rfl) ?_
       refine ax_q (q_fadr_ptr rfl) ?_
       refine ax_q (q_load1_ptr rfl rfl rfl) ?_
       refine ax_q (q_ibin rfl rfl rfl) ?_
       refine ax_nil ?_
       refine cx_keep rfl rfl ?_
       refine cx_cond rfl (fun h6 => ?_) (fun h6 => ?_)
       ·
        have h6 := nT h6
        refine cx_seq ?_
        refine cx_ops ?_
        refine ax_q (q_mov rfl) ?_
        refine ax_nil ?_
        refine cx_keep rfl rfl ?_
        refine cx_ret (ret0 rfl rfl ?_)
        exact ⟨congrArg AM.bool (eqb_f (fun h => h6 (by rw [h]))).symm, rfl⟩
       ·
        have h6 := nF h6
        refine cx_skip ?_
        refine cx_keep rfl rfl ?_
        refine cx_seq ?_
        refine cx_seq ?_
        refine cx_ops ?_
        refine ax_q (q_fadr_ptr rfl) ?_
        refine ax_q (q_load1_ptr rfl rfl rfl) ?_
        refine ax_q (q_fadr_ptr rfl) ?_
        refine ax_q (q_load1_ptr rfl rfl rfl) ?_
        refine ax_q (q_ibin rfl rfl rfl) ?_
        refine ax_nil ?_
        refine cx_keep rfl rfl ?_
        refine cx_cond rfl (fun h7 => ?_) (fun h7 => ?_)
        ·
         have h7 := nT h7
         refine cx_seq ?_
         refine cx_ops ?_
         refine ax_q (q_mov rfl) ?_
         refine ax_nil ?_
         refine cx_keep rfl rfl ?_
         refine cx_ret (ret0 rfl rfl ?_)
         exact ⟨congrArg AM.bool (eqb_f (fun h => h7 (by rw [h]))).symm, rfl⟩
        ·
         have h7 := nF h7
         refine cx_skip ?_
         refine cx_keep rfl rfl ?_
         refine cx_seq ?_
         refine cx_seq ?_
         refine cx_ops ?_
         refine ax_q (q_fadr_ptr rfl) ?_
         refine ax_q (q_load1_ptr rfl rfl rfl) ?_
         refine ax_q (q_fadr_ptr rfl) ?_
         refine ax_q (q_load1_ptr rfl rfl rfl) ?_
         refine ax_q (q_sbin rfl rfl rfl) ?_
         refine ax_nil ?_
         refine cx_keep rfl rfl ?_
         refine cx_cond rfl (fun h8 => ?_) (fun h8 => ?_)
         ·
          have h8 := nT h8
          refine cx_seq ?_
          refine cx_ops ?_
          refine ax_q (q_mov rfl) ?_
          refine ax_nil ?_
          refine cx_keep rfl rfl ?_
          refine cx_ret (ret0 rfl rfl ?_)
          exact ⟨congrArg AM.bool (eqb_f (fun h => h8 (by rw [h]))).symm, rfl⟩
         ·
          have h8 := nF h8
          refine cx_skip ?_
          refine cx_keep rfl rfl ?_
          refine cx_seq ?_
          refine cx_seq ?_
          refine cx_ops ?_
          refine ax_q (q_fadr_ptr rfl) ?_
          refine ax_q (q_load1_ptr rfl rfl rfl) ?_
          refine ax_q (q_fadr_ptr rfl) ?_
          refine ax_q (q_load1_ptr rfl rfl rfl) ?_
          refine ax_q (q_sbin rfl rfl rfl) ?_
          refine ax_nil ?_
          refine cx_keep rfl rfl ?_
          refine cx_cond rfl (fun h9 => ?_) (fun h9 => ?_)
          ·
           have h9 := nT h9
           refine cx_seq ?_
           refine cx_ops ?_
           refine ax_q (q_mov rfl) ?_
           refine ax_nil ?_
           refine cx_keep rfl rfl ?_
           refine cx_ret (ret0 rfl rfl ?_)
           exact ⟨congrArg AM.bool (eqb_f (fun h => h9 (by rw [h]))).symm, rfl⟩
          ·
           have h9 := nF h9
           refine cx_skip ?_
           refine cx_keep rfl rfl ?_
           refine cx_seq ?_
           refine cx_ops ?_
           refine ax_q (q_mov rfl) ?_
           refine ax_nil ?_
           refine cx_keep rfl rfl ?_
           refine cx_ret (ret0 rfl rfl ?_)
           exact ⟨congrArg AM.bool (eqb_t (GLogRecord.ext1 h0 h1 h2 h3 h4 h5 h6 h7 h8 h9)).symm, rfl⟩


/- loop.example/g00332/laws.eqLogRecordS -/
def k_c_eqLogRecordS : XCode :=
 .seq (.ops [.op (some 4) (.mov (.k (.bool false)))])
 (.keep [0, 1] (.seq (.seq (.ops [.op (some 6) (.mov (.t 0)),
   .op (some 7) (.lenS (.t 6)),
   .op (some 8) (.mov (.t 1)),
   .op (some 9) (.lenS (.t 8)),
   .op (some 10) (.bin .neq (.t 7) (.t 9))])
  (.keep [0, 1, 10] (.cond (.t 10)
  (.seq (.ops [.op (some 4) (.mov (.k (.bool false)))])
   (.keep [4] (.ret)))
  (.skip))))
 (.keep [0, 1] (.seq (.seq (.ops [.op (some 5) (.mov (.k (.int .i64 0)))])
  (.keep [0, 1, 5] (.block 0 (.loop (.seq (.seq (.ops [.op (some 11) (.mov (.t 5)),
     .op (some 12) (.mov (.t 0)),
     .op (some 13) (.lenS (.t 12)),
     .op (some 14) (.bin .lss (.t 11) (.t 13))])
   (.keep [0, 1, 5, 14] (.cond (.t 14)
    (.skip)
    (.exit 0))))
   (.keep [0, 1, 5] (.seq (.block 1 (.seq (.draw [.op (some 17) (.mov (.t 0)),
     .op (some 18) (.mov (.t 5)),
     .op (some 19) (.iadr 10 (.t 17) (.t 18)),
     .op (some 20) (.loadN 10 (.t 19)),
     .op (some 21) (.mov (.t 1)),
     .op (some 22) (.mov (.t 5)),
     .op (some 23) (.iadr 10 (.t 21) (.t 22)),
     .op (some 24) (.loadN 10 (.t 23)),
     .call (some 25) 25 [.t 20, .t 24],
     .op (some 26) (.not (.t 25))])
    (.keep [0, 1, 5, 26] (.cond (.t 26)
    (.seq (.ops [.op (some 4) (.mov (.k (.bool false)))])
     (.keep [4] (.ret)))
    (.skip)))))
   (.keep [0, 1, 5] (.ops [.op (some 15) (.mov (.t 5)),
    .op (some 16) (.bin .add (.t 15) (.k (.int .i64 1))),
    .op (some 5) (.mov (.t 16))])))))))))
 (.keep [] (.seq (.ops [.op (some 4) (.mov (.k (.bool true)))])
 (.keep [4] (.ret))))))))
theorem k_c_eqLogRecordS_fits : fitsF Try.prog 8 ⟨27, k_c_eqLogRecordS, [.t 4]⟩ = true := by kernel_rfl
theorem c_eqLogRecordS {xs ys : List GLogRecord} (hw : xs.length ≤ 9223372036854775807) : Con Try.prog noMv 8 [.d (.sl 10 (xs.map GLogRecord.row)), .d (.sl 10 (ys.map GLogRecord.row))] [] (fun r h => r = bool (eqb xs ys) ∧ h = []) := by
 refine con_of2 k_c_eqLogRecordS_fits rfl fun C hP hmv => ?_
 unfold k_c_eqLogRecordS
 refine cx_seq ?_
 refine cx_ops ?_
 refine ax_q (q_mov rfl) ?_
 refine ax_nil ?_
 refine cx_keep rfl rfl ?_
 refine cx_seq ?_
 refine cx_seq ?_
 refine cx_ops ?_
 refine ax_q (q_mov rfl) ?_
 first | refine ax_q (q_lenS_map rfl) ?_ | refine ax_q (q_lenS_osl rfl) ?_ | refine ax_q (q_lenS_zs rfl) ?_ | refine ax_q (q_lenS rfl) ?_
 refine ax_q (q_mov rfl) ?_
 first | refine ax_q (q_lenS_map rfl) ?_ | refine ax_q (q_lenS_osl rfl) ?_ | refine ax_q (q_lenS_zs rfl) ?_ | refine ax_q (q_lenS rfl) ?_
 refine ax_q (q_ibin rfl rfl rfl) ?_
 refine ax_nil ?_
 refine cx_keep rfl rfl ?_
 refine cx_cond rfl (fun h0 => ?_) (fun h0 => ?_)
 ·
  have h0 := nT h0
  refine cx_seq ?_
  refine cx_ops ?_
  refine ax_q (q_mov rfl) ?_
  refine ax_nil ?_
  refine cx_keep rfl rfl ?_
  refine cx_ret (ret0 rfl rfl ?_)
  exact ⟨congrArg AM.bool (eqb_f (fun h => h0 (by rw [h]))).symm, rfl⟩
 ·
  have h0 := nF h0
  refine cx_skip ?_
  refine cx_keep rfl rfl ?_
  refine cx_seq ?_
  refine cx_seq ?_
  refine cx_ops ?_
  refine ax_q (q_mov rfl) ?_
  refine ax_nil ?_
  refine cx_keep rfl rfl ?_
  refine cx_block ?_
  have hl : xs.length = ys.length := by omega
  refine cx_loopU (fun n k => k ≤ xs.length ∧ n = xs.length - k ∧ xs.take k = ys.take k) (fun k : Nat => [(5, int k)]) (fun _ => []) ⟨_, 0, ⟨Nat.zero_le _, rfl, rfl⟩, by repeat (first | exact trivial | refine ⟨rfl, ?_⟩ | refine ⟨?_, ?_⟩)⟩ ?_
  rintro n k ⟨hk, rfl, ht⟩
  refine cx_seq ?_
  refine cx_seq ?_
  refine cx_ops ?_
  refine ax_q (q_mov rfl) ?_
  refine ax_q (q_mov rfl) ?_
  first | refine ax_q (q_lenS_map rfl) ?_ | refine ax_q (q_lenS_osl rfl) ?_ | refine ax_q (q_lenS_zs rfl) ?_ | refine ax_q (q_lenS rfl) ?_
  refine ax_q (q_ibin rfl rfl rfl) ?_
  refine ax_nil ?_
  refine cx_keep rfl rfl ?_
  refine cx_cond rfl (fun h1 => ?_) (fun h1 => ?_)
  ·
   have h1 := dT h1
   have h1x : k < xs.length := by omega
   have h1y : k < ys.length := by omega
   refine cx_skip ?_
   refine cx_keep rfl rfl ?_
   refine cx_seq ?_
   refine cx_block ?_
   refine cx_seq ?_
   refine cx_draw ?_
   refine ax_q (q_mov rfl) ?_
   refine ax_q (q_mov rfl) ?_
   refine ax_q (q_ix rfl rfl (mapAt h1x)) ?_
   first | refine ax_q (q_ldN rfl rfl rfl) ?_ | refine ax_q (q_loadN_ip rfl (Nat.le_refl _)) ?_ | refine ax_q (q_loadN_ip rfl (by decide)) ?_ | refine ax_q (q_loadN_rptr rfl rfl (by assumption) (by decide)) ?_ | refine ax_q (q_loadN_rptr rfl rfl (mapAt (by first | assumption | omega)) (by decide)) ?_
   refine ax_q (q_mov rfl) ?_
   refine ax_q (q_mov rfl) ?_
   refine ax_q (q_ix rfl rfl (mapAt h1y)) ?_
   first | refine ax_q (q_ldN rfl rfl rfl) ?_ | refine ax_q (q_loadN_ip rfl (Nat.le_refl _)) ?_ | refine ax_q (q_loadN_ip rfl (by decide)) ?_ | refine ax_q (q_loadN_rptr rfl rfl (by assumption) (by decide)) ?_ | refine ax_q (q_loadN_rptr rfl rfl (mapAt (by first | assumption | omega)) (by decide)) ?_
   first | refine ax_callq rfl (c_eqLogRecord) hP (lal_id _ rfl) rfl ?_ | refine ax_call rfl (vc_pure0 (c_eqLogRecord) hP rfl rfl ?_)
   refine ax_q (q_not rfl) ?_
   refine ax_nil ?_
   refine cx_keep rfl rfl ?_
   refine cx_cond rfl (fun h2 => ?_) (fun h2 => ?_)
   ·
    have h2 := bT h2
    refine cx_seq ?_
    refine cx_ops ?_
    refine ax_q (q_mov rfl) ?_
    refine ax_nil ?_
    refine cx_keep rfl rfl ?_
    refine cx_ret (ret0 rfl rfl ?_)
    exact ⟨congrArg AM.bool (eqbL_no h1x h1y h2).symm, rfl⟩
   ·
    have h2 := bF h2
    refine cx_skip ?_
    refine cx_keep rfl rfl ?_
    refine cx_ops ?_
    refine ax_q (q_mov rfl) ?_
    refine ax_q (q_add rfl rfl (by omega)) ?_
    refine ax_q (q_mov rfl) ?_
    refine ax_nil ?_
    exact ⟨_, k + 1, by omega, ⟨by omega, rfl, eqbL_step h1x h1y ht h2⟩, by repeat (first | exact trivial | refine ⟨rfl, ?_⟩ | refine ⟨?_, ?_⟩)⟩
  ·
   have h1 := dF h1
   refine cx_exit rfl ?_
   refine cx_keep rfl rfl ?_
   refine cx_seq ?_
   refine cx_ops ?_
   refine ax_q (q_mov rfl) ?_
   refine ax_nil ?_
   refine cx_keep rfl rfl ?_
   refine cx_ret (ret0 rfl rfl ?_)
   exact ⟨congrArg AM.bool (eqb_t (eq_of_take hl (by rwa [show k = xs.length from by omega] at ht))).symm, rfl⟩


/- loop.example/g00332/laws.eqStringS -/
def k_c_eqStringS : XCode :=
 .seq (.ops [.op (some 4) (.mov (.k (.bool false)))])
 (.keep [0, 1] (.seq (.seq (.ops [.op (some 6) (.mov (.t 0)),
   .op (some 7) (.lenS (.t 6)),
   .op (some 8) (.mov (.t 1)),
   .op (some 9) (.lenS (.t 8)),
   .op (some 10) (.bin .neq (.t 7) (.t 9))])
  (.keep [0, 1, 10] (.cond (.t 10)
  (.seq (.ops [.op (some 4) (.mov (.k (.bool false)))])
   (.keep [4] (.ret)))
  (.skip))))
 (.keep [0, 1] (.seq (.seq (.ops [.op (some 5) (.mov (.k (.int .i64 0)))])
  (.keep [0, 1, 5] (.block 0 (.loop (.seq (.seq (.ops [.op (some 11) (.mov (.t 5)),
     .op (some 12) (.mov (.t 0)),
     .op (some 13) (.lenS (.t 12)),
     .op (some 14) (.bin .lss (.t 11) (.t 13))])
   (.keep [0, 1, 5, 14] (.cond (.t 14)
    (.skip)
    (.exit 0))))
   (.keep [0, 1, 5] (.seq (.block 1 (.seq (.draw [.op (some 17) (.mov (.t 0)),
     .op (some 18) (.mov (.t 5)),
     .op (some 19) (.iadr 1 (.t 17) (.t 18)),
     .op (some 20) (.load1 (.t 19)),
     .op (some 21) (.mov (.t 1)),
     .op (some 22) (.mov (.t 5)),
     .op (some 23) (.iadr 1 (.t 21) (.t 22)),
     .op (some 24) (.load1 (.t 23)),
     .op (some 25) (.bin .neq (.t 20) (.t 24))])
    (.keep [0, 1, 5, 25] (.cond (.t 25)
    (.seq (.ops [.op (some 4) (.mov (.k (.bool false)))])
     (.keep [4] (.ret)))
    (.skip)))))
   (.keep [0, 1, 5] (.ops [.op (some 15) (.mov (.t 5)),
    .op (some 16) (.bin .add (.t 15) (.k (.int .i64 1))),
    .op (some 5) (.mov (.t 16))])))))))))
 (.keep [] (.seq (.ops [.op (some 4) (.mov (.k (.bool true)))])
 (.keep [4] (.ret))))))))
theorem k_c_eqStringS_fits : fitsF Try.prog 26 ⟨26, k_c_eqStringS, [.t 4]⟩ = true := by kernel_rfl
theorem c_eqStringS {xs ys : List Str} (hw : xs.length ≤ 9223372036854775807) : Con Try.prog noMv 26 [.d (.sl 1 (xs.map strRow)), .d (.sl 1 (ys.map strRow))] [] (fun r h => r = bool (eqb xs ys) ∧ h = []) := by
 refine con_of2 k_c_eqStringS_fits rfl fun C hP hmv => ?_
 unfold k_c_eqStringS
 refine cx_seq ?_
 refine cx_ops ?_
 refine ax_q (q_mov rfl) ?_
 refine ax_nil ?_
 refine cx_keep rfl rfl ?_
 refine cx_seq ?_
 refine cx_seq ?_
 refine cx_ops ?_
 refine ax_q (q_mov rfl) ?_
 first | refine ax_q (q_lenS_map rfl) ?_ | refine ax_q (q_lenS_osl rfl) ?_ | refine ax_q (q_lenS_zs rfl) ?_ | refine ax_q (q_lenS rfl) ?_
 refine ax_q (q_mov rfl) ?_
 first | refine ax_q (q_lenS_map rfl) ?_ | refine ax_q (q_lenS_osl rfl) ?_ | refine ax_q (q_lenS_zs rfl) ?_ | refine ax_q (q_lenS rfl) ?_
 refine ax_q (q_ibin rfl rfl rfl) ?_
 refine ax_nil ?_
 refine cx_keep rfl rfl ?_
 refine cx_cond rfl (fun h0 => ?_) (fun h0 => ?_)
 ·
  have h0 := nT h0
  refine cx_seq ?_
  refine cx_ops ?_
  refine ax_q (q_mov rfl) ?_
  refine ax_nil ?_
  refine cx_keep rfl rfl ?_
  refine cx_ret (ret0 rfl rfl ?_)
  exact ⟨congrArg AM.bool (eqb_f (fun h => h0 (by rw [h]))).symm, rfl⟩
 ·
  have h0 := nF h0
  refine cx_skip ?_
  refine cx_keep rfl rfl ?_
  refine cx_seq ?_
  refine cx_seq ?_
  refine cx_ops ?_
  refine ax_q (q_mov rfl) ?_
  refine ax_nil ?_
  refine cx_keep rfl rfl ?_
  refine cx_block ?_
  have hl : xs.length = ys.length := by omega
  refine cx_loopU (fun n k => k ≤ xs.length ∧ n = xs.length - k ∧ xs.take k = ys.take k) (fun k : Nat => [(5, int k)]) (fun _ => []) ⟨_, 0, ⟨Nat.zero_le _, rfl, rfl⟩, by repeat (first | exact trivial | refine ⟨rfl, ?_⟩ | refine ⟨?_, ?_⟩)⟩ ?_
  rintro n k ⟨hk, rfl, ht⟩
  refine cx_seq ?_
  refine cx_seq ?_
  refine cx_ops ?_
  refine ax_q (q_mov rfl) ?_
  refine ax_q (q_mov rfl) ?_
  first | refine ax_q (q_lenS_map rfl) ?_ | refine ax_q (q_lenS_osl rfl) ?_ | refine ax_q (q_lenS_zs rfl) ?_ | refine ax_q (q_lenS rfl) ?_
  refine ax_q (q_ibin rfl rfl rfl) ?_
  refine ax_nil ?_
  refine cx_keep rfl rfl ?_
  refine cx_cond rfl (fun h1 => ?_) (fun h1 => ?_)
  ·
   have h1 := dT h1
   have h1x : k < xs.length := by omega
   have h1y : k < ys.length := by omega
   refine cx_skip ?_
   refine cx_keep rfl rfl ?_
   refine cx_seq ?_
   refine cx_block ?_
   refine cx_seq ?_
   refine cx_draw ?_
   refine ax_q (q_mov rfl) ?_
   refine ax_q (q_mov rfl) ?_
   refine ax_q (q_ix rfl rfl (mapAt h1x)) ?_
   first | refine ax_q (q_load1_ptr rfl rfl rfl) ?_ | refine ax_q (q_load1_ip rfl) ?_ | refine ax_q (q_load1_rptr rfl rfl rfl rfl) ?_ | refine ax_q (q_load1_rptr rfl rfl (by assumption) rfl) ?_ | refine ax_q (q_load1_rptr rfl rfl (mapAt (by first | assumption | omega)) rfl) ?_
   refine ax_q (q_mov rfl) ?_
   refine ax_q (q_mov rfl) ?_
   refine ax_q (q_ix rfl rfl (mapAt h1y)) ?_
   first | refine ax_q (q_load1_ptr rfl rfl rfl) ?_ | refine ax_q (q_load1_ip rfl) ?_ | refine ax_q (q_load1_rptr rfl rfl rfl rfl) ?_ | refine ax_q (q_load1_rptr rfl rfl (by assumption) rfl) ?_ | refine ax_q (q_load1_rptr rfl rfl (mapAt (by first | assumption | omega)) rfl) ?_
   refine ax_q (q_sbin rfl rfl rfl) ?_
   refine ax_nil ?_
   refine cx_keep rfl rfl ?_
   refine cx_cond rfl (fun h2 => ?_) (fun h2 => ?_)
   ·
    have h2 := nT h2
    have h2 : xs[k] ≠ ys[k] := h2
    refine cx_seq ?_
    refine cx_ops ?_
    refine ax_q (q_mov rfl) ?_
    refine ax_nil ?_
    refine cx_keep rfl rfl ?_
    refine cx_ret (ret0 rfl rfl ?_)
    exact ⟨congrArg AM.bool (eqbL_no h1x h1y (eqb_f h2)).symm, rfl⟩
   ·
    have h2 := nF h2
    have h2 : xs[k] = ys[k] := h2
    refine cx_skip ?_
    refine cx_keep rfl rfl ?_
    refine cx_ops ?_
    refine ax_q (q_mov rfl) ?_
    refine ax_q (q_add rfl rfl (by omega)) ?_
    refine ax_q (q_mov rfl) ?_
    refine ax_nil ?_
    exact ⟨_, k + 1, by omega, ⟨by omega, rfl, take_step h1x h1y ht h2⟩, by repeat (first | exact trivial | refine ⟨rfl, ?_⟩ | refine ⟨?_, ?_⟩)⟩
  ·
   have h1 := dF h1
   refine cx_exit rfl ?_
   refine cx_keep rfl rfl ?_
   refine cx_seq ?_
   refine cx_ops ?_
   refine ax_q (q_mov rfl) ?_
   refine ax_nil ?_
   refine cx_keep rfl rfl ?_
   refine cx_ret (ret0 rfl rfl ?_)
   exact ⟨congrArg AM.bool (eqb_t (eq_of_take hl (by rwa [show k = xs.length from by omega] at ht))).symm, rfl⟩


/- loop.example/g00332/laws.eqPending -/
def k_c_eqPending : XCode :=
 .seq (.ops [.op (some 2) (.box (.t 0)),
   .op (some 3) (.box (.t 1)),
   .op (some 4) (.mov (.k (.bool false)))])
 (.keep [2, 3] (.seq (.seq (.ops [.op (some 5) (.fadr (.t 2) 0),
   .op (some 6) (.load1 (.t 5)),
   .op (some 7) (.fadr (.t 3) 0),
   .op (some 8) (.load1 (.t 7)),
   .op (some 9) (.bin .neq (.t 6) (.t 8))])
  (.keep [2, 3, 9] (.cond (.t 9)
  (.seq (.ops [.op (some 4) (.mov (.k (.bool false)))])
   (.keep [4] (.ret)))
  (.skip))))
 (.keep [2, 3] (.seq (.seq (.ops [.op (some 10) (.fadr (.t 2) 1),
   .op (some 11) (.load1 (.t 10)),
   .op (some 12) (.fadr (.t 3) 1),
   .op (some 13) (.load1 (.t 12)),
   .op (some 14) (.bin .neq (.t 11) (.t 13))])
  (.keep [14] (.cond (.t 14)
  (.seq (.ops [.op (some 4) (.mov (.k (.bool false)))])
   (.keep [4] (.ret)))
  (.skip))))
 (.keep [] (.seq (.ops [.op (some 4) (.mov (.k (.bool true)))])
 (.keep [4] (.ret))))))))
theorem k_c_eqPending_fits : fitsF Try.prog 44 ⟨15, k_c_eqPending, [.t 4]⟩ = true := by kernel_rfl
theorem c_eqPending {a b : GPending}  : Con Try.prog noMv 44 [a.av, b.av] [] (fun r h => r = bool (eqb a b) ∧ h = []) := by
 refine con_of2 k_c_eqPending_fits rfl fun C hP hmv => ?_
 unfold k_c_eqPending
 refine cx_seq ?_
 refine cx_ops ?_
 refine ax_e (e_box rfl rfl (by decide) rfl rfl rfl) ?_
 refine ax_e (e_box rfl rfl (by decide) rfl rfl rfl) ?_
 refine ax_q (q_mov rfl) ?_
 refine ax_nil ?_
 refine cx_keep rfl rfl ?_
 refine cx_seq ?_
 refine cx_seq ?_
 refine cx_ops ?_
 refine ax_q (q_fadr_ptr rfl) ?_
 refine ax_q (q_load1_ptr rfl rfl rfl) ?_
 refine ax_q (q_fadr_ptr rfl) ?_
 refine ax_q (q_load1_ptr rfl rfl rfl) ?_
 refine ax_q (q_ibin rfl rfl rfl) ?_
 refine ax_nil ?_
 refine cx_keep rfl rfl ?_
 refine cx_cond rfl (fun h0 => ?_) (fun h0 => ?_)
 ·
  have h0 := nT h0
  refine cx_seq ?_
  refine cx_ops ?_
  refine ax_q (q_mov rfl) ?_
  refine ax_nil ?_
  refine cx_keep rfl rfl ?_
  refine cx_ret (ret0 rfl rfl ?_)
  exact ⟨congrArg AM.bool (eqb_f (fun h => h0 (by rw [h]))).symm, rfl⟩
 ·
  have h0 := nF h0
  refine cx_skip ?_
  refine cx_keep rfl rfl ?_
  refine cx_seq ?_
  refine cx_seq ?_
  refine cx_ops ?_
  refine ax_q (q_fadr_ptr rfl) ?_
  refine ax_q (q_load1_ptr rfl rfl rfl) ?_
  refine ax_q (q_fadr_ptr rfl) ?_
  refine ax_q (q_load1_ptr rfl rfl rfl) ?_
  refine ax_q (q_sbin rfl rfl rfl) ?_
  refine ax_nil ?_
  refine cx_keep rfl rfl ?_
  refine cx_cond rfl (fun h1 => ?_) (fun h1 => ?_)
  ·
   have h1 := nT h1
   refine cx_seq ?_
   refine cx_ops ?_
   refine ax_q (q_mov rfl) ?_
   refine ax_nil ?_
   refine cx_keep rfl rfl ?_
   refine cx_ret (ret0 rfl rfl ?_)
   exact ⟨congrArg AM.bool (eqb_f (fun h => h1 (by rw [h]))).symm, rfl⟩
  ·
   have h1 := nF h1
   refine cx_skip ?_
   refine cx_keep rfl rfl ?_
   refine cx_seq ?_
   refine cx_ops ?_
   refine ax_q (q_mov rfl) ?_
   refine ax_nil ?_
   refine cx_keep rfl rfl ?_
   refine cx_ret (ret0 rfl rfl ?_)
   exact ⟨congrArg AM.bool (eqb_t (GPending.ext1 h0 h1)).symm, rfl⟩


/- loop.example/g00332/laws.eqPendingS -/
def k_c_eqPendingS : XCode :=
 .seq (.ops [.op (some 4) (.mov (.k (.bool false)))])
 (.keep [0, 1] (.seq (.seq (.ops [.op (some 6) (.mov (.t 0)),
   .op (some 7) (.lenS (.t 6)),
   .op (some 8) (.mov (.t 1)),
   .op (some 9) (.lenS (.t 8)),
   .op (some 10) (.bin .neq (.t 7) (.t 9))])
  (.keep [0, 1, 10] (.cond (.t 10)
  (.seq (.ops [.op (some 4) (.mov (.k (.bool false)))])
   (.keep [4] (.ret)))
  (.skip))))
 (.keep [0, 1] (.seq (.seq (.ops [.op (some 5) (.mov (.k (.int .i64 0)))])
  (.keep [0, 1, 5] (.block 0 (.loop (.seq (.seq (.ops [.op (some 11) (.mov (.t 5)),
     .op (some 12) (.mov (.t 0)),
     .op (some 13) (.lenS (.t 12)),
     .op (some 14) (.bin .lss (.t 11) (.t 13))])
   (.keep [0, 1, 5, 14] (.cond (.t 14)
    (.skip)
    (.exit 0))))
   (.keep [0, 1, 5] (.seq (.block 1 (.seq (.draw [.op (some 17) (.mov (.t 0)),
     .op (some 18) (.mov (.t 5)),
     .op (some 19) (.iadr 2 (.t 17) (.t 18)),
     .op (some 20) (.loadN 2 (.t 19)),
     .op (some 21) (.mov (.t 1)),
     .op (some 22) (.mov (.t 5)),
     .op (some 23) (.iadr 2 (.t 21) (.t 22)),
     .op (some 24) (.loadN 2 (.t 23)),
     .call (some 25) 44 [.t 20, .t 24],
     .op (some 26) (.not (.t 25))])
    (.keep [0, 1, 5, 26] (.cond (.t 26)
    (.seq (.ops [.op (some 4) (.mov (.k (.bool false)))])
     (.keep [4] (.ret)))
    (.skip)))))
   (.keep [0, 1, 5] (.ops [.op (some 15) (.mov (.t 5)),
    .op (some 16) (.bin .add (.t 15) (.k (.int .i64 1))),
    .op (some 5) (.mov (.t 16))])))))))))
 (.keep [] (.seq (.ops [.op (some 4) (.mov (.k (.bool true)))])
 (.keep [4] (.ret))))))))
theorem k_c_eqPendingS_fits : fitsF Try.prog 27 ⟨27, k_c_eqPendingS, [.t 4]⟩ = true := by kernel_rfl
theorem c_eqPendingS {xs ys : List GPending} (hw : xs.length ≤ 9223372036854775807) : Con Try.prog noMv 27 [.d (.sl 2 (xs.map GPending.row)), .d (.sl 2 (ys.map GPending.row))] [] (fun r h => r = bool (eqb xs ys) ∧ h = []) := by
 refine con_of2 k_c_eqPendingS_fits rfl fun C hP hmv => ?_
 unfold k_c_eqPendingS
 refine cx_seq ?_
 refine cx_ops ?_
 refine ax_q (q_mov rfl) ?_
 refine ax_nil ?_
 refine cx_keep rfl rfl ?_
 refine cx_seq ?_
 refine cx_seq ?_
 refine cx_ops ?_
 refine ax_q (q_mov rfl) ?_
 first | refine ax_q (q_lenS_map rfl) ?_ | refine ax_q (q_lenS_osl rfl) ?_ | refine ax_q (q_lenS_zs rfl) ?_ | refine ax_q (q_lenS rfl) ?_
 refine ax_q (q_mov rfl) ?_
 first | refine ax_q (q_lenS_map rfl) ?_ | refine ax_q (q_lenS_osl rfl) ?_ | refine ax_q (q_lenS_zs rfl) ?_ | refine ax_q (q_lenS rfl) ?_
 refine ax_q (q_ibin rfl rfl rfl) ?_
 refine ax_nil ?_
 refine cx_keep rfl rfl ?_
 refine cx_cond rfl (fun h0 => ?_) (fun h0 => ?_)
 ·
  have h0 := nT h0
  refine cx_seq ?_
  refine cx_ops ?_
  refine ax_q (q_mov rfl) ?_
  refine ax_nil ?_
  refine cx_keep rfl rfl ?_
  refine cx_ret (ret0 rfl rfl ?_)
  exact ⟨congrArg AM.bool (eqb_f (fun h => h0 (by rw [h]))).symm, rfl⟩
 ·
  have h0 := nF h0
  refine cx_skip ?_
  refine cx_keep rfl rfl ?_
  refine cx_seq ?_
  refine cx_seq ?_
  refine cx_ops ?_
  refine ax_q (q_mov rfl) ?_
  refine ax_nil ?_
  refine cx_keep rfl rfl ?_
  refine cx_block ?_
  have hl : xs.length = ys.length := by omega
  refine cx_loopU (fun n k => k ≤ xs.length ∧ n = xs.length - k ∧ xs.take k = ys.take k) (fun k : Nat => [(5, int k)]) (fun _ => []) ⟨_, 0, ⟨Nat.zero_le _, rfl, rfl⟩, by repeat (first | exact trivial | refine ⟨rfl, ?_⟩ | refine ⟨?_, ?_⟩)⟩ ?_
  rintro n k ⟨hk, rfl, ht⟩
  refine cx_seq ?_
  refine cx_seq ?_
  refine cx_ops ?_
  refine ax_q (q_mov rfl) ?_
  refine ax_q (q_mov rfl) ?_
  first | refine ax_q (q_lenS_map rfl) ?_ | refine ax_q (q_lenS_osl rfl) ?_ | refine ax_q (q_lenS_zs rfl) ?_ | refine ax_q (q_lenS rfl) ?_
  refine ax_q (q_ibin rfl rfl rfl) ?_
  refine ax_nil ?_
  refine cx_keep rfl rfl ?_
  refine cx_cond rfl (fun h1 => ?_) (fun h1 => ?_)
  ·
   have h1 := dT h1
   have h1x : k < xs.length := by omega
   have h1y : k < ys.length := by omega
   refine cx_skip ?_
   refine cx_keep rfl rfl ?_
   refine cx_seq ?_
   refine cx_block ?_
   refine cx_seq ?_
   refine cx_draw ?_
   refine ax_q (q_mov rfl) ?_
   refine ax_q (q_mov rfl) ?_
   refine ax_q (q_ix rfl rfl (mapAt h1x)) ?_
   first | refine ax_q (q_ldN rfl rfl rfl) ?_ | refine ax_q (q_loadN_ip rfl (Nat.le_refl _)) ?_ | refine ax_q (q_loadN_ip rfl (by decide)) ?_ | refine ax_q (q_loadN_rptr rfl rfl (by assumption) (by decide)) ?_ | refine ax_q (q_loadN_rptr rfl rfl (mapAt (by first | assumption | omega)) (by decide)) ?_
   refine ax_q (q_mov rfl) ?_
   refine ax_q (q_mov rfl) ?_
   refine ax_q (q_ix rfl rfl (mapAt h1y)) ?_
   first | refine ax_q (q_ldN rfl rfl rfl) ?_ | refine ax_q (q_loadN_ip rfl (Nat.le_refl _)) ?_ | refine ax_q (q_loadN_ip rfl (by decide)) ?_ | refine ax_q (q_loadN_rptr rfl rfl (by assumption) (by decide)) ?_ | refine ax_q (q_loadN_rptr rfl rfl (mapAt (by first | assumption | omega)) (by decide)) ?_
   first | refine ax_callq rfl (c_eqPending) hP (lal_id _ rfl) rfl ?_ | refine ax_call rfl (vc_pure0 (c_eqPending) hP rfl rfl ?_)
   refine ax_q (q_not rfl) ?_
   refine ax_nil ?_
   refine cx_keep rfl rfl ?_
   refine cx_cond rfl (fun h2 => ?_) (fun h2 => ?_)
   ·
    have h2 := bT h2
    refine cx_seq ?_
    refine cx_ops ?_
    refine ax_q (q_mov rfl) ?_
    refine ax_nil ?_
    refine cx_keep rfl rfl ?_
    refine cx_ret (ret0 rfl rfl ?_)
    exact ⟨congrArg AM.bool (eqbL_no h1x h1y h2).symm, rfl⟩
   ·
    have h2 := bF h2
    refine cx_skip ?_
    refine cx_keep rfl rfl ?_
    refine cx_ops ?_
    refine ax_q (q_mov rfl) ?_
    refine ax_q (q_add rfl rfl (by omega)) ?_
    refine ax_q (q_mov rfl) ?_
    refine ax_nil ?_
    exact ⟨_, k + 1, by omega, ⟨by omega, rfl, eqbL_step h1x h1y ht h2⟩, by repeat (first | exact trivial | refine ⟨rfl, ?_⟩ | refine ⟨?_, ?_⟩)⟩
  ·
   have h1 := dF h1
   refine cx_exit rfl ?_
   refine cx_keep rfl rfl ?_
   refine cx_seq ?_
   refine cx_ops ?_
   refine ax_q (q_mov rfl) ?_
   refine ax_nil ?_
   refine cx_keep rfl rfl ?_
   refine cx_ret (ret0 rfl rfl ?_)
   exact ⟨congrArg AM.bool (eqb_t (eq_of_take hl (by rwa [show k = xs.length from by omega] at ht))).symm, rfl⟩


/- loop.example/g00332/laws.eqIntS -/
def k_c_eqIntS : XCode :=
 .seq (.ops [.op (some 4) (.mov (.k (.bool false)))])
 (.keep [0, 1] (.seq (.seq (.ops [.op (some 6) (.mov (.t 0)),
   .op (some 7) (.lenS (.t 6)),
   .op (some 8) (.mov (.t 1)),
   .op (some 9) (.lenS (.t 8)),
   .op (some 10) (.bin .neq (.t 7) (.t 9))])
  (.keep [0, 1, 10] (.cond (.t 10)
  (.seq (.ops [.op (some 4) (.mov (.k (.bool false)))])
   (.keep [4] (.ret)))
  (.skip))))
 (.keep [0, 1] (.seq (.seq (.ops [.op (some 5) (.mov (.k (.int .i64 0)))])
  (.keep [0, 1, 5] (.block 0 (.loop (.seq (.seq (.ops [.op (some 11) (.mov (.t 5)),
     .op (some 12) (.mov (.t 0)),
     .op (some 13) (.lenS (.t 12)),
     .op (some 14) (.bin .lss (.t 11) (.t 13))])
   (.keep [0, 1, 5, 14] (.cond (.t 14)
    (.skip)
    (.exit 0))))
   (.keep [0, 1, 5] (.seq (.block 1 (.seq (.draw [.op (some 17) (.mov (.t 0)),
     .op (some 18) (.mov (.t 5)),
     .op (some 19) (.iadr 1 (.t 17) (.t 18)),
     .op (some 20) (.load1 (.t 19)),
     .op (some 21) (.mov (.t 1)),
     .op (some 22) (.mov (.t 5)),
     .op (some 23) (.iadr 1 (.t 21) (.t 22)),
     .op (some 24) (.load1 (.t 23)),
     .op (some 25) (.bin .neq (.t 20) (.t 24))])
    (.keep [0, 1, 5, 25] (.cond (.t 25)
    (.seq (.ops [.op (some 4) (.mov (.k (.bool false)))])
     (.keep [4] (.ret)))
    (.skip)))))
   (.keep [0, 1, 5] (.ops [.op (some 15) (.mov (.t 5)),
    .op (some 16) (.bin .add (.t 15) (.k (.int .i64 1))),
    .op (some 5) (.mov (.t 16))])))))))))
 (.keep [] (.seq (.ops [.op (some 4) (.mov (.k (.bool true)))])
 (.keep [4] (.ret))))))))
theorem k_c_eqIntS_fits : fitsF Try.prog 28 ⟨26, k_c_eqIntS, [.t 4]⟩ = true := by kernel_rfl
theorem c_eqIntS {xs ys : List Int} (hw : xs.length ≤ 9223372036854775807) : Con Try.prog noMv 28 [.d (.sl 1 (xs.map intRow)), .d (.sl 1 (ys.map intRow))] [] (fun r h => r = bool (eqb xs ys) ∧ h = []) := by
 refine con_of2 k_c_eqIntS_fits rfl fun C hP hmv => ?_
 unfold k_c_eqIntS
 refine cx_seq ?_
 refine cx_ops ?_
 refine ax_q (q_mov rfl) ?_
 refine ax_nil ?_
 refine cx_keep rfl rfl ?_
 refine cx_seq ?_
 refine cx_seq ?_
 refine cx_ops ?_
 refine ax_q (q_mov rfl) ?_
 first | refine ax_q (q_lenS_map rfl) ?_ | refine ax_q (q_lenS_osl rfl) ?_ | refine ax_q (q_lenS_zs rfl) ?_ | refine ax_q (q_lenS rfl) ?_
 refine ax_q (q_mov rfl) ?_
 first | refine ax_q (q_lenS_map rfl) ?_ | refine ax_q (q_lenS_osl rfl) ?_ | refine ax_q (q_lenS_zs rfl) ?_ | refine ax_q (q_lenS rfl) ?_
 refine ax_q (q_ibin rfl rfl rfl) ?_
 refine ax_nil ?_
 refine cx_keep rfl rfl ?_
 refine cx_cond rfl (fun h0 => ?_) (fun h0 => ?_)
 ·
  have h0 := nT h0
  refine cx_seq ?_
  refine cx_ops ?_
  refine ax_q (q_mov rfl) ?_
  refine ax_nil ?_
  refine cx_keep rfl rfl ?_
  refine cx_ret (ret0 rfl rfl ?_)
  exact ⟨congrArg AM.bool (eqb_f (fun h => h0 (by rw [h]))).symm, rfl⟩
 ·
  have h0 := nF h0
  refine cx_skip ?_
  refine cx_keep rfl rfl ?_
  refine cx_seq ?_
  refine cx_seq ?_
  refine cx_ops ?_
  refine ax_q (q_mov rfl) ?_
  refine ax_nil ?_
  refine cx_keep rfl rfl ?_
  refine cx_block ?_
  have hl : xs.length = ys.length := by omega
  refine cx_loopU (fun n k => k ≤ xs.length ∧ n = xs.length - k ∧ xs.take k = ys.take k) (fun k : Nat => [(5, int k)]) (fun _ => []) ⟨_, 0, ⟨Nat.zero_le _, rfl, rfl⟩, by repeat (first | exact trivial | refine ⟨rfl, ?_⟩ | refine ⟨?_, ?_⟩)⟩ ?_
  rintro n k ⟨hk, rfl, ht⟩
  refine cx_seq ?_
  refine cx_seq ?_
  refine cx_ops ?_
  refine ax_q (q_mov rfl) ?_
  refine ax_q (q_mov rfl) ?_
  first | refine ax_q (q_lenS_map rfl) ?_ | refine ax_q (q_lenS_osl rfl) ?_ | refine ax_q (q_lenS_zs rfl) ?_ | refine ax_q (q_lenS rfl) ?_
  refine ax_q (q_ibin rfl rfl rfl) ?_
  refine ax_nil ?_
  refine cx_keep rfl rfl ?_
  refine cx_cond rfl (fun h1 => ?_) (fun h1 => ?_)
  ·
   have h1 := dT h1
   have h1x : k < xs.length := by omega
   have h1y : k < ys.length := by omega
   refine cx_skip ?_
   refine cx_keep rfl rfl ?_
   refine cx_seq ?_
   refine cx_block ?_
   refine cx_seq ?_
   refine cx_draw ?_
   refine ax_q (q_mov rfl) ?_
   refine ax_q (q_mov rfl) ?_
   refine ax_q (q_ix rfl rfl (mapAt h1x)) ?_
   first | refine ax_q (q_load1_ptr rfl rfl rfl) ?_ | refine ax_q (q_load1_ip rfl) ?_ | refine ax_q (q_load1_rptr rfl rfl rfl rfl) ?_ | refine ax_q (q_load1_rptr rfl rfl (by assumption) rfl) ?_ | refine ax_q (q_load1_rptr rfl rfl (mapAt (by first | assumption | omega)) rfl) ?_
   refine ax_q (q_mov rfl) ?_
   refine ax_q (q_mov rfl) ?_
   refine ax_q (q_ix rfl rfl (mapAt h1y)) ?_
   first | refine ax_q (q_load1_ptr rfl rfl rfl) ?_ | refine ax_q (q_load1_ip rfl) ?_ | refine ax_q (q_load1_rptr rfl rfl rfl rfl) ?_ | refine ax_q (q_load1_rptr rfl rfl (by assumption) rfl) ?_ | refine ax_q (q_load1_rptr rfl rfl (mapAt (by first | assumption | omega)) rfl) ?_
   refine ax_q (q_ibin rfl rfl rfl) ?_
   refine ax_nil ?_
   refine cx_keep rfl rfl ?_
   refine cx_cond rfl (fun h2 => ?_) (fun h2 => ?_)
   ·
    have h2 := nT h2
    have h2 : xs[k] ≠ ys[k] := h2
    refine cx_seq ?_
    refine cx_ops ?_
    refine ax_q (q_mov rfl) ?_
    refine ax_nil ?_
    refine cx_keep rfl rfl ?_
    refine cx_ret (ret0 rfl rfl ?_)
    exact ⟨congrArg AM.bool (eqbL_no h1x h1y (eqb_f h2)).symm, rfl⟩
   ·
    have h2 := nF h2
    have h2 : xs[k] = ys[k] := h2
    refine cx_skip ?_
    refine cx_keep rfl rfl ?_
    refine cx_ops ?_
    refine ax_q (q_mov rfl) ?_
    refine ax_q (q_add rfl rfl (by omega)) ?_
    refine ax_q (q_mov rfl) ?_
    refine ax_nil ?_
    exact ⟨_, k + 1, by omega, ⟨by omega, rfl, take_step h1x h1y ht h2⟩, by repeat (first | exact trivial | refine ⟨rfl, ?_⟩ | refine ⟨?_, ?_⟩)⟩
  ·
   have h1 := dF h1
   refine cx_exit rfl ?_
   refine cx_keep rfl rfl ?_
   refine cx_seq ?_
   refine cx_ops ?_
   refine ax_q (q_mov rfl) ?_
   refine ax_nil ?_
   refine cx_keep rfl rfl ?_
   refine cx_ret (ret0 rfl rfl ?_)
   exact ⟨congrArg AM.bool (eqb_t (eq_of_take hl (by rwa [show k = xs.length from by omega] at ht))).symm, rfl⟩


/- loop.example/g00332/laws.eqDisk -/
def k_c_eqDisk : XCode :=
 .seq (.ops [.op (some 2) (.box (.t 0)),
   .op (some 3) (.box (.t 1)),
   .op (some 4) (.mov (.k (.bool false)))])
 (.keep [2, 3] (.seq (.seq (.ops [.op (some 5) (.fadr (.t 2) 0),
   .op (some 6) (.load1 (.t 5)),
   .op (some 7) (.fadr (.t 3) 0),
   .op (some 8) (.load1 (.t 7)),
   .call (some 9) 26 [.t 6, .t 8],
   .op (some 10) (.not (.t 9))])
  (.keep [2, 3, 10] (.cond (.t 10)
  (.seq (.ops [.op (some 4) (.mov (.k (.bool false)))])
   (.keep [4] (.ret)))
  (.skip))))
 (.keep [2, 3] (.seq (.seq (.ops [.op (some 11) (.fadr (.t 2) 1),
   .op (some 12) (.load1 (.t 11)),
   .op (some 13) (.fadr (.t 3) 1),
   .op (some 14) (.load1 (.t 13)),
   .call (some 15) 27 [.t 12, .t 14],
   .op (some 16) (.not (.t 15))])
  (.keep [2, 3, 16] (.cond (.t 16)
  (.seq (.ops [.op (some 4) (.mov (.k (.bool false)))])
   (.keep [4] (.ret)))
  (.skip))))
 (.keep [2, 3] (.seq (.seq (.ops [.op (some 17) (.fadr (.t 2) 2),
   .op (some 18) (.load1 (.t 17)),
   .op (some 19) (.fadr (.t 3) 2),
   .op (some 20) (.load1 (.t 19)),
   .op (some 21) (.eqb true (.t 18) (.t 20))])
  (.keep [2, 3, 21] (.cond (.t 21)
  (.seq (.ops [.op (some 4) (.mov (.k (.bool false)))])
   (.keep [4] (.ret)))
  (.skip))))
 (.keep [2, 3] (.seq (.seq (.ops [.op (some 22) (.fadr (.t 2) 3),
   .op (some 23) (.load1 (.t 22)),
   .op (some 24) (.fadr (.t 3) 3),
   .op (some 25) (.load1 (.t 24)),
   .call (some 26) 28 [.t 23, .t 25],
   .op (some 27) (.not (.t 26))])
  (.keep [27] (.cond (.t 27)
  (.seq (.ops [.op (some 4) (.mov (.k (.bool false)))])
   (.keep [4] (.ret)))
  (.skip))))
 (.keep [] (.seq (.ops [.op (some 4) (.mov (.k (.bool true)))])
 (.keep [4] (.ret))))))))))))
theorem k_c_eqDisk_fits : fitsF Try.prog 9 ⟨28, k_c_eqDisk, [.t 4]⟩ = true := by kernel_rfl
theorem c_eqDisk {a b : GDisk} (hw0 : a.Sectors.length ≤ 9223372036854775807) (hw1 : a.Cache.length ≤ 9223372036854775807) (hw2 : a.Keep.length ≤ 9223372036854775807) : Con Try.prog noMv 9 [a.av, b.av] [] (fun r h => r = bool (eqb a b) ∧ h = []) := by
 refine con_of2 k_c_eqDisk_fits rfl fun C hP hmv => ?_
 unfold k_c_eqDisk
 refine cx_seq ?_
 refine cx_ops ?_
 refine ax_e (e_box rfl rfl (by decide) rfl rfl rfl) ?_
 refine ax_e (e_box rfl rfl (by decide) rfl rfl rfl) ?_
 refine ax_q (q_mov rfl) ?_
 refine ax_nil ?_
 refine cx_keep rfl rfl ?_
 refine cx_seq ?_
 refine cx_seq ?_
 refine cx_ops ?_
 refine ax_q (q_fadr_ptr rfl) ?_
 refine ax_q (q_load1_ptr rfl rfl rfl) ?_
 refine ax_q (q_fadr_ptr rfl) ?_
 refine ax_q (q_load1_ptr rfl rfl rfl) ?_
 first | refine ax_call rfl (vc_pure0 (c_eqStringS  ?_) hP rfl rfl ?_) | refine ax_call rfl (vc_lend0 (c_eqStringS  ?_) hP (by repeat (first | exact lal_id _ rfl | exact LAL.nil | refine LAL.cons ?_ ?_ | exact la_id _ rfl | exact LA.lend (lend_whole rfl (by first | (simp; done) | (rw [List.length_map]; rfl))) | refine LA.agg ?_ | refine LA.fn ?_ | refine LA.lend ?_ | exact Lend.d _ | exact Lend.zs _ | exact lend_whole rfl (by first | (simp; done) | (rw [List.length_map]; rfl)) | refine Lend.ptr rfl ?_ | refine Lend.fn ?_ | exact LendL.nil | refine LendL.cons ?_ ?_)) rfl rfl ?_)
 ·
  first | assumption | omega | (simp; done) | (simp; omega)
 refine ax_q (q_not rfl) ?_
 refine ax_nil ?_
 refine cx_keep rfl rfl ?_
 refine cx_cond rfl (fun h0 => ?_) (fun h0 => ?_)
 ·
  have h0 := bT h0
  refine cx_seq ?_
  refine cx_ops ?_
  refine ax_q (q_mov rfl) ?_
  refine ax_nil ?_
  refine cx_keep rfl rfl ?_
  refine cx_ret (ret0 rfl rfl ?_)
  exact ⟨congrArg AM.bool (eqb_f (fun h => by rw [h, eqb_rfl] at h0; cases h0)).symm, rfl⟩
 ·
  have h0 := bF h0
  refine cx_skip ?_
  refine cx_keep rfl rfl ?_
  refine cx_seq ?_
  refine cx_seq ?_
  refine cx_ops ?_
  refine ax_q (q_fadr_ptr rfl) ?_
  refine ax_q (q_load1_ptr rfl rfl rfl) ?_
  refine ax_q (q_fadr_ptr rfl) ?_
  refine ax_q (q_load1_ptr rfl rfl rfl) ?_
  first | refine ax_call rfl (vc_pure0 (c_eqPendingS  ?_) hP rfl rfl ?_) | refine ax_call rfl (vc_lend0 (c_eqPendingS  ?_) hP (by repeat (first | exact lal_id _ rfl | exact LAL.nil | refine LAL.cons ?_ ?_ | exact la_id _ rfl | exact LA.lend (lend_whole rfl (by first | (simp; done) | (rw [List.length_map]; rfl))) | refine LA.agg ?_ | refine LA.fn ?_ | refine LA.lend ?_ | exact Lend.d _ | exact Lend.zs _ | exact lend_whole rfl (by first | (simp; done) | (rw [List.length_map]; rfl)) | refine Lend.ptr rfl ?_ | refine Lend.fn ?_ | exact LendL.nil | refine LendL.cons ?_ ?_)) rfl rfl ?_)
  ·
   first | assumption | omega | (simp; done) | (simp; omega)
  refine ax_q (q_not rfl) ?_
  refine ax_nil ?_
  refine cx_keep rfl rfl ?_
  refine cx_cond rfl (fun h1 => ?_) (fun h1 => ?_)
  ·
   have h1 := bT h1
   refine cx_seq ?_
   refine cx_ops ?_
   refine ax_q (q_mov rfl) ?_
   refine ax_nil ?_
   refine cx_keep rfl rfl ?_
   refine cx_ret (ret0 rfl rfl ?_)
   exact ⟨congrArg AM.bool (eqb_f (fun h => by rw [h, eqb_rfl] at h1; cases h1)).symm, rfl⟩
  ·
   have h1 := bF h1
   refine cx_skip ?_
   refine cx_keep rfl rfl ?_
   refine cx_seq ?_
   refine cx_seq ?_
   refine cx_ops ?_
   refine ax_q (q_fadr_ptr rfl) ?_
   refine ax_q (q_load1_ptr rfl rfl rfl) ?_
   refine ax_q (q_fadr_ptr rfl) ?_
   refine ax_q (q_load1_ptr rfl rfl rfl) ?_
   refine ax_q (q_eqb rfl rfl) ?_
   refine ax_nil ?_
   refine cx_keep rfl rfl ?_
   refine cx_cond rfl (fun h2 => ?_) (fun h2 => ?_)
   ·
    have h2 := bneT h2
    refine cx_seq ?_
    refine cx_ops ?_
    refine ax_q (q_mov rfl) ?_
    refine ax_nil ?_
    refine cx_keep rfl rfl ?_
    refine cx_ret (ret0 rfl rfl ?_)
    exact ⟨congrArg AM.bool (eqb_f (fun h => h2 (by rw [h]))).symm, rfl⟩
   ·
    have h2 := bneF h2
    refine cx_skip ?_
    refine cx_keep rfl rfl ?_
    refine cx_seq ?_
    refine cx_seq ?_
    refine cx_ops ?_
    refine ax_q (q_fadr_ptr rfl) ?_
    refine ax_q (q_load1_ptr rfl rfl rfl) ?_
    refine ax_q (q_fadr_ptr rfl) ?_
    refine ax_q (q_load1_ptr rfl rfl rfl) ?_
    first | refine ax_call rfl (vc_pure0 (c_eqIntS  ?_) hP rfl rfl ?_) | refine ax_call rfl (vc_lend0 (c_eqIntS  ?_) hP (by repeat (first | exact lal_id _ rfl | exact LAL.nil | refine LAL.cons ?_ ?_ | exact la_id _ rfl | exact LA.lend (lend_whole rfl (by first | (simp; done) | (rw [List.length_map]; rfl))) | refine LA.agg ?_ | refine LA.fn ?_ | refine LA.lend ?_ | exact Lend.d _ | exact Lend.zs _ | exact lend_whole rfl (by first | (simp; done) | (rw [List.length_map]; rfl)) | refine Lend.ptr rfl ?_ | refine Lend.fn ?_ | exact LendL.nil | refine LendL.cons ?_ ?_)) rfl rfl ?_)
    ·
     first | assumption | omega | (simp; done) | (simp; omega)
    refine ax_q (q_not rfl) ?_
    refine ax_nil ?_
    refine cx_keep rfl rfl ?_
    refine cx_cond rfl (fun h3 => ?_) (fun h3 => ?_)
    ·
     have h3 := bT h3
     refine cx_seq ?_
     refine cx_ops ?_
     refine ax_q (q_mov rfl) ?_
     refine ax_nil ?_
     refine cx_keep rfl rfl ?_
     refine cx_ret (ret0 rfl rfl ?_)
     exact ⟨congrArg AM.bool (eqb_f (fun h => by rw [h, eqb_rfl] at h3; cases h3)).symm, rfl⟩
    ·
     have h3 := bF h3
     refine cx_skip ?_
     refine cx_keep rfl rfl ?_
     refine cx_seq ?_
     refine cx_ops ?_
     refine ax_q (q_mov rfl) ?_
     refine ax_nil ?_
     refine cx_keep rfl rfl ?_
     refine cx_ret (ret0 rfl rfl ?_)
     exact ⟨congrArg AM.bool (eqb_t (GDisk.ext1 (eqb_iff.1 h0) (eqb_iff.1 h1) h2 (eqb_iff.1 h3))).symm, rfl⟩


/- loop.example/g00332/laws.markText -/
def k_c_markText : XCode :=
 .seq (.ops [.op (some 2) (.mov (.k (.str [])))])
 (.keep [0] (.seq (.seq (.ops [.op (some 4) (.mov (.t 0)),
   .op (some 5) (.bin .leq (.t 4) (.k (.int .i64 0)))])
  (.keep [0, 5] (.cond (.t 5)
  (.seq (.ops [.op (some 2) (.mov (.k (.str [109, 48])))])
   (.keep [2] (.ret)))
  (.skip))))
 (.keep [0] (.seq (.ops [.op (some 3) (.mov (.k (.str [])))])
 (.keep [0, 3] (.seq (.block 0 (.loop (.seq (.seq (.ops [.op (some 6) (.mov (.t 0)),
     .op (some 7) (.bin .gtr (.t 6) (.k (.int .i64 0)))])
   (.keep [0, 3, 7] (.cond (.t 7)
    (.skip)
    (.exit 0))))
   (.keep [0, 3] (.block 1 (.seq (.ops [.op (some 8) (.mov (.t 0)),
     .op (some 9) (.bin .rem (.t 8) (.k (.int .i64 10))),
     .op (some 10) (.bin .add (.k (.int .i64 48)) (.t 9)),
     .op (some 11) (.conv .u8 (.t 10)),
     .op (some 12) (.bslice 1 [.t 11]),
     .op (some 13) (.b2s (.t 12)),
     .op (some 14) (.mov (.t 3)),
     .op (some 15) (.bin .add (.t 13) (.t 14)),
     .op (some 3) (.mov (.t 15))])
   (.keep [0, 3] (.ops [.op (some 16) (.mov (.t 0)),
    .op (some 17) (.bin .quo (.t 16) (.k (.int .i64 10))),
    .op (some 0) (.mov (.t 17))]))))))))
 (.keep [3] (.seq (.ops [.op (some 18) (.mov (.t 3)),
   .op (some 19) (.bin .add (.k (.str [109])) (.t 18)),
   .op (some 2) (.mov (.t 19))])
 (.keep [2] (.ret))))))))))
theorem k_c_markText_fits : fitsF Try.prog 32 ⟨20, k_c_markText, [.t 2]⟩ = true := by kernel_rfl
theorem c_markText {k : Nat} (hk : k ≤ 1000000000000000000) : Con Try.prog noMv 32 [int k] [] (fun r h => r = str (mkT k) ∧ h = []) := by
 refine con_of2 k_c_markText_fits rfl fun C hP hmv => ?_
 unfold k_c_markText
 refine cx_seq ?_
 refine cx_ops ?_
 refine ax_q (q_mov rfl) ?_
 refine ax_nil ?_
 refine cx_keep rfl rfl ?_
 refine cx_seq ?_
 refine cx_seq ?_
 refine cx_ops ?_
 refine ax_q (q_mov rfl) ?_
 refine ax_q (q_ibin rfl rfl rfl) ?_
 refine ax_nil ?_
 refine cx_keep rfl rfl ?_
 refine cx_cond rfl (fun h1 => ?_) (fun h1 => ?_)
 ·
  have h1 : k = 0 := by have := of_decide_eq_true h1; omega
  refine cx_seq ?_
  refine cx_ops ?_
  refine ax_q (q_mov rfl) ?_
  refine ax_nil ?_
  refine cx_keep rfl rfl ?_
  refine cx_ret (ret0 rfl rfl ?_)
  exact ⟨by rw [mkT, if_pos h1]; rfl, rfl⟩
 ·
  have h1 : k ≠ 0 := by have := of_decide_eq_false h1; omega
  refine cx_skip ?_
  refine cx_keep rfl rfl ?_
  refine cx_seq ?_
  refine cx_ops ?_
  refine ax_q (q_mov rfl) ?_
  refine ax_nil ?_
  refine cx_keep rfl rfl ?_
  refine cx_seq ?_
  refine cx_block ?_
  refine cx_loopU (fun n (p : Nat × Str) => n = p.1 ∧ ∃ f, digs f p.1 p.2 = digs 20 k [] ∧ p.1 < 10 ^ f ∧ f + p.2.length ≤ 20 ∧ p.1 ≤ k) (fun p => [(0, int p.1), (3, str p.2)]) (fun _ => []) ⟨_, (k, []), ⟨rfl, 20, rfl, by omega, by simp, Nat.le_refl _⟩, by repeat (first | exact trivial | refine ⟨rfl, ?_⟩ | refine ⟨?_, ?_⟩)⟩ ?_
  rintro m ⟨m2, o⟩ ⟨rfl, f, hd, hm, hf, hmk⟩
  simp only at hd hm hf hmk ⊢
  refine cx_seq ?_
  refine cx_seq ?_
  refine cx_ops ?_
  refine ax_q (q_mov rfl) ?_
  refine ax_q (q_ibin rfl rfl rfl) ?_
  refine ax_nil ?_
  refine cx_keep rfl rfl ?_
  refine cx_cond rfl (fun h2 => ?_) (fun h2 => ?_)
  ·
   have h2 : 0 < m := by have := of_decide_eq_true h2; omega
   obtain ⟨f, rfl⟩ : ∃ g, f = g + 1 := ⟨f - 1, by cases f with
    | zero => simp at hm; omega
    | succ f => rfl⟩
   have hd2 : ∃ f', digs f' (m / 10) (UInt8.ofNat (48 + m % 10) :: o) = digs 20 k [] ∧ m / 10 < 10 ^ f' ∧ f' + (UInt8.ofNat (48 + m % 10) :: o).length ≤ 20 ∧ m / 10 ≤ k := ⟨f, by rw [← hd, digs, if_neg (by omega)], by rw [Nat.pow_succ] at hm; omega, by simp only [List.length_cons]; omega, by omega⟩
   refine cx_skip ?_
   refine cx_keep rfl rfl ?_
   refine cx_block ?_
   refine cx_seq ?_
   refine cx_ops ?_
   refine ax_q (q_mov rfl) ?_
   refine ax_qe (r' := int ((m % 10 : Nat) : Int)) (q_idiv rfl rfl rfl (by decide)) (by rw [Int.tmod_eq_emod_of_nonneg (by omega)]; rfl) ?_
   refine ax_qe (r' := int ((48 + m % 10 : Nat) : Int)) (q_ibin rfl rfl rfl) (by rw [wi (by omega) (by omega)]; rfl) ?_
   refine ax_qe (r' := .d (.int .u8 ((UInt8.ofNat (48 + m % 10)).toNat : Int))) (q_conv rfl) (by rw [byteConv (by omega)]) ?_
   refine ax_e (e_bslice rfl (by decide) rfl rfl) ?_
   refine ax_q (q_b2s (bs := [UInt8.ofNat (48 + m % 10)]) rfl (src_osl rfl (by simp)) (by simp [byteRow]) ⟨_, _, _, _, .inl rfl⟩) ?_
   refine ax_q (q_mov rfl) ?_
   refine ax_qe (r' := str (UInt8.ofNat (48 + m % 10) :: o)) (q_sbin_add rfl rfl (by simp; omega)) (rfl) ?_
   refine ax_q (q_mov rfl) ?_
   refine ax_nil ?_
   refine cx_keep rfl rfl ?_
   refine cx_ops ?_
   refine ax_q (q_mov rfl) ?_
   refine ax_qe (r' := int ((m / 10 : Nat) : Int)) (q_idiv rfl rfl rfl (by decide)) (by rw [Int.tdiv_eq_ediv_of_nonneg (by omega), wi (by omega) (by omega)]; rfl) ?_
   refine ax_q (q_mov rfl) ?_
   refine ax_nil ?_
   exact ⟨_, (m / 10, UInt8.ofNat (48 + m % 10) :: o), by simp only; omega, ⟨rfl, hd2⟩, by repeat (first | exact trivial | refine ⟨rfl, ?_⟩ | refine ⟨?_, ?_⟩)⟩
  ·
   have h2 : m = 0 := by have := of_decide_eq_false h2; omega
   refine cx_exit rfl ?_
   refine cx_keep rfl rfl ?_
   refine cx_seq ?_
   refine cx_ops ?_
   refine ax_q (q_mov rfl) ?_
   refine ax_q (q_sbin_add rfl rfl (by simp; omega)) ?_
   refine ax_q (q_mov rfl) ?_
   refine ax_nil ?_
   refine cx_keep rfl rfl ?_
   refine cx_ret (ret0 rfl rfl ?_)
   exact ⟨by subst h2; rw [digs0] at hd; rw [hd, mkT, if_neg h1]; rfl, rfl⟩


/- loop.example/g00332/laws.markStringS -/
def k_c_markStringS : XCode :=
 .seq (.ops [.op (some 4) (.mov (.k (.int .i64 0)))])
 (.keep [0, 1] (.seq (.seq (.ops [.op (some 5) (.mov (.k (.int .i64 0)))])
  (.keep [0, 1, 5] (.block 0 (.loop (.seq (.seq (.ops [.op (some 6) (.mov (.t 5)),
     .op (some 7) (.mov (.t 0)),
     .op (some 8) (.lenS (.t 7)),
     .op (some 9) (.bin .lss (.t 6) (.t 8))])
   (.keep [0, 1, 5, 9] (.cond (.t 9)
    (.skip)
    (.exit 0))))
   (.keep [0, 1, 5] (.seq (.block 1 (.seq (.ops [.op (some 12) (.mov (.t 0)),
     .op (some 13) (.mov (.t 5)),
     .op (some 14) (.mov (.t 1)),
     .call (some 15) 32 [.t 14],
     .op (some 16) (.iadr 1 (.t 12) (.t 13)),
     .op none (.store 1 (.t 16) (.t 15))])
    (.keep [0, 1, 5] (.ops [.op (some 17) (.mov (.t 1)),
     .op (some 18) (.bin .add (.t 17) (.k (.int .i64 1))),
     .op (some 1) (.mov (.t 18))]))))
   (.keep [0, 1, 5] (.ops [.op (some 10) (.mov (.t 5)),
    .op (some 11) (.bin .add (.t 10) (.k (.int .i64 1))),
    .op (some 5) (.mov (.t 11))])))))))))
 (.keep [1] (.seq (.ops [.op (some 19) (.mov (.t 1)),
   .op (some 4) (.mov (.t 19))])
 (.keep [4] (.ret))))))
theorem k_c_markStringS_fits : fitsF Try.prog 29 ⟨20, k_c_markStringS, [.t 4]⟩ = true := by kernel_rfl
theorem c_markStringS {xs : List Str} {k0 : Nat} (hw : k0 + 1 * xs.length ≤ 1000000000000000000) : Con Try.prog noMv 29 [.osl 1000 1 0 xs.length, int k0] [(1000, .rows 1 (xs.map strRow))] (fun r h => r = int ((k0 + 1 * xs.length : Nat) : Int) ∧ h = [(1000, .rows 1 ((markL (fun k _ => mkT k) 1 k0 xs).map strRow))]) := by
 refine con_of2 k_c_markStringS_fits rfl fun C hP hmv => ?_
 unfold k_c_markStringS
 refine cx_seq ?_
 refine cx_ops ?_
 refine ax_q (q_mov rfl) ?_
 refine ax_nil ?_
 refine cx_keep rfl rfl ?_
 refine cx_seq ?_
 refine cx_seq ?_
 refine cx_ops ?_
 refine ax_q (q_mov rfl) ?_
 refine ax_nil ?_
 refine cx_keep rfl rfl ?_
 refine cx_block ?_
 refine cx_loopU (fun n k => k ≤ xs.length ∧ n = xs.length - k) (fun k : Nat => [(1, int ((k0 + 1 * k : Nat) : Int)), (5, int k)]) (fun k => [(1000, .rows 1 ((markL (fun k _ => mkT k) 1 k0 (xs.take k) ++ xs.drop k).map strRow))]) ⟨_, 0, ⟨Nat.zero_le _, rfl⟩, by repeat (first | exact trivial | refine ⟨rfl, ?_⟩ | refine ⟨?_, ?_⟩)⟩ ?_
 rintro n k ⟨hk, rfl⟩
 refine cx_seq ?_
 refine cx_seq ?_
 refine cx_ops ?_
 refine ax_q (q_mov rfl) ?_
 refine ax_q (q_mov rfl) ?_
 first | refine ax_q (q_lenS_map rfl) ?_ | refine ax_q (q_lenS_osl rfl) ?_ | refine ax_q (q_lenS_zs rfl) ?_ | refine ax_q (q_lenS rfl) ?_
 refine ax_q (q_ibin rfl rfl rfl) ?_
 refine ax_nil ?_
 refine cx_keep rfl rfl ?_
 refine cx_cond rfl (fun h0 => ?_) (fun h0 => ?_)
 ·
  have h0 := dT h0
  have h1x : k < xs.length := by omega
  have h1l : k < ((markL (fun k _ => mkT k) 1 k0 (xs.take k) ++ xs.drop k).map strRow).length := by rw [markL_mlen]; exact h1x
  refine cx_skip ?_
  refine cx_keep rfl rfl ?_
  refine cx_seq ?_
  refine cx_block ?_
  refine cx_seq ?_
  refine cx_ops ?_
  refine ax_q (q_mov rfl) ?_
  refine ax_q (q_mov rfl) ?_
  refine ax_q (q_mov rfl) ?_
  refine ax_call rfl (vc_pure0 (c_markText (by omega)) hP rfl rfl ?_)
  refine ax_q (q_ixo rfl rfl h1x) ?_
  refine ax_e (e_str (q := strRow ((fun k _ => mkT k) (k0 + 1 * k) xs[k])) rfl rfl rfl rfl rfl rfl (markL_at h1x) rfl rfl (markL_set h1x)) ?_
  refine ax_nil ?_
  refine cx_keep rfl rfl ?_
  refine cx_ops ?_
  refine ax_q (q_mov rfl) ?_
  refine ax_qe (r' := int ((k0 + 1 * k + 1 : Nat) : Int)) (q_ibin rfl rfl rfl) (by rw [wi (by omega) (by omega)]; rfl) ?_
  refine ax_q (q_mov rfl) ?_
  refine ax_nil ?_
  refine cx_keep rfl rfl ?_
  refine cx_ops ?_
  refine ax_q (q_mov rfl) ?_
  refine ax_qe (r' := int ((k + 1 : Nat) : Int)) (q_ibin rfl rfl rfl) (by rw [wi (by omega) (by omega)]; rfl) ?_
  refine ax_q (q_mov rfl) ?_
  refine ax_nil ?_
  exact ⟨_, k + 1, by omega, ⟨by omega, rfl⟩, by repeat (first | exact trivial | refine ⟨rfl, ?_⟩ | refine ⟨?_, ?_⟩)⟩
 ·
  have h0 := dF h0
  refine cx_exit rfl ?_
  refine cx_keep rfl rfl ?_
  refine cx_seq ?_
  refine cx_ops ?_
  refine ax_q (q_mov rfl) ?_
  refine ax_q (q_mov rfl) ?_
  refine ax_nil ?_
  refine cx_keep rfl rfl ?_
  have hk2 : k = xs.length := by omega
  subst hk2
  refine cx_ret (retN id [1000] rfl rfl rfl rfl rfl ?_)
  exact ⟨rfl, by rw [markL_full]; rfl⟩


/- loop.example/g00332/laws.markPendingS -/
def k_c_markPendingS : XCode :=
 .seq (.ops [.op (some 4) (.mov (.k (.int .i64 0)))])
 (.keep [0, 1] (.seq (.seq (.ops [.op (some 5) (.mov (.k (.int .i64 0)))])
  (.keep [0, 1, 5] (.block 0 (.loop (.seq (.seq (.ops [.op (some 6) (.mov (.t 5)),
     .op (some 7) (.mov (.t 0)),
     .op (some 8) (.lenS (.t 7)),
     .op (some 9) (.bin .lss (.t 6) (.t 8))])
   (.keep [0, 1, 5, 9] (.cond (.t 9)
    (.skip)
    (.exit 0))))
   (.keep [0, 1, 5] (.seq (.block 1 (.seq (.ops [.op (some 12) (.mov (.t 0)),
     .op (some 13) (.mov (.t 5)),
     .op (some 14) (.mov (.t 1)),
     .op (some 15) (.iadr 2 (.t 12) (.t 13)),
     .op (some 16) (.fadr (.t 15) 0),
     .op none (.store 1 (.t 16) (.t 14))])
    (.keep [0, 1, 5] (.seq (.ops [.op (some 17) (.mov (.t 1)),
     .op (some 18) (.bin .add (.t 17) (.k (.int .i64 1))),
     .op (some 1) (.mov (.t 18))])
    (.keep [0, 1, 5] (.seq (.ops [.op (some 19) (.mov (.t 0)),
     .op (some 20) (.mov (.t 5)),
     .op (some 21) (.mov (.t 1)),
     .call (some 22) 32 [.t 21],
     .op (some 23) (.iadr 2 (.t 19) (.t 20)),
     .op (some 24) (.fadr (.t 23) 1),
     .op none (.store 1 (.t 24) (.t 22))])
    (.keep [0, 1, 5] (.ops [.op (some 25) (.mov (.t 1)),
     .op (some 26) (.bin .add (.t 25) (.k (.int .i64 1))),
     .op (some 1) (.mov (.t 26))]))))))))
   (.keep [0, 1, 5] (.ops [.op (some 10) (.mov (.t 5)),
    .op (some 11) (.bin .add (.t 10) (.k (.int .i64 1))),
    .op (some 5) (.mov (.t 11))])))))))))
 (.keep [1] (.seq (.ops [.op (some 27) (.mov (.t 1)),
   .op (some 4) (.mov (.t 27))])
 (.keep [4] (.ret))))))
theorem k_c_markPendingS_fits : fitsF Try.prog 30 ⟨28, k_c_markPendingS, [.t 4]⟩ = true := by kernel_rfl
theorem c_markPendingS {xs : List GPending} {k0 : Nat} (hw : k0 + 2 * xs.length ≤ 1000000000000000000) : Con Try.prog noMv 30 [.osl 1000 2 0 xs.length, int k0] [(1000, .rows 2 (xs.map GPending.row))] (fun r h => r = int ((k0 + 2 * xs.length : Nat) : Int) ∧ h = [(1000, .rows 2 ((markL GPending.mk1 2 k0 xs).map GPending.row))]) := by
 refine con_of2 k_c_markPendingS_fits rfl fun C hP hmv => ?_
 unfold k_c_markPendingS
 refine cx_seq ?_
 refine cx_ops ?_
 refine ax_q (q_mov rfl) ?_
 refine ax_nil ?_
 refine cx_keep rfl rfl ?_
 refine cx_seq ?_
 refine cx_seq ?_
 refine cx_ops ?_
 refine ax_q (q_mov rfl) ?_
 refine ax_nil ?_
 refine cx_keep rfl rfl ?_
 refine cx_block ?_
 refine cx_loopU (fun n k => k ≤ xs.length ∧ n = xs.length - k) (fun k : Nat => [(1, int ((k0 + 2 * k : Nat) : Int)), (5, int k)]) (fun k => [(1000, .rows 2 ((markL GPending.mk1 2 k0 (xs.take k) ++ xs.drop k).map GPending.row))]) ⟨_, 0, ⟨Nat.zero_le _, rfl⟩, by repeat (first | exact trivial | refine ⟨rfl, ?_⟩ | refine ⟨?_, ?_⟩)⟩ ?_
 rintro n k ⟨hk, rfl⟩
 refine cx_seq ?_
 refine cx_seq ?_
 refine cx_ops ?_
 refine ax_q (q_mov rfl) ?_
 refine ax_q (q_mov rfl) ?_
 first | refine ax_q (q_lenS_map rfl) ?_ | refine ax_q (q_lenS_osl rfl) ?_ | refine ax_q (q_lenS_zs rfl) ?_ | refine ax_q (q_lenS rfl) ?_
 refine ax_q (q_ibin rfl rfl rfl) ?_
 refine ax_nil ?_
 refine cx_keep rfl rfl ?_
 refine cx_cond rfl (fun h0 => ?_) (fun h0 => ?_)
 ·
  have h0 := dT h0
  have h1x : k < xs.length := by omega
  have h1l : k < ((markL GPending.mk1 2 k0 (xs.take k) ++ xs.drop k).map GPending.row).length := by rw [markL_mlen]; exact h1x
  refine cx_skip ?_
  refine cx_keep rfl rfl ?_
  refine cx_seq ?_
  refine cx_block ?_
  refine cx_seq ?_
  refine cx_ops ?_
  refine ax_q (q_mov rfl) ?_
  refine ax_q (q_mov rfl) ?_
  refine ax_q (q_mov rfl) ?_
  refine ax_q (q_ixo rfl rfl h1x) ?_
  first | refine ax_q (q_fadr_ptr rfl) ?_ | refine ax_q (q_fadr_rptr rfl) ?_ | refine ax_q (q_fadr_ip rfl) ?_
  refine ax_e (e_str (q := [.int .i64 ((k0 + 2 * k : Nat) : Int), .str xs[k].Data]) rfl rfl rfl rfl rfl rfl (markL_at h1x) rfl rfl (rfl)) ?_
  refine ax_nil ?_
  refine cx_keep rfl rfl ?_
  refine cx_seq ?_
  refine cx_ops ?_
  refine ax_q (q_mov rfl) ?_
  refine ax_qe (r' := int ((k0 + 2 * k + 1 : Nat) : Int)) (q_ibin rfl rfl rfl) (by rw [wi (by omega) (by omega)]; rfl) ?_
  refine ax_q (q_mov rfl) ?_
  refine ax_nil ?_
  refine cx_keep rfl rfl ?_
  refine cx_seq ?_
  refine cx_ops ?_
  refine ax_q (q_mov rfl) ?_
  refine ax_q (q_mov rfl) ?_
  refine ax_q (q_mov rfl) ?_
  refine ax_call rfl (vc_pure0 (c_markText (by omega)) hP rfl rfl ?_)
  refine ax_q (q_ixo rfl rfl h1x) ?_
  first | refine ax_q (q_fadr_ptr rfl) ?_ | refine ax_q (q_fadr_rptr rfl) ?_ | refine ax_q (q_fadr_ip rfl) ?_
  refine ax_e (e_str (q := GPending.row (GPending.mk1 (k0 + 2 * k) xs[k])) rfl rfl rfl rfl rfl rfl (setAt h1l) rfl rfl (set_set' (markL_set h1x))) ?_
  refine ax_nil ?_
  refine cx_keep rfl rfl ?_
  refine cx_ops ?_
  refine ax_q (q_mov rfl) ?_
  refine ax_qe (r' := int ((k0 + 2 * k + 2 : Nat) : Int)) (q_ibin rfl rfl rfl) (by rw [wi (by omega) (by omega)]; rfl) ?_
  refine ax_q (q_mov rfl) ?_
  refine ax_nil ?_
  refine cx_keep rfl rfl ?_
  refine cx_ops ?_
  refine ax_q (q_mov rfl) ?_
  refine ax_qe (r' := int ((k + 1 : Nat) : Int)) (q_ibin rfl rfl rfl) (by rw [wi (by omega) (by omega)]; rfl) ?_
  refine ax_q (q_mov rfl) ?_
  refine ax_nil ?_
  exact ⟨_, k + 1, by omega, ⟨by omega, rfl⟩, by repeat (first | exact trivial | refine ⟨rfl, ?_⟩ | refine ⟨?_, ?_⟩)⟩
 ·
  have h0 := dF h0
  refine cx_exit rfl ?_
  refine cx_keep rfl rfl ?_
  refine cx_seq ?_
  refine cx_ops ?_
  refine ax_q (q_mov rfl) ?_
  refine ax_q (q_mov rfl) ?_
  refine ax_nil ?_
  refine cx_keep rfl rfl ?_
  have hk2 : k = xs.length := by omega
  subst hk2
  refine cx_ret (retN id [1000] rfl rfl rfl rfl rfl ?_)
  exact ⟨rfl, by rw [markL_full]; rfl⟩


/- loop.example/g00332/laws.markIntS -/
def k_c_markIntS : XCode :=
 .seq (.ops [.op (some 4) (.mov (.k (.int .i64 0)))])
 (.keep [0, 1] (.seq (.seq (.ops [.op (some 5) (.mov (.k (.int .i64 0)))])
  (.keep [0, 1, 5] (.block 0 (.loop (.seq (.seq (.ops [.op (some 6) (.mov (.t 5)),
     .op (some 7) (.mov (.t 0)),
     .op (some 8) (.lenS (.t 7)),
     .op (some 9) (.bin .lss (.t 6) (.t 8))])
   (.keep [0, 1, 5, 9] (.cond (.t 9)
    (.skip)
    (.exit 0))))
   (.keep [0, 1, 5] (.seq (.block 1 (.seq (.ops [.op (some 12) (.mov (.t 0)),
     .op (some 13) (.mov (.t 5)),
     .op (some 14) (.mov (.t 1)),
     .op (some 15) (.iadr 1 (.t 12) (.t 13)),
     .op none (.store 1 (.t 15) (.t 14))])
    (.keep [0, 1, 5] (.ops [.op (some 16) (.mov (.t 1)),
     .op (some 17) (.bin .add (.t 16) (.k (.int .i64 1))),
     .op (some 1) (.mov (.t 17))]))))
   (.keep [0, 1, 5] (.ops [.op (some 10) (.mov (.t 5)),
    .op (some 11) (.bin .add (.t 10) (.k (.int .i64 1))),
    .op (some 5) (.mov (.t 11))])))))))))
 (.keep [1] (.seq (.ops [.op (some 18) (.mov (.t 1)),
   .op (some 4) (.mov (.t 18))])
 (.keep [4] (.ret))))))
theorem k_c_markIntS_fits : fitsF Try.prog 31 ⟨19, k_c_markIntS, [.t 4]⟩ = true := by kernel_rfl
theorem c_markIntS {xs : List Int} {k0 : Nat} (hw : k0 + 1 * xs.length ≤ 1000000000000000000) : Con Try.prog noMv 31 [.osl 1000 1 0 xs.length, int k0] [(1000, .rows 1 (xs.map intRow))] (fun r h => r = int ((k0 + 1 * xs.length : Nat) : Int) ∧ h = [(1000, .rows 1 ((markL (fun k _ => (k : Int)) 1 k0 xs).map intRow))]) := by
 refine con_of2 k_c_markIntS_fits rfl fun C hP hmv => ?_
 unfold k_c_markIntS
 refine cx_seq ?_
 refine cx_ops ?_
 refine ax_q (q_mov rfl) ?_
 refine ax_nil ?_
 refine cx_keep rfl rfl ?_
 refine cx_seq ?_
 refine cx_seq ?_
 refine cx_ops ?_
 refine ax_q (q_mov rfl) ?_
 refine ax_nil ?_
 refine cx_keep rfl rfl ?_
 refine cx_block ?_
 refine cx_loopU (fun n k => k ≤ xs.length ∧ n = xs.length - k) (fun k : Nat => [(1, int ((k0 + 1 * k : Nat) : Int)), (5, int k)]) (fun k => [(1000, .rows 1 ((markL (fun k _ => (k : Int)) 1 k0 (xs.take k) ++ xs.drop k).map intRow))]) ⟨_, 0, ⟨Nat.zero_le _, rfl⟩, by repeat (first | exact trivial | refine ⟨rfl, ?_⟩ | refine ⟨?_, ?_⟩)⟩ ?_
 rintro n k ⟨hk, rfl⟩
 refine cx_seq ?_
 refine cx_seq ?_
 refine cx_ops ?_
 refine ax_q (q_mov rfl) ?_
 refine ax_q (q_mov rfl) ?_
 first | refine ax_q (q_lenS_map rfl) ?_ | refine ax_q (q_lenS_osl rfl) ?_ | refine ax_q (q_lenS_zs rfl) ?_ | refine ax_q (q_lenS rfl) ?_
 refine ax_q (q_ibin rfl rfl rfl) ?_
 refine ax_nil ?_
 refine cx_keep rfl rfl ?_
 refine cx_cond rfl (fun h0 => ?_) (fun h0 => ?_)
 ·
  have h0 := dT h0
  have h1x : k < xs.length := by omega
  have h1l : k < ((markL (fun k _ => (k : Int)) 1 k0 (xs.take k) ++ xs.drop k).map intRow).length := by rw [markL_mlen]; exact h1x
  refine cx_skip ?_
  refine cx_keep rfl rfl ?_
  refine cx_seq ?_
  refine cx_block ?_
  refine cx_seq ?_
  refine cx_ops ?_
  refine ax_q (q_mov rfl) ?_
  refine ax_q (q_mov rfl) ?_
  refine ax_q (q_mov rfl) ?_
  refine ax_q (q_ixo rfl rfl h1x) ?_
  refine ax_e (e_str (q := intRow ((fun k _ => (k : Int)) (k0 + 1 * k) xs[k])) rfl rfl rfl rfl rfl rfl (markL_at h1x) rfl rfl (markL_set h1x)) ?_
  refine ax_nil ?_
  refine cx_keep rfl rfl ?_
  refine cx_ops ?_
  refine ax_q (q_mov rfl) ?_
  refine ax_qe (r' := int ((k0 + 1 * k + 1 : Nat) : Int)) (q_ibin rfl rfl rfl) (by rw [wi (by omega) (by omega)]; rfl) ?_
  refine ax_q (q_mov rfl) ?_
  refine ax_nil ?_
  refine cx_keep rfl rfl ?_
  refine cx_ops ?_
  refine ax_q (q_mov rfl) ?_
  refine ax_qe (r' := int ((k + 1 : Nat) : Int)) (q_ibin rfl rfl rfl) (by rw [wi (by omega) (by omega)]; rfl) ?_
  refine ax_q (q_mov rfl) ?_
  refine ax_nil ?_
  exact ⟨_, k + 1, by omega, ⟨by omega, rfl⟩, by repeat (first | exact trivial | refine ⟨rfl, ?_⟩ | refine ⟨?_, ?_⟩)⟩
 ·
  have h0 := dF h0
  refine cx_exit rfl ?_
  refine cx_keep rfl rfl ?_
  refine cx_seq ?_
  refine cx_ops ?_
  refine ax_q (q_mov rfl) ?_
  refine ax_q (q_mov rfl) ?_
  refine ax_nil ?_
  refine cx_keep rfl rfl ?_
  have hk2 : k = xs.length := by omega
  subst hk2
  refine cx_ret (retN id [1000] rfl rfl rfl rfl rfl ?_)
  exact ⟨rfl, by rw [markL_full]; rfl⟩


/- loop.example/g00332/laws.markDisk -/
def k_c_markDisk : XCode :=
 .seq (.ops [.op (some 2) (.box (.t 0)),
   .op (some 4) (.mov (.k (.int .i64 0)))])
 (.keep [1, 2] (.seq (.ops [.op (some 5) (.fadr (.t 2) 0),
   .op (some 6) (.load1 (.t 5)),
   .op (some 7) (.mov (.t 1)),
   .call (some 8) 29 [.t 6, .t 7],
   .op (some 1) (.mov (.t 8))])
 (.keep [1, 2] (.seq (.ops [.op (some 9) (.fadr (.t 2) 1),
   .op (some 10) (.load1 (.t 9)),
   .op (some 11) (.mov (.t 1)),
   .call (some 12) 30 [.t 10, .t 11],
   .op (some 1) (.mov (.t 12))])
 (.keep [1, 2] (.seq (.ops [.op (some 13) (.fadr (.t 2) 3),
   .op (some 14) (.load1 (.t 13)),
   .op (some 15) (.mov (.t 1)),
   .call (some 16) 31 [.t 14, .t 15],
   .op (some 1) (.mov (.t 16))])
 (.keep [1] (.seq (.ops [.op (some 17) (.mov (.t 1)),
   .op (some 4) (.mov (.t 17))])
 (.keep [4] (.ret))))))))))
theorem k_c_markDisk_fits : fitsF Try.prog 10 ⟨18, k_c_markDisk, [.t 4]⟩ = true := by kernel_rfl
theorem c_markDisk {a : GDisk} {k0 : Nat} (hw : GDisk.mkN k0 a ≤ 1000000000000000000) : Con Try.prog noMv 10 [a.avO 1000 1001 1002, int k0] (a.hO 1000 1001 1002) (fun r h => r = int ((GDisk.mkN k0 a : Nat) : Int) ∧ h = (GDisk.mkS k0 a).hO 1000 1001 1002) := by
 refine con_of2 k_c_markDisk_fits rfl fun C hP hmv => ?_
 unfold k_c_markDisk
 refine cx_seq ?_
 refine cx_ops ?_
 refine ax_e (e_box rfl rfl (by decide) rfl rfl rfl) ?_
 refine ax_q (q_mov rfl) ?_
 refine ax_nil ?_
 refine cx_keep rfl rfl ?_
 refine cx_seq ?_
 refine cx_ops ?_
 refine ax_q (q_fadr_ptr rfl) ?_
 refine ax_q (q_load1_ptr rfl rfl rfl) ?_
 refine ax_q (q_mov rfl) ?_
 refine ax_call rfl (vcall_own (c_markStringS (xs := a.Sectors) (k0 := k0) (by unfold GDisk.mkN at hw; omega)) hP hmv false (fun _ => 1000) [1000] ⟨rfl, rfl, rfl, rfl, ⟨rfl, trivial⟩, rfl, rfl, rfl⟩ (.pass rfl rfl (.pass rfl rfl .nil)) ?_)
 rintro r h ⟨rfl, rfl⟩
 refine ⟨fun _ => 1000, [], ⟨rfl, rfl, rfl, rfl, fun _ h => (by cases h with | head => rfl | tail _ h => cases h), rfl, rfl, fun h => by cases h⟩, ?_⟩
 refine ax_q (q_mov rfl) ?_
 refine ax_nil ?_
 refine cx_keep rfl rfl ?_
 refine cx_seq ?_
 refine cx_ops ?_
 refine ax_q (q_fadr_ptr rfl) ?_
 refine ax_q (q_load1_ptr rfl rfl rfl) ?_
 refine ax_q (q_mov rfl) ?_
 refine ax_call rfl (vcall_own (c_markPendingS (xs := a.Cache) (k0 := k0 + 1 * a.Sectors.length) (by unfold GDisk.mkN at hw; omega)) hP hmv false (fun _ => 1001) [1000] ⟨rfl, rfl, rfl, rfl, ⟨rfl, trivial⟩, rfl, rfl, rfl⟩ (.pass rfl rfl (.pass rfl rfl .nil)) ?_)
 rintro r h ⟨rfl, rfl⟩
 refine ⟨fun _ => 1001, [], ⟨rfl, rfl, rfl, rfl, fun _ h => (by cases h with | head => rfl | tail _ h => cases h), rfl, rfl, fun h => by cases h⟩, ?_⟩
 refine ax_q (q_mov rfl) ?_
 refine ax_nil ?_
 refine cx_keep rfl rfl ?_
 refine cx_seq ?_
 refine cx_ops ?_
 refine ax_q (q_fadr_ptr rfl) ?_
 refine ax_q (q_load1_ptr rfl rfl rfl) ?_
 refine ax_q (q_mov rfl) ?_
 refine ax_call rfl (vcall_own (c_markIntS (xs := a.Keep) (k0 := k0 + 1 * a.Sectors.length + 2 * a.Cache.length) (by unfold GDisk.mkN at hw; omega)) hP hmv false (fun _ => 1002) [1000] ⟨rfl, rfl, rfl, rfl, ⟨rfl, trivial⟩, rfl, rfl, rfl⟩ (.pass rfl rfl (.pass rfl rfl .nil)) ?_)
 rintro r h ⟨rfl, rfl⟩
 refine ⟨fun _ => 1002, [], ⟨rfl, rfl, rfl, rfl, fun _ h => (by cases h with | head => rfl | tail _ h => cases h), rfl, rfl, fun h => by cases h⟩, ?_⟩
 refine ax_q (q_mov rfl) ?_
 refine ax_nil ?_
 refine cx_keep rfl rfl ?_
 refine cx_seq ?_
 refine cx_ops ?_
 refine ax_q (q_mov rfl) ?_
 refine ax_q (q_mov rfl) ?_
 refine ax_nil ?_
 refine cx_keep rfl rfl ?_
 refine cx_ret (retN id [1000, 1001, 1002] rfl rfl rfl rfl rfl ?_)
 exact ⟨rfl, rfl⟩


/- loop.example/g00332/laws.markLogRecordS -/
def k_c_markLogRecordS : XCode :=
 .seq (.ops [.op (some 4) (.mov (.k (.int .i64 0)))])
 (.keep [0, 1] (.seq (.seq (.ops [.op (some 5) (.mov (.k (.int .i64 0)))])
  (.keep [0, 1, 5] (.block 0 (.loop (.seq (.seq (.ops [.op (some 6) (.mov (.t 5)),
     .op (some 7) (.mov (.t 0)),
     .op (some 8) (.lenS (.t 7)),
     .op (some 9) (.bin .lss (.t 6) (.t 8))])
   (.keep [0, 1, 5, 9] (.cond (.t 9)
    (.skip)
    (.exit 0))))
   (.keep [0, 1, 5] (.seq (.block 1 (.seq (.ops [.op (some 12) (.mov (.t 0)),
     .op (some 13) (.mov (.t 5)),
     .op (some 14) (.mov (.t 1)),
     .op (some 15) (.iadr 10 (.t 12) (.t 13)),
     .op (some 16) (.fadr (.t 15) 0),
     .op none (.store 1 (.t 16) (.t 14))])
    (.keep [0, 1, 5] (.seq (.ops [.op (some 17) (.mov (.t 1)),
     .op (some 18) (.bin .add (.t 17) (.k (.int .i64 1))),
     .op (some 1) (.mov (.t 18))])
    (.keep [0, 1, 5] (.seq (.ops [.op (some 19) (.mov (.t 0)),
     .op (some 20) (.mov (.t 5)),
     .op (some 21) (.mov (.t 1)),
     .op (some 22) (.iadr 10 (.t 19) (.t 20)),
     .op (some 23) (.fadr (.t 22) 1),
     .op none (.store 1 (.t 23) (.t 21))])
    (.keep [0, 1, 5] (.seq (.ops [.op (some 24) (.mov (.t 1)),
     .op (some 25) (.bin .add (.t 24) (.k (.int .i64 1))),
     .op (some 1) (.mov (.t 25))])
    (.keep [0, 1, 5] (.seq (.ops [.op (some 26) (.mov (.t 0)),
     .op (some 27) (.mov (.t 5)),
     .op (some 28) (.mov (.t 1)),
     .op (some 29) (.iadr 10 (.t 26) (.t 27)),
     .op (some 30) (.fadr (.t 29) 2),
     .op none (.store 1 (.t 30) (.t 28))])
    (.keep [0, 1, 5] (.seq (.ops [.op (some 31) (.mov (.t 1)),
     .op (some 32) (.bin .add (.t 31) (.k (.int .i64 1))),
     .op (some 1) (.mov (.t 32))])
    (.keep [0, 1, 5] (.seq (.ops [.op (some 33) (.mov (.t 0)),
     .op (some 34) (.mov (.t 5)),
     .op (some 35) (.mov (.t 1)),
     .op (some 36) (.iadr 10 (.t 33) (.t 34)),
     .op (some 37) (.fadr (.t 36) 3),
     .op none (.store 1 (.t 37) (.t 35))])
    (.keep [0, 1, 5] (.seq (.ops [.op (some 38) (.mov (.t 1)),
     .op (some 39) (.bin .add (.t 38) (.k (.int .i64 1))),
     .op (some 1) (.mov (.t 39))])
    (.keep [0, 1, 5] (.seq (.ops [.op (some 40) (.mov (.t 0)),
     .op (some 41) (.mov (.t 5)),
     .op (some 42) (.mov (.t 1)),
     .op (some 43) (.iadr 10 (.t 40) (.t 41)),
     .op (some 44) (.fadr (.t 43) 4),
     .op none (.store 1 (.t 44) (.t 42))])
    (.keep [0, 1, 5] (.seq (.ops [.op (some 45) (.mov (.t 1)),
     .op (some 46) (.bin .add (.t 45) (.k (.int .i64 1))),
     .op (some 1) (.mov (.t 46))])
    (.keep [0, 1, 5] (.seq (.ops [.op (some 47) (.mov (.t 0)),
     .op (some 48) (.mov (.t 5)),
     .op (some 49) (.mov (.t 1)),
     .op (some 50) (.iadr 10 (.t 47) (.t 48)),
     .op (some 51) (.fadr (.t 50) 5),
     .op none (.store 1 (.t 51) (.t 49))])
    (.keep [0, 1, 5] (.seq (.ops [.op (some 52) (.mov (.t 1)),
     .op (some 53) (.bin .add (.t 52) (.k (.int .i64 1))),
     .op (some 1) (.mov (.t 53))])
    (.keep [0, 1, 5] (.seq (.ops [.op (some 54) (.mov (.t 0)),
     .op (some 55) (.mov (.t 5)),
     .op (some 56) (.mov (.t 1)),
     .op (some 57) (.iadr 10 (.t 54) (.t 55)),
     .op (some 58) (.fadr (.t 57) 6),
     .op none (.store 1 (.t 58) (.t 56))])
    (.keep [0, 1, 5] (.seq (.ops [.op (some 59) (.mov (.t 1)),
     .op (some 60) (.bin .add (.t 59) (.k (.int .i64 1))),
     .op (some 1) (.mov (.t 60))])
    (.keep [0, 1, 5] (.seq (.ops [.op (some 61) (.mov (.t 0)),
     .op (some 62) (.mov (.t 5)),
     .op (some 63) (.mov (.t 1)),
     .op (some 64) (.iadr 10 (.t 61) (.t 62)),
     .op (some 65) (.fadr (.t 64) 7),
     .op none (.store 1 (.t 65) (.t 63))])
    (.keep [0, 1, 5] (.seq (.ops [.op (some 66) (.mov (.t 1)),
     .op (some 67) (.bin .add (.t 66) (.k (.int .i64 1))),
     .op (some 1) (.mov (.t 67))])
    (.keep [0, 1, 5] (.seq (.ops [.op (some 68) (.mov (.t 0)),
     .op (some 69) (.mov (.t 5)),
     .op (some 70) (.mov (.t 1)),
     .call (some 71) 32 [.t 70],
     .op (some 72) (.iadr 10 (.t 68) (.t 69)),
     .op (some 73) (.fadr (.t 72) 8),
     .op none (.store 1 (.t 73) (.t 71))])
    (.keep [0, 1, 5] (.seq (.ops [.op (some 74) (.mov (.t 1)),
     .op (some 75) (.bin .add (.t 74) (.k (.int .i64 1))),
     .op (some 1) (.mov (.t 75))])
    (.keep [0, 1, 5] (.seq (.ops [.op (some 76) (.mov (.t 0)),
     .op (some 77) (.mov (.t 5)),
     .op (some 78) (.mov (.t 1)),
     .call (some 79) 32 [.t 78],
     .op (some 80) (.iadr 10 (.t 76) (.t 77)),
     .op (some 81) (.fadr (.t 80) 9),
     .op none (.store 1 (.t 81) (.t 79))])
    (.keep [0, 1, 5] (.ops [.op (some 82) (.mov (.t 1)),
     .op (some 83) (.bin .add (.t 82) (.k (.int .i64 1))),
     .op (some 1) (.mov (.t 83))]))))))))))))))))))))))))))))))))))))))))
   (.keep [0, 1, 5] (.ops [.op (some 10) (.mov (.t 5)),
    .op (some 11) (.bin .add (.t 10) (.k (.int .i64 1))),
    .op (some 5) (.mov (.t 11))])))))))))
 (.keep [1] (.seq (.ops [.op (some 84) (.mov (.t 1)),
   .op (some 4) (.mov (.t 84))])
 (.keep [4] (.ret))))))
theorem k_c_markLogRecordS_fits : fitsF Try.prog 11 ⟨85, k_c_markLogRecordS, [.t 4]⟩ = true := by kernel_rfl
theorem c_markLogRecordS {xs : List GLogRecord} {k0 : Nat} (hw : k0 + 10 * xs.length ≤ 1000000000000000000) : Con Try.prog noMv 11 [.osl 1000 10 0 xs.length, int k0] [(1000, .rows 10 (xs.map GLogRecord.row))] (fun r h => r = int ((k0 + 10 * xs.length : Nat) : Int) ∧ h = [(1000, .rows 10 ((markL GLogRecord.mk1 10 k0 xs).map GLogRecord.row))]) := by
 refine con_of2 k_c_markLogRecordS_fits rfl fun C hP hmv => ?_
 unfold k_c_markLogRecordS
 refine cx_seq ?_
 refine cx_ops ?_
 refine ax_q (q_mov rfl) ?_
 refine ax_nil ?_
 refine cx_keep rfl rfl ?_
 refine cx_seq ?_
 refine cx_seq ?_
 refine cx_ops ?_
 refine ax_q (q_mov rfl) ?_
 refine ax_nil ?_
 refine cx_keep rfl rfl ?_
 refine cx_block ?_
 refine cx_loopU (fun n k => k ≤ xs.length ∧ n = xs.length - k) (fun k : Nat => [(1, int ((k0 + 10 * k : Nat) : Int)), (5, int k)]) (fun k => [(1000, .rows 10 ((markL GLogRecord.mk1 10 k0 (xs.take k) ++ xs.drop k).map GLogRecord.row))]) ⟨_, 0, ⟨Nat.zero_le _, rfl⟩, by repeat (first | exact trivial | refine ⟨rfl, ?_⟩ | refine ⟨?_, ?_⟩)⟩ ?_
 rintro n k ⟨hk, rfl⟩
 refine cx_seq ?_
 refine cx_seq ?_
 refine cx_ops ?_
 refine ax_q (q_mov rfl) ?_
 refine ax_q (q_mov rfl) ?_
 first | refine ax_q (q_lenS_map rfl) ?_ | refine ax_q (q_lenS_osl rfl) ?_ | refine ax_q (q_lenS_zs rfl) ?_ | refine ax_q (q_lenS rfl) ?_
 refine ax_q (q_ibin rfl rfl rfl) ?_
 refine ax_nil ?_
 refine cx_keep rfl rfl ?_
 refine cx_cond rfl (fun h0 => ?_) (fun h0 => ?_)
 ·
  have h0 := dT h0
  have h1x : k < xs.length := by omega
  have h1l : k < ((markL GLogRecord.mk1 10 k0 (xs.take k) ++ xs.drop k).map GLogRecord.row).length := by rw [markL_mlen]; exact h1x
  refine cx_skip ?_
  refine cx_keep rfl rfl ?_
  refine cx_seq ?_
  refine cx_block ?_
  refine cx_seq ?_
  refine cx_ops ?_
  refine ax_q (q_mov rfl) ?_
  refine ax_q (q_mov rfl) ?_
  refine ax_q (q_mov rfl) ?_
  refine ax_q (q_ixo rfl rfl h1x) ?_
  first | refine ax_q (q_fadr_ptr rfl) ?_ | refine ax_q (q_fadr_rptr rfl) ?_ | refine ax_q (q_fadr_ip rfl) ?_
  refine ax_e (e_str (q := [.int .i64 ((k0 + 10 * k : Nat) : Int), .int .i64 xs[k].Lsn, .int .i64 xs[k].Tx, .int .i64 xs[k].Kind, .int .i64 xs[k].Prev, .int .i64 xs[k].Next, .int .i64 xs[k].Page, .int .i64 xs[k].Slot, .str xs[k].Before, .str xs[k].After]) rfl rfl rfl rfl rfl rfl (markL_at h1x) rfl rfl (rfl)) ?_
  refine ax_nil ?_
  refine cx_keep rfl rfl ?_
  refine cx_seq ?_
  refine cx_ops ?_
  refine ax_q (q_mov rfl) ?_
  refine ax_qe (r' := int ((k0 + 10 * k + 1 : Nat) : Int)) (q_ibin rfl rfl rfl) (by rw [wi (by omega) (by omega)]; rfl) ?_
  refine ax_q (q_mov rfl) ?_
  refine ax_nil ?_
  refine cx_keep rfl rfl ?_
  refine cx_seq ?_
  refine cx_ops ?_
  refine ax_q (q_mov rfl) ?_
  refine ax_q (q_mov rfl) ?_
  refine ax_q (q_mov rfl) ?_
  refine ax_q (q_ixo rfl rfl h1x) ?_
  first | refine ax_q (q_fadr_ptr rfl) ?_ | refine ax_q (q_fadr_rptr rfl) ?_ | refine ax_q (q_fadr_ip rfl) ?_
  refine ax_e (e_str (q := [.int .i64 ((k0 + 10 * k : Nat) : Int), .int .i64 ((k0 + 10 * k + 1 : Nat) : Int), .int .i64 xs[k].Tx, .int .i64 xs[k].Kind, .int .i64 xs[k].Prev, .int .i64 xs[k].Next, .int .i64 xs[k].Page, .int .i64 xs[k].Slot, .str xs[k].Before, .str xs[k].After]) rfl rfl rfl rfl rfl rfl (setAt h1l) rfl rfl (set_set' rfl)) ?_
  refine ax_nil ?_
  refine cx_keep rfl rfl ?_
  refine cx_seq ?_
  refine cx_ops ?_
  refine ax_q (q_mov rfl) ?_
  refine ax_qe (r' := int ((k0 + 10 * k + 2 : Nat) : Int)) (q_ibin rfl rfl rfl) (by rw [wi (by omega) (by omega)]; rfl) ?_
  refine ax_q (q_mov rfl) ?_
  refine ax_nil ?_
  refine cx_keep rfl rfl ?_
  refine cx_seq ?_
  refine cx_ops ?_
  refine ax_q (q_mov rfl) ?_
  refine ax_q (q_mov rfl) ?_
  refine ax_q (q_mov rfl) ?_
  refine ax_q (q_ixo rfl rfl h1x) ?_
  first | refine ax_q (q_fadr_ptr rfl) ?_ | refine ax_q (q_fadr_rptr rfl) ?_ | refine ax_q (q_fadr_ip rfl) ?_
  refine ax_e (e_str (q := [.int .i64 ((k0 + 10 * k : Nat) : Int), .int .i64 ((k0 + 10 * k + 1 : Nat) : Int), .int .i64 ((k0 + 10 * k + 2 : Nat) : Int), .int .i64 xs[k].Kind, .int .i64 xs[k].Prev, .int .i64 xs[k].Next, .int .i64 xs[k].Page, .int .i64 xs[k].Slot, .str xs[k].Before, .str xs[k].After]) rfl rfl rfl rfl rfl rfl (setAt h1l) rfl rfl (set_set' rfl)) ?_
  refine ax_nil ?_
  refine cx_keep rfl rfl ?_
  refine cx_seq ?_
  refine cx_ops ?_
  refine ax_q (q_mov rfl) ?_
  refine ax_qe (r' := int ((k0 + 10 * k + 3 : Nat) : Int)) (q_ibin rfl rfl rfl) (by rw [wi (by omega) (by omega)]; rfl) ?_
  refine ax_q (q_mov rfl) ?_
  refine ax_nil ?_
  refine cx_keep rfl rfl ?_
  refine cx_seq ?_
  refine cx_ops ?_
  refine ax_q (q_mov rfl) ?_
  refine ax_q (q_mov rfl) ?_
  refine ax_q (q_mov rfl) ?_
  refine ax_q (q_ixo rfl rfl h1x) ?_
  first | refine ax_q (q_fadr_ptr rfl) ?_ | refine ax_q (q_fadr_rptr rfl) ?_ | refine ax_q (q_fadr_ip rfl) ?_
  refine ax_e (e_str (q := [.int .i64 ((k0 + 10 * k : Nat) : Int), .int .i64 ((k0 + 10 * k + 1 : Nat) : Int), .int .i64 ((k0 + 10 * k + 2 : Nat) : Int), .int .i64 ((k0 + 10 * k + 3 : Nat) : Int), .int .i64 xs[k].Prev, .int .i64 xs[k].Next, .int .i64 xs[k].Page, .int .i64 xs[k].Slot, .str xs[k].Before, .str xs[k].After]) rfl rfl rfl rfl rfl rfl (setAt h1l) rfl rfl (set_set' rfl)) ?_
  refine ax_nil ?_
  refine cx_keep rfl rfl ?_
  refine cx_seq ?_
  refine cx_ops ?_
  refine ax_q (q_mov rfl) ?_
  refine ax_qe (r' := int ((k0 + 10 * k + 4 : Nat) : Int)) (q_ibin rfl rfl rfl) (by rw [wi (by omega) (by omega)]; rfl) ?_
  refine ax_q (q_mov rfl) ?_
  refine ax_nil ?_
  refine cx_keep rfl rfl ?_
  refine cx_seq ?_
  refine cx_ops ?_
  refine ax_q (q_mov rfl) ?_
  refine ax_q (q_mov rfl) ?_
  refine ax_q (q_mov rfl) ?_
  refine ax_q (q_ixo rfl rfl h1x) ?_
  first | refine ax_q (q_fadr_ptr rfl) ?_ | refine ax_q (q_fadr_rptr rfl) ?_ | refine ax_q (q_fadr_ip rfl) ?_
  refine ax_e (e_str (q := [.int .i64 ((k0 + 10 * k : Nat) : Int), .int .i64 ((k0 + 10 * k + 1 : Nat) : Int), .int .i64 ((k0 + 10 * k + 2 : Nat) : Int), .int .i64 ((k0 + 10 * k + 3 : Nat) : Int), .int .i64 ((k0 + 10 * k + 4 : Nat) : Int), .int .i64 xs[k].Next, .int .i64 xs[k].Page, .int .i64 xs[k].Slot, .str xs[k].Before, .str xs[k].After]) rfl rfl rfl rfl rfl rfl (setAt h1l) rfl rfl (set_set' rfl)) ?_
  refine ax_nil ?_
  refine cx_keep rfl rfl ?_
  refine cx_seq ?_
  refine cx_ops ?_
  refine ax_q (q_mov rfl) ?_
  refine ax_qe (r' := int ((k0 + 10 * k + 5 : Nat) : Int)) (q_ibin rfl rfl rfl) (by rw [wi (by omega) (by omega)]; rfl) ?_
  refine ax_q (q_mov rfl) ?_
  refine ax_nil ?_
  refine cx_keep rfl rfl ?_
  refine cx_seq ?_
  refine cx_ops ?_
  refine ax_q (q_mov rfl) ?_
  refine ax_q (q_mov rfl) ?_
  refine ax_q (q_mov rfl) ?_
  refine ax_q (q_ixo rfl rfl h1x) ?_
  first | refine ax_q (q_fadr_ptr rfl) ?_ | refine ax_q (q_fadr_rptr rfl) ?_ | refine ax_q (q_fadr_ip rfl) ?_
  refine ax_e (e_str (q := [.int .i64 ((k0 + 10 * k : Nat) : Int), .int .i64 ((k0 + 10 * k + 1 : Nat) : Int), .int .i64 ((k0 + 10 * k + 2 : Nat) : Int), .int .i64 ((k0 + 10 * k + 3 : Nat) : Int), .int .i64 ((k0 + 10 * k + 4 : Nat) : Int), .int .i64 ((k0 + 10 * k + 5 : Nat) : Int), .int .i64 xs[k].Page, .int .i64 xs[k].Slot, .str xs[k].Before, .str xs[k].After]) rfl rfl rfl rfl rfl rfl (setAt h1l) rfl rfl (set_set' rfl)) ?_
  refine ax_nil ?_
  refine cx_keep rfl rfl ?_
  refine cx_seq ?_
  refine cx_ops ?_
  refine ax_q (q_mov rfl) ?_
  refine ax_qe (r' := int ((k0 + 10 * k + 6 : Nat) : Int)) (q_ibin rfl rfl rfl) (by rw [wi (by omega) (by omega)]; rfl) ?_
  refine ax_q (q_mov rfl) ?_
  refine ax_nil ?_
  refine cx_keep rfl rfl ?_
  refine cx_seq ?_
  refine cx_ops ?_
  refine ax_q (q_mov rfl) ?_
  refine ax_q (q_mov rfl) ?_
  refine ax_q (q_mov rfl) ?_
  refine ax_q (q_ixo rfl rfl h1x) ?_
  first | refine ax_q (q_fadr_ptr rfl) ?_ | refine ax_q (q_fadr_rptr rfl) ?_ | refine ax_q (q_fadr_ip rfl) ?_
  refine ax_e (e_str (q := [.int .i64 ((k0 + 10 * k : Nat) : Int), .int .i64 ((k0 + 10 * k + 1 : Nat) : Int), .int .i64 ((k0 + 10 * k + 2 : Nat) : Int), .int .i64 ((k0 + 10 * k + 3 : Nat) : Int), .int .i64 ((k0 + 10 * k + 4 : Nat) : Int), .int .i64 ((k0 + 10 * k + 5 : Nat) : Int), .int .i64 ((k0 + 10 * k + 6 : Nat) : Int), .int .i64 xs[k].Slot, .str xs[k].Before, .str xs[k].After]) rfl rfl rfl rfl rfl rfl (setAt h1l) rfl rfl (set_set' rfl)) ?_
  refine ax_nil ?_
  refine cx_keep rfl rfl ?_
  refine cx_seq ?_
  refine cx_ops ?_
  refine ax_q (q_mov rfl) ?_
  refine ax_qe (r' := int ((k0 + 10 * k + 7 : Nat) : Int)) (q_ibin rfl rfl rfl) (by rw [wi (by omega) (by omega)]; rfl) ?_
  refine ax_q (q_mov rfl) ?_
  refine ax_nil ?_
  refine cx_keep rfl rfl ?_
  refine cx_seq ?_
  refine cx_ops ?_
  refine ax_q (q_mov rfl) ?_
  refine ax_q (q_mov rfl) ?_
  refine ax_q (q_mov rfl) ?_
  refine ax_q (q_ixo rfl rfl h1x) ?_
  first | refine ax_q (q_fadr_ptr rfl) ?_ | refine ax_q (q_fadr_rptr rfl) ?_ | refine ax_q (q_fadr_ip rfl) ?_
  refine ax_e (e_str (q := [.int .i64 ((k0 + 10 * k : Nat) : Int), .int .i64 ((k0 + 10 * k + 1 : Nat) : Int), .int .i64 ((k0 + 10 * k + 2 : Nat) : Int), .int .i64 ((k0 + 10 * k + 3 : Nat) : Int), .int .i64 ((k0 + 10 * k + 4 : Nat) : Int), .int .i64 ((k0 + 10 * k + 5 : Nat) : Int), .int .i64 ((k0 + 10 * k + 6 : Nat) : Int), .int .i64 ((k0 + 10 * k + 7 : Nat) : Int), .str xs[k].Before, .str xs[k].After]) rfl rfl rfl rfl rfl rfl (setAt h1l) rfl rfl (set_set' rfl)) ?_
  refine ax_nil ?_
  refine cx_keep rfl rfl ?_
  refine cx_seq ?_
  refine cx_ops ?_
  refine ax_q (q_mov rfl) ?_
  refine ax_qe (r' := int ((k0 + 10 * k + 8 : Nat) : Int)) (q_ibin rfl rfl rfl) (by rw [wi (by omega) (by omega)]; rfl) ?_
  refine ax_q (q_mov rfl) ?_
  refine ax_nil ?_
  refine cx_keep rfl rfl ?_
  refine cx_seq ?_
  refine cx_ops ?_
  refine ax_q (q_mov rfl) ?_
  refine ax_q (q_mov rfl) ?_
  refine ax_q (q_mov rfl) ?_
  refine ax_call rfl (vc_pure0 (c_markText (by omega)) hP rfl rfl ?_)
  refine ax_q (q_ixo rfl rfl h1x) ?_
  first | refine ax_q (q_fadr_ptr rfl) ?_ | refine ax_q (q_fadr_rptr rfl) ?_ | refine ax_q (q_fadr_ip rfl) ?_
  refine ax_e (e_str (q := [.int .i64 ((k0 + 10 * k : Nat) : Int), .int .i64 ((k0 + 10 * k + 1 : Nat) : Int), .int .i64 ((k0 + 10 * k + 2 : Nat) : Int), .int .i64 ((k0 + 10 * k + 3 : Nat) : Int), .int .i64 ((k0 + 10 * k + 4 : Nat) : Int), .int .i64 ((k0 + 10 * k + 5 : Nat) : Int), .int .i64 ((k0 + 10 * k + 6 : Nat) : Int), .int .i64 ((k0 + 10 * k + 7 : Nat) : Int), .str (mkT (k0 + 10 * k + 8)), .str xs[k].After]) rfl rfl rfl rfl rfl rfl (setAt h1l) rfl rfl (set_set' rfl)) ?_
  refine ax_nil ?_
  refine cx_keep rfl rfl ?_
  refine cx_seq ?_
  refine cx_ops ?_
  refine ax_q (q_mov rfl) ?_
  refine ax_qe (r' := int ((k0 + 10 * k + 9 : Nat) : Int)) (q_ibin rfl rfl rfl) (by rw [wi (by omega) (by omega)]; rfl) ?_
  refine ax_q (q_mov rfl) ?_
  refine ax_nil ?_
  refine cx_keep rfl rfl ?_
  refine cx_seq ?_
  refine cx_ops ?_
  refine ax_q (q_mov rfl) ?_
  refine ax_q (q_mov rfl) ?_
  refine ax_q (q_mov rfl) ?_
  refine ax_call rfl (vc_pure0 (c_markText (by omega)) hP rfl rfl ?_)
  refine ax_q (q_ixo rfl rfl h1x) ?_
  first | refine ax_q (q_fadr_ptr rfl) ?_ | refine ax_q (q_fadr_rptr rfl) ?_ | refine ax_q (q_fadr_ip rfl) ?_
  refine ax_e (e_str (q := GLogRecord.row (GLogRecord.mk1 (k0 + 10 * k) xs[k])) rfl rfl rfl rfl rfl rfl (setAt h1l) rfl rfl (set_set' (markL_set h1x))) ?_
  refine ax_nil ?_
  refine cx_keep rfl rfl ?_
  refine cx_ops ?_
  refine ax_q (q_mov rfl) ?_
  refine ax_qe (r' := int ((k0 + 10 * k + 10 : Nat) : Int)) (q_ibin rfl rfl rfl) (by rw [wi (by omega) (by omega)]; rfl) ?_
  refine ax_q (q_mov rfl) ?_
  refine ax_nil ?_
  refine cx_keep rfl rfl ?_
  refine cx_ops ?_
  refine ax_q (q_mov rfl) ?_
  refine ax_qe (r' := int ((k + 1 : Nat) : Int)) (q_ibin rfl rfl rfl) (by rw [wi (by omega) (by omega)]; rfl) ?_
  refine ax_q (q_mov rfl) ?_
  refine ax_nil ?_
  exact ⟨_, k + 1, by omega, ⟨by omega, rfl⟩, by repeat (first | exact trivial | refine ⟨rfl, ?_⟩ | refine ⟨?_, ?_⟩)⟩
 ·
  have h0 := dF h0
  refine cx_exit rfl ?_
  refine cx_keep rfl rfl ?_
  refine cx_seq ?_
  refine cx_ops ?_
  refine ax_q (q_mov rfl) ?_
  refine ax_q (q_mov rfl) ?_
  refine ax_nil ?_
  refine cx_keep rfl rfl ?_
  have hk2 : k = xs.length := by omega
  subst hk2
  refine cx_ret (retN id [1000] rfl rfl rfl rfl rfl ?_)
  exact ⟨rfl, by rw [markL_full]; rfl⟩


/- loop.example/g00332/laws.heldLogRecordS -/
def k_c_heldLogRecordS : XCode :=
 .seq (.ops [.op (some 4) (.mov (.k (.int .i64 0)))])
 (.keep [0, 1] (.seq (.seq (.ops [.op (some 5) (.mov (.k (.int .i64 0)))])
  (.keep [0, 1, 5] (.block 0 (.loop (.seq (.seq (.ops [.op (some 6) (.mov (.t 5)),
     .op (some 7) (.mov (.t 0)),
     .op (some 8) (.lenS (.t 7)),
     .op (some 9) (.bin .lss (.t 6) (.t 8))])
   (.keep [0, 1, 5, 9] (.cond (.t 9)
    (.skip)
    (.exit 0))))
   (.keep [0, 1, 5] (.seq (.block 1 (.seq (.seq (.ops [.op (some 12) (.mov (.t 0)),
      .op (some 13) (.mov (.t 5)),
      .op (some 14) (.iadr 10 (.t 12) (.t 13)),
      .op (some 15) (.fadr (.t 14) 0),
      .op (some 16) (.load1 (.t 15)),
      .op (some 17) (.mov (.t 1)),
      .op (some 18) (.bin .neq (.t 16) (.t 17))])
    (.keep [0, 1, 5, 18] (.cond (.t 18)
     (.seq (.ops [.op (some 4) (.mov (.k (.int .i64 (-1))))])
     (.keep [4] (.ret)))
     (.skip))))
    (.keep [0, 1, 5] (.seq (.ops [.op (some 19) (.mov (.t 1)),
     .op (some 20) (.bin .add (.t 19) (.k (.int .i64 1))),
     .op (some 1) (.mov (.t 20))])
    (.keep [0, 1, 5] (.seq (.seq (.ops [.op (some 21) (.mov (.t 0)),
      .op (some 22) (.mov (.t 5)),
      .op (some 23) (.iadr 10 (.t 21) (.t 22)),
      .op (some 24) (.fadr (.t 23) 1),
      .op (some 25) (.load1 (.t 24)),
      .op (some 26) (.mov (.t 1)),
      .op (some 27) (.bin .neq (.t 25) (.t 26))])
    (.keep [0, 1, 5, 27] (.cond (.t 27)
     (.seq (.ops [.op (some 4) (.mov (.k (.int .i64 (-1))))])
     (.keep [4] (.ret)))
     (.skip))))
    (.keep [0, 1, 5] (.seq (.ops [.op (some 28) (.mov (.t 1)),
     .op (some 29) (.bin .add (.t 28) (.k (.int .i64 1))),
     .op (some 1) (.mov (.t 29))])
    (.keep [0, 1, 5] (.seq (.seq (.ops [.op (some 30) (.mov (.t 0)),
      .op (some 31) (.mov (.t 5)),
      .op (some 32) (.iadr 10 (.t 30) (.t 31)),
      .op (some 33) (.fadr (.t 32) 2),
      .op (some 34) (.load1 (.t 33)),
      .op (some 35) (.mov (.t 1)),
      .op (some 36) (.bin .neq (.t 34) (.t 35))])
    (.keep [0, 1, 5, 36] (.cond (.t 36)
     (.seq (.ops [.op (some 4) (.mov (.k (.int .i64 (-1))))])
     (.keep [4] (.ret)))
     (.skip))))
    (.keep [0, 1, 5] (.seq (.ops [.op (some 37) (.mov (.t 1)),
     .op (some 38) (.bin .add (.t 37) (.k (.int .i64 1))),
     .op (some 1) (.mov (.t 38))])
    (.keep [0, 1, 5] (.seq (.seq (.ops [.op (some 39) (.mov (.t 0)),
      .op (some 40) (.mov (.t 5)),
      .op (some 41) (.iadr 10 (.t 39) (.t 40)),
      .op (some 42) (.fadr (.t 41) 3),
      .op (some 43) (.load1 (.t 42)),
      .op (some 44) (.mov (.t 1)),
      .op (some 45) (.bin .neq (.t 43) (.t 44))])
    (.keep [0, 1, 5, 45] (.cond (.t 45)
     (.seq (.ops [.op (some 4) (.mov (.k (.int .i64 (-1))))])
     (.keep [4] (.ret)))
     (.skip))))
    (.keep [0, 1, 5] (.seq (.ops [.op (some 46) (.mov (.t 1)),
     .op (some 47) (.bin .add (.t 46) (.k (.int .i64 1))),
     .op (some 1) (.mov (.t 47))])
    (.keep [0, 1, 5] (.seq (.seq (.ops [.op (some 48) (.mov (.t 0)),
      .op (some 49) (.mov (.t 5)),
      .op (some 50) (.iadr 10 (.t 48) (.t 49)),
      .op (some 51) (.fadr (.t 50) 4),
      .op (some 52) (.load1 (.t 51)),
      .op (some 53) (.mov (.t 1)),
      .op (some 54) (.bin .neq (.t 52) (.t 53))])
    (.keep [0, 1, 5, 54] (.cond (.t 54)
     (.seq (.ops [.op (some 4) (.mov (.k (.int .i64 (-1))))])
     (.keep [4] (.ret)))
     (.skip))))
    (.keep [0, 1, 5] (.seq (.ops [.op (some 55) (.mov (.t 1)),
     .op (some 56) (.bin .add (.t 55) (.k (.int .i64 1))),
     .op (some 1) (.mov (.t 56))])
    (.keep [0, 1, 5] (.seq (.seq (.ops [.op (some 57) (.mov (.t 0)),
      .op (some 58) (.mov (.t 5)),
      .op (some 59) (.iadr 10 (.t 57) (.t 58)),
      .op (some 60) (.fadr (.t 59) 5),
      .op (some 61) (.load1 (.t 60)),
      .op (some 62) (.mov (.t 1)),
      .op (some 63) (.bin .neq (.t 61) (.t 62))])
    (.keep [0, 1, 5, 63] (.cond (.t 63)
     (.seq (.ops [.op (some 4) (.mov (.k (.int .i64 (-1))))])
     (.keep [4] (.ret)))
     (.skip))))
    (.keep [0, 1, 5] (.seq (.ops [.op (some 64) (.mov (.t 1)),
     .op (some 65) (.bin .add (.t 64) (.k (.int .i64 1))),
     .op (some 1) (.mov (.t 65))])
    (.keep [0, 1, 5] (.seq (.seq (.ops [.op (some 66) (.mov (.t 0)),
      .op (some 67) (.mov (.t 5)),
      .op (some 68) (.iadr 10 (.t 66) (.t 67)),
      .op (some 69) (.fadr (.t 68) 6),
      .op (some 70) (.load1 (.t 69)),
      .op (some 71) (.mov (.t 1)),
      .op (some 72) (.bin .neq (.t 70) (.t 71))])
    (.keep [0, 1, 5, 72] (.cond (.t 72)
     (.seq (.ops [.op (some 4) (.mov (.k (.int .i64 (-1))))])
     (.keep [4] (.ret)))
     (.skip))))
    (.keep [0, 1, 5] (.seq (.ops [.op (some 73) (.mov (.t 1)),
     .op (some 74) (.bin .add (.t 73) (.k (.int .i64 1))),
     .op (some 1) (.mov (.t 74))])
    (.keep [0, 1, 5] (.seq (.seq (.ops [.op (some 75) (.mov (.t 0)),
      .op (some 76) (.mov (.t 5)),
      .op (some 77) (.iadr 10 (.t 75) (.t 76)),
      .op (some 78) (.fadr (.t 77) 7),
      .op (some 79) (.load1 (.t 78)),
      .op (some 80) (.mov (.t 1)),
      .op (some 81) (.bin .neq (.t 79) (.t 80))])
    (.keep [0, 1, 5, 81] (.cond (.t 81)
     (.seq (.ops [.op (some 4) (.mov (.k (.int .i64 (-1))))])
     (.keep [4] (.ret)))
     (.skip))))
    (.keep [0, 1, 5] (.seq (.ops [.op (some 82) (.mov (.t 1)),
     .op (some 83) (.bin .add (.t 82) (.k (.int .i64 1))),
     .op (some 1) (.mov (.t 83))])
    (.keep [0, 1, 5] (.seq (.seq (.draw [.op (some 84) (.mov (.t 0)),
      .op (some 85) (.mov (.t 5)),
      .op (some 86) (.iadr 10 (.t 84) (.t 85)),
      .op (some 87) (.fadr (.t 86) 8),
      .op (some 88) (.load1 (.t 87)),
      .op (some 89) (.mov (.t 1)),
      .call (some 90) 32 [.t 89],
      .op (some 91) (.bin .neq (.t 88) (.t 90))])
    (.keep [0, 1, 5, 91] (.cond (.t 91)
     (.seq (.ops [.op (some 4) (.mov (.k (.int .i64 (-1))))])
     (.keep [4] (.ret)))
     (.skip))))
    (.keep [0, 1, 5] (.seq (.ops [.op (some 92) (.mov (.t 1)),
     .op (some 93) (.bin .add (.t 92) (.k (.int .i64 1))),
     .op (some 1) (.mov (.t 93))])
    (.keep [0, 1, 5] (.seq (.seq (.draw [.op (some 94) (.mov (.t 0)),
      .op (some 95) (.mov (.t 5)),
      .op (some 96) (.iadr 10 (.t 94) (.t 95)),
      .op (some 97) (.fadr (.t 96) 9),
      .op (some 98) (.load1 (.t 97)),
      .op (some 99) (.mov (.t 1)),
      .call (some 100) 32 [.t 99],
      .op (some 101) (.bin .neq (.t 98) (.t 100))])
    (.keep [0, 1, 5, 101] (.cond (.t 101)
     (.seq (.ops [.op (some 4) (.mov (.k (.int .i64 (-1))))])
     (.keep [4] (.ret)))
     (.skip))))
    (.keep [0, 1, 5] (.ops [.op (some 102) (.mov (.t 1)),
     .op (some 103) (.bin .add (.t 102) (.k (.int .i64 1))),
     .op (some 1) (.mov (.t 103))]))))))))))))))))))))))))))))))))))))))))
   (.keep [0, 1, 5] (.ops [.op (some 10) (.mov (.t 5)),
    .op (some 11) (.bin .add (.t 10) (.k (.int .i64 1))),
    .op (some 5) (.mov (.t 11))])))))))))
 (.keep [1] (.seq (.ops [.op (some 104) (.mov (.t 1)),
   .op (some 4) (.mov (.t 104))])
 (.keep [4] (.ret))))))
theorem k_c_heldLogRecordS_fits : fitsF Try.prog 12 ⟨105, k_c_heldLogRecordS, [.t 4]⟩ = true := by kernel_rfl
theorem c_heldLogRecordS {xs : List GLogRecord} {k0 : Nat} (hw : k0 + 10 * xs.length ≤ 1000000000000000000) : Con Try.prog noMv 12 [.d (.sl 10 ((markL GLogRecord.mk1 10 k0 xs).map GLogRecord.row)), int k0] [] (fun r h => r = int ((k0 + 10 * xs.length : Nat) : Int) ∧ h = []) := by
 refine con_of2 k_c_heldLogRecordS_fits rfl fun C hP hmv => ?_
 unfold k_c_heldLogRecordS
 refine cx_seq ?_
 refine cx_ops ?_
 refine ax_q (q_mov rfl) ?_
 refine ax_nil ?_
 refine cx_keep rfl rfl ?_
 refine cx_seq ?_
 refine cx_seq ?_
 refine cx_ops ?_
 refine ax_q (q_mov rfl) ?_
 refine ax_nil ?_
 refine cx_keep rfl rfl ?_
 refine cx_block ?_
 refine cx_loopU (fun m k => k ≤ xs.length ∧ m = xs.length - k) (fun k : Nat => [(1, int ((k0 + 10 * k : Nat) : Int)), (5, int k)]) (fun k => []) ⟨_, 0, ⟨Nat.zero_le _, rfl⟩, by repeat (first | exact trivial | refine ⟨rfl, ?_⟩ | refine ⟨?_, ?_⟩)⟩ ?_
 rintro m k ⟨hk, rfl⟩
 refine cx_seq ?_
 refine cx_seq ?_
 refine cx_ops ?_
 refine ax_q (q_mov rfl) ?_
 refine ax_q (q_mov rfl) ?_
 first | refine ax_q (q_lenS_map rfl) ?_ | refine ax_q (q_lenS_osl rfl) ?_ | refine ax_q (q_lenS_zs rfl) ?_ | refine ax_q (q_lenS rfl) ?_
 refine ax_q (q_ibin rfl rfl rfl) ?_
 refine ax_nil ?_
 refine cx_keep rfl rfl ?_
 refine cx_cond rfl (fun h0 => ?_) (fun h0 => ?_)
 ·
  have h0 := dT h0; rw [markL_len] at h0; have h1x : k < xs.length := by omega
  refine cx_skip ?_
  refine cx_keep rfl rfl ?_
  refine cx_seq ?_
  refine cx_block ?_
  refine cx_seq ?_
  refine cx_seq ?_
  refine cx_ops ?_
  refine ax_q (q_mov rfl) ?_
  refine ax_q (q_mov rfl) ?_
  refine ax_q (q_ix rfl rfl (heldAt h1x)) ?_
  first | refine ax_q (q_fadr_ptr rfl) ?_ | refine ax_q (q_fadr_rptr rfl) ?_ | refine ax_q (q_fadr_ip rfl) ?_
  first | refine ax_q (q_load1_ptr rfl rfl rfl) ?_ | refine ax_q (q_load1_ip rfl) ?_ | refine ax_q (q_load1_rptr rfl rfl rfl rfl) ?_ | refine ax_q (q_load1_rptr rfl rfl (by assumption) rfl) ?_ | refine ax_q (q_load1_rptr rfl rfl (mapAt (by first | assumption | omega)) rfl) ?_
  refine ax_q (q_mov rfl) ?_
  refine ax_q (q_ibin rfl rfl rfl) ?_
  refine ax_nil ?_
  refine cx_keep rfl rfl ?_
  refine cx_cond rfl (fun h1 => ?_) (fun h1 => ?_)
  ·
   have h1 := nT h1
   exact absurd rfl h1
  ·
   have h1 := nF h1
   refine cx_skip ?_
   refine cx_keep rfl rfl ?_
   refine cx_seq ?_
   refine cx_ops ?_
   refine ax_q (q_mov rfl) ?_
   refine ax_qe (r' := int ((k0 + 10 * k + 1 : Nat) : Int)) (q_ibin rfl rfl rfl) (by rw [wi (by omega) (by omega)]; rfl) ?_
   refine ax_q (q_mov rfl) ?_
   refine ax_nil ?_
   refine cx_keep rfl rfl ?_
   refine cx_seq ?_
   refine cx_seq ?_
   refine cx_ops ?_
   refine ax_q (q_mov rfl) ?_
   refine ax_q (q_mov rfl) ?_
   refine ax_q (q_ix rfl rfl (heldAt h1x)) ?_
   first | refine ax_q (q_fadr_ptr rfl) ?_ | refine ax_q (q_fadr_rptr rfl) ?_ | refine ax_q (q_fadr_ip rfl) ?_
   first | refine ax_q (q_load1_ptr rfl rfl rfl) ?_ | refine ax_q (q_load1_ip rfl) ?_ | refine ax_q (q_load1_rptr rfl rfl rfl rfl) ?_ | refine ax_q (q_load1_rptr rfl rfl (by assumption) rfl) ?_ | refine ax_q (q_load1_rptr rfl rfl (mapAt (by first | assumption | omega)) rfl) ?_
   refine ax_q (q_mov rfl) ?_
   refine ax_q (q_ibin rfl rfl rfl) ?_
   refine ax_nil ?_
   refine cx_keep rfl rfl ?_
   refine cx_cond rfl (fun h2 => ?_) (fun h2 => ?_)
   ·
    have h2 := nT h2
    exact absurd rfl h2
   ·
    have h2 := nF h2
    refine cx_skip ?_
    refine cx_keep rfl rfl ?_
    refine cx_seq ?_
    refine cx_ops ?_
    refine ax_q (q_mov rfl) ?_
    refine ax_qe (r' := int ((k0 + 10 * k + 2 : Nat) : Int)) (q_ibin rfl rfl rfl) (by rw [wi (by omega) (by omega)]; rfl) ?_
    refine ax_q (q_mov rfl) ?_
    refine ax_nil ?_
    refine cx_keep rfl rfl ?_
    refine cx_seq ?_
    refine cx_seq ?_
    refine cx_ops ?_
    refine ax_q (q_mov rfl) ?_
    refine ax_q (q_mov rfl) ?_
    refine ax_q (q_ix rfl rfl (heldAt h1x)) ?_
    first | refine ax_q (q_fadr_ptr rfl) ?_ | refine ax_q (q_fadr_rptr rfl) ?_ | refine ax_q (q_fadr_ip rfl) ?_
    first | refine ax_q (q_load1_ptr rfl rfl rfl) ?_ | refine ax_q (q_load1_ip rfl) ?_ | refine ax_q (q_load1_rptr rfl rfl rfl rfl) ?_ | refine ax_q (q_load1_rptr rfl rfl (by assumption) rfl) ?_ | refine ax_q (q_load1_rptr rfl rfl (mapAt (by first | assumption | omega)) rfl) ?_
    refine ax_q (q_mov rfl) ?_
    refine ax_q (q_ibin rfl rfl rfl) ?_
    refine ax_nil ?_
    refine cx_keep rfl rfl ?_
    refine cx_cond rfl (fun h3 => ?_) (fun h3 => ?_)
    ·
     have h3 := nT h3
     exact absurd rfl h3
    ·
     have h3 := nF h3
     refine cx_skip ?_
     refine cx_keep rfl rfl ?_
     refine cx_seq ?_
     refine cx_ops ?_
     refine ax_q (q_mov rfl) ?_
     refine ax_qe (r' := int ((k0 + 10 * k + 3 : Nat) : Int)) (q_ibin rfl rfl rfl) (by rw [wi (by omega) (by omega)]; rfl) ?_
     refine ax_q (q_mov rfl) ?_
     refine ax_nil ?_
     refine cx_keep rfl rfl ?_
     refine cx_seq ?_
     refine cx_seq ?_
     refine cx_ops ?_
     refine ax_q (q_mov rfl) ?_
     refine ax_q (q_mov rfl) ?_
     refine ax_q (q_ix rfl rfl (heldAt h1x)) ?_
     first | refine ax_q (q_fadr_ptr rfl) ?_ | refine ax_q (q_fadr_rptr rfl) ?_ | refine ax_q (q_fadr_ip rfl) ?_
     first | refine ax_q (q_load1_ptr rfl rfl rfl) ?_ | refine ax_q (q_load1_ip rfl) ?_ | refine ax_q (q_load1_rptr rfl rfl rfl rfl) ?_ | refine ax_q (q_load1_rptr rfl rfl (by assumption) rfl) ?_ | refine ax_q (q_load1_rptr rfl rfl (mapAt (by first | assumption | omega)) rfl) ?_
     refine ax_q (q_mov rfl) ?_
     refine ax_q (q_ibin rfl rfl rfl) ?_
     refine ax_nil ?_
     refine cx_keep rfl rfl ?_
     refine cx_cond rfl (fun h4 => ?_) (fun h4 => ?_)
     ·
      have h4 := nT h4
      exact absurd rfl h4
     ·
      have h4 := nF h4
      refine cx_skip ?_
      refine cx_keep rfl rfl ?_
      refine cx_seq ?_
      refine cx_ops ?_
      refine ax_q (q_mov rfl) ?_
      refine ax_qe (r' := int ((k0 + 10 * k + 4 : Nat) : Int)) (q_ibin rfl rfl rfl) (by rw [wi (by omega) (by omega)]; rfl) ?_
      refine ax_q (q_mov rfl) ?_
      refine ax_nil ?_
      refine cx_keep rfl rfl ?_
      refine cx_seq ?_
      refine cx_seq ?_
      refine cx_ops ?_
      refine ax_q (q_mov rfl) ?_
      refine ax_q (q_mov rfl) ?_
      refine ax_q (q_ix rfl rfl (heldAt h1x)) ?_
      first | refine ax_q (q_fadr_ptr rfl) ?_ | refine ax_q (q_fadr_rptr rfl) ?_ | refine ax_q (q_fadr_ip rfl) ?_
      first | refine ax_q (q_load1_ptr rfl rfl rfl) ?_ | refine ax_q (q_load1_ip rfl) ?_ | refine ax_q (q_load1_rptr rfl rfl rfl rfl) ?_ | refine ax_q (q_load1_rptr rfl rfl (by assumption) rfl) ?_ | refine ax_q (q_load1_rptr rfl rfl (mapAt (by first | assumption | omega)) rfl) ?_
      refine ax_q (q_mov rfl) ?_
      refine ax_q (q_ibin rfl rfl rfl) ?_
      refine ax_nil ?_
      refine cx_keep rfl rfl ?_
      refine cx_cond rfl (fun h5 => ?_) (fun h5 => ?_)
      ·
       have h5 := nT h5
       exact absurd rfl h5
      ·
       have h5 := nF h5
       refine cx_skip ?_
       refine cx_keep rfl rfl ?_
       refine cx_seq ?_
       refine cx_ops ?_
       refine ax_q (q_mov rfl) ?_
       refine ax_qe (r' := int ((k0 + 10 * k + 5 : Nat) : Int)) (q_ibin rfl rfl rfl) (by rw [wi (by omega) (by omega)]; rfl) ?_
       refine ax_q (q_mov rfl) ?_
       refine ax_nil ?_
       refine cx_keep rfl rfl ?_
       refine cx_seq ?_
       refine cx_seq ?_
       refine cx_ops ?_
       refine ax_q (q_mov rfl) ?_
       refine ax_q (q_mov rfl) ?_
       refine ax_q (q_ix rfl rfl (heldAt h1x)) ?_
       first | refine ax_q (q_fadr_ptr rfl) ?_ | refine ax_q (q_fadr_rptr rfl) ?_ | refine ax_q (q_fadr_ip rfl) ?_
       first | refine ax_q (q_load1_ptr rfl rfl rfl) ?_ | refine ax_q (q_load1_ip rfl) ?_ | refine ax_q (q_load1_rptr rfl rfl rfl rfl) ?_ | refine ax_q (q_load1_rptr rfl rfl (by assumption) rfl) ?_ | refine ax_q (q_load1_rptr rfl rfl (mapAt (by first | assumption | omega)) rfl) ?_
       refine ax_q (q_mov rfl) ?_
       refine ax_q (q_ibin rfl rfl rfl) ?_
       refine ax_nil ?_
       refine cx_keep rfl rfl ?_
       refine cx_cond rfl (fun h6 => ?_) (fun h6 => ?_)
       ·
        have h6 := nT h6
        exact absurd rfl h6
       ·
        have h6 := nF h6
        refine cx_skip ?_
        refine cx_keep rfl rfl ?_
        refine cx_seq ?_
        refine cx_ops ?_
        refine ax_q (q_mov rfl) ?_
        refine ax_qe (r' := int ((k0 + 10 * k + 6 : Nat) : Int)) (q_ibin rfl rfl rfl) (by rw [wi (by omega) (by omega)]; rfl) ?_
        refine ax_q (q_mov rfl) ?_
        refine ax_nil ?_
        refine cx_keep rfl rfl ?_
        refine cx_seq ?_
        refine cx_seq ?_
        refine cx_ops ?_
        refine ax_q (q_mov rfl) ?_
        refine ax_q (q_mov rfl) ?_
        refine ax_q (q_ix rfl rfl (heldAt h1x)) ?_
        first | refine ax_q (q_fadr_ptr rfl) ?_ | refine ax_q (q_fadr_rptr rfl) ?_ | refine ax_q (q_fadr_ip rfl) ?_
        first | refine ax_q (q_load1_ptr rfl rfl rfl) ?_ | refine ax_q (q_load1_ip rfl) ?_ | refine ax_q (q_load1_rptr rfl rfl rfl rfl) ?_ | refine ax_q (q_load1_rptr rfl rfl (by assumption) rfl) ?_ | refine ax_q (q_load1_rptr rfl rfl (mapAt (by first | assumption | omega)) rfl) ?_
        refine ax_q (q_mov rfl) ?_
        refine ax_q (q_ibin rfl rfl rfl) ?_
        refine ax_nil ?_
        refine cx_keep rfl rfl ?_
        refine cx_cond rfl (fun h7 => ?_) (fun h7 => ?_)
        ·
         have h7 := nT h7
         exact absurd rfl h7
        ·
         have h7 := nF h7
         refine cx_skip ?_
         refine cx_keep rfl rfl ?_
         refine cx_seq ?_
         refine cx_ops ?_
         refine ax_q (q_mov rfl) ?_
         refine ax_qe (r' := int ((k0 + 10 * k + 7 : Nat) : Int)) (q_ibin rfl rfl rfl) (by rw [wi (by omega) (by omega)]; rfl) ?_
         refine ax_q (q_mov rfl) ?_
         refine ax_nil ?_
         refine cx_keep rfl rfl ?_
         refine cx_seq ?_
         refine cx_seq ?_
         refine cx_ops ?_
         refine ax_q (q_mov rfl) ?_
         refine ax_q (q_mov rfl) ?_
         refine ax_q (q_ix rfl rfl (heldAt h1x)) ?_
         first | refine ax_q (q_fadr_ptr rfl) ?_ | refine ax_q (q_fadr_rptr rfl) ?_ | refine ax_q (q_fadr_ip rfl) ?_
         first | refine ax_q (q_load1_ptr rfl rfl rfl) ?_ | refine ax_q (q_load1_ip rfl) ?_ | refine ax_q (q_load1_rptr rfl rfl rfl rfl) ?_ | refine ax_q (q_load1_rptr rfl rfl (by assumption) rfl) ?_ | refine ax_q (q_load1_rptr rfl rfl (mapAt (by first | assumption | omega)) rfl) ?_
         refine ax_q (q_mov rfl) ?_
         refine ax_q (q_ibin rfl rfl rfl) ?_
         refine ax_nil ?_
         refine cx_keep rfl rfl ?_
         refine cx_cond rfl (fun h8 => ?_) (fun h8 => ?_)
         ·
          have h8 := nT h8
          exact absurd rfl h8
         ·
          have h8 := nF h8
          refine cx_skip ?_
          refine cx_keep rfl rfl ?_
          refine cx_seq ?_
          refine cx_ops ?_
          refine ax_q (q_mov rfl) ?_
          refine ax_qe (r' := int ((k0 + 10 * k + 8 : Nat) : Int)) (q_ibin rfl rfl rfl) (by rw [wi (by omega) (by omega)]; rfl) ?_
          refine ax_q (q_mov rfl) ?_
          refine ax_nil ?_
          refine cx_keep rfl rfl ?_
          refine cx_seq ?_
          refine cx_seq ?_
          refine cx_draw ?_
          refine ax_q (q_mov rfl) ?_
          refine ax_q (q_mov rfl) ?_
          refine ax_q (q_ix rfl rfl (heldAt h1x)) ?_
          first | refine ax_q (q_fadr_ptr rfl) ?_ | refine ax_q (q_fadr_rptr rfl) ?_ | refine ax_q (q_fadr_ip rfl) ?_
          first | refine ax_q (q_load1_ptr rfl rfl rfl) ?_ | refine ax_q (q_load1_ip rfl) ?_ | refine ax_q (q_load1_rptr rfl rfl rfl rfl) ?_ | refine ax_q (q_load1_rptr rfl rfl (by assumption) rfl) ?_ | refine ax_q (q_load1_rptr rfl rfl (mapAt (by first | assumption | omega)) rfl) ?_
          refine ax_q (q_mov rfl) ?_
          refine ax_callq rfl (c_markText (by omega)) hP (lal_id _ rfl) rfl ?_
          refine ax_q (q_sbin rfl rfl rfl) ?_
          refine ax_nil ?_
          refine cx_keep rfl rfl ?_
          refine cx_cond rfl (fun h9 => ?_) (fun h9 => ?_)
          ·
           have h9 := nT h9
           exact absurd rfl h9
          ·
           have h9 := nF h9
           refine cx_skip ?_
           refine cx_keep rfl rfl ?_
           refine cx_seq ?_
           refine cx_ops ?_
           refine ax_q (q_mov rfl) ?_
           refine ax_qe (r' := int ((k0 + 10 * k + 9 : Nat) : Int)) (q_ibin rfl rfl rfl) (by rw [wi (by omega) (by omega)]; rfl) ?_
           refine ax_q (q_mov rfl) ?_
           refine ax_nil ?_
           refine cx_keep rfl rfl ?_
           refine cx_seq ?_
           refine cx_seq ?_
           refine cx_draw ?_
           refine ax_q (q_mov rfl) ?_
           refine ax_q (q_mov rfl) ?_
           refine ax_q (q_ix rfl rfl (heldAt h1x)) ?_
           first | refine ax_q (q_fadr_ptr rfl) ?_ | refine ax_q (q_fadr_rptr rfl) ?_ | refine ax_q (q_fadr_ip rfl) ?_
           first | refine ax_q (q_load1_ptr rfl rfl rfl) ?_ | refine ax_q (q_load1_ip rfl) ?_ | refine ax_q (q_load1_rptr rfl rfl rfl rfl) ?_ | refine ax_q (q_load1_rptr rfl rfl (by assumption) rfl) ?_ | refine ax_q (q_load1_rptr rfl rfl (mapAt (by first | assumption | omega)) rfl) ?_
           refine ax_q (q_mov rfl) ?_
           refine ax_callq rfl (c_markText (by omega)) hP (lal_id _ rfl) rfl ?_
           refine ax_q (q_sbin rfl rfl rfl) ?_
           refine ax_nil ?_
           refine cx_keep rfl rfl ?_
           refine cx_cond rfl (fun h10 => ?_) (fun h10 => ?_)
           ·
            have h10 := nT h10
            exact absurd rfl h10
           ·
            have h10 := nF h10
            refine cx_skip ?_
            refine cx_keep rfl rfl ?_
            refine cx_ops ?_
            refine ax_q (q_mov rfl) ?_
            refine ax_qe (r' := int ((k0 + 10 * k + 10 : Nat) : Int)) (q_ibin rfl rfl rfl) (by rw [wi (by omega) (by omega)]; rfl) ?_
            refine ax_q (q_mov rfl) ?_
            refine ax_nil ?_
            refine cx_keep rfl rfl ?_
            refine cx_ops ?_
            refine ax_q (q_mov rfl) ?_
            refine ax_qe (r' := int ((k + 1 : Nat) : Int)) (q_ibin rfl rfl rfl) (by rw [wi (by omega) (by omega)]; rfl) ?_
            refine ax_q (q_mov rfl) ?_
            refine ax_nil ?_
            exact ⟨_, k + 1, by omega, ⟨by omega, rfl⟩, by repeat (first | exact trivial | refine ⟨rfl, ?_⟩ | refine ⟨?_, ?_⟩)⟩
 ·
  have h0 := dF h0; rw [markL_len] at h0; have h1x : k = xs.length := by omega
  refine cx_exit rfl ?_
  refine cx_keep rfl rfl ?_
  refine cx_seq ?_
  refine cx_ops ?_
  refine ax_q (q_mov rfl) ?_
  refine ax_q (q_mov rfl) ?_
  refine ax_nil ?_
  refine cx_keep rfl rfl ?_
  refine cx_ret (ret0 rfl rfl ?_)
  exact ⟨by rw [h1x]; rfl, rfl⟩

end Go.Proofs.Ytnkaifkejkabhaa
